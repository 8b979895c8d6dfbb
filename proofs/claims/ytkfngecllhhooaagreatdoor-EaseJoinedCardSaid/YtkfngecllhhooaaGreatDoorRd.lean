/- A part. -/
import Derived.Test.YtkfngecllhhooaaGreatDoorUe
import Derived.Test.YtkfngecllhhooaaGreatDoorRa
set_option linter.all false
set_option maxRecDepth 100000
set_option maxHeartbeats 16000000
namespace Go.Abs
section
variable{F:Nat}
def yQ(q:Pc->Bool):Prop:=∀p p':Pc,p.l.kind=p'.l.kind->q p=q p'
theorem vu{q:Pc->Bool}(l:List Pc)(drop:Nat->Pc->Bool):(iD l drop).countP q<=l.countP q:=by
 have key:∀k,k<=l.length->(kS l drop k).countP q<=(l.take k).countP q:=by
  intro k
  induction k with
  |zero=>intro _;exact aaj _
  |succ k ih=>
   intro hk;obtain⟨p,hp⟩:=ao (ls:=l) (k:=k) (by omega);have:=ih (by omega);rw[abM,hp,acb];cases hd:drop k p
   .rw[jG hp hd,acb];exact Nat.add_le_add_right this _
   rw[fh hp hd];omega
 have:=key l.length (aaj _);rwa[abw] at this
theorem DF{q:Pc->Bool}(hq:yQ q){f:Pc->Pc}(hf:∀p,(f p).l.kind=p.l.kind)(l:List Pc):(l.map f).countP q=l.countP q:=by rw[ac4];exact List.countP_congr fun p _=>by rw[Function.comp_apply,hq _ _ (hf p)]
theorem Oy(g ab b:Int)(p:Pc):(ED g ab b p).l.kind=p.l.kind:=by unfold ED;split<;>rfl
theorem BT(ids:List Int)(p:Pc):(pY ids p).l.kind=p.l.kind:=by unfold pY;split<;>rfl
section
variable {F:Nat} {ls:List Let}
theorem JB(g:cV F ls){q:Pc->Bool}:∀(es:List Nat) (l:List Pc),l.length=ls.length->(∀e∈es,e<ls.length)->(qh ls l es).countP q=l.countP q:=by
 intro es
 induction es with
 |nil=>intro l _ _;rfl
 |cons e es ih=>intro l hl he;show(qh ls (nT ls l e) es).countP q=_;rw[ih _ (by rw[nX,hl]) fun e h=>he e (by simp[h]),ru hl (he e (by simp)) (Ia g (he e (by simp)))]
theorem xY{q:Pc->Bool}(hq:yQ q)(l:List Pc)(i:Nat)(r:Int):(ek l i r).countP q=l.countP q:=by
 by_cases h:i<l.length
 .obtain⟨p,hp⟩:=ao h;exact u5 hp fun p=>hq _ _ rfl
 unfold ek;rw[List.set_eq_of_length_le (by omega)]
def k5 (k:Int):Prop:=k=1\/k=3\/k=4\/k=6\/k=8
theorem oI(g:cV F ls){q:Pc->Bool}(hq:yQ q){k:Int}(hk:k5 k){a b c:Nat}{l o:Bool}{sg:Int}(ha:a<ls.length)(hb:b<ls.length\/(k≠3/\k≠8))(hc:c<ls.length\/k≠8){L:List Pc}(h:jW F ls k a b c l o sg=some L):L.countP q<=(pieces ls).countP q:=by
 have hpl:=aB ls;rcases hk with rfl|rfl|rfl|rfl|rfl
 .have h:Ss ls a=some L:=h;unfold Ss at h;simp only at h;split at h
  .cases h;show(List.map _ _).countP q<=_;rw[DF hq (Oy _ _ _)];exact vu (q:=q) (pieces ls) _
  cases h
 .have h:Sr F ls a b=some L:=h;unfold Sr at h;split at h
  .cases h;rw[JB g _ _ (by rw[fW,fW,hpl]) (by
    intro e he;simp only[aat,aa9,or_false] at he;rcases he with rfl|rfl
    .exact ha
    rcases hb with hb|hb
    .exact hb
    exact absurd rfl hb.1),xY hq,xY hq]
   exact aaj _
  cases h
 .have h:Sl ls a=some L:=h;unfold Sl at h;simp only at h;split at h
  .cases h;show(List.map _ _).countP q<=_;rw[DF hq (BT _)];exact vu (q:=q) (pieces ls) _
  cases h
 .have h:Sh F ls a b=some L:=h;unfold Sh at h;split at h
  .cases h;show(List.map _ _).countP q<=_;rw[DF hq (BT _)];exact vu (q:=q) (pieces ls) _
  cases h
 have h:Nz F ls a b c=some L:=h;unfold Nz at h;split at h
 .cases h;rw[JB g _ _ hpl (by
   intro e he;simp only[aat,aa9,or_false] at he;rcases he with rfl|rfl|rfl
   .exact ha
   .rcases hb with hb|hb
    .exact hb
    exact absurd rfl hb.2
   rcases hc with hc|hc
   .exact hc
   exact absurd rfl hc)]
  exact aaj _
 cases h
theorem do5(g:cV F ls){k:Int}(hk:k5 k)(a b c:Int)(l o:Bool)(sg:Int):aP S 56 [.one (.p (dE F ls)),rQ k a b c l o sg] (tF F ls k a b c l o sg):=by
 have pa:=Wf (F:=F) (ls:=ls) (a:=a) (b:=b) (c:=c) (l:=l) (o:=o) (sg:=sg) k;have hlen:=g.len;have hcr:=g.cr;unfold tF;cases hA:aQ F ls k a b c l o sg with
 |false=>rw[hA] at pa;exact QN pa
 |true=>
  rw[hA] at pa;rw[if_pos rfl];have hL:∀L,jW F ls k a.toNat b.toNat c.toNat l o sg=some L->L.length<=1000000:=fun L h=>by have:=BN h;omega
  have ne:=g.ne;have hnl:¬ls.length=0:=by have:=abh.2 ne;omega
  unfold aQ at hA;by_cases h1:k=1
  .subst h1;simp only[Int.reduceEq,if_true,if_false,or_false,or_self] at hA;simp only[aay,abB,beq_iff_eq] at hA;obtain⟨rfl,rfl,rfl,hx,rfl,rfl⟩:=hA;obtain⟨av,rfl,ha⟩:=eJ hx;simp only[ab1] at hL ⊢;exact QM hlen hcr (k:=1) rfl (by decide) (by kernel_rfl) pa (Nn g ha) hL
  by_cases h3:k=3
  .subst h3;simp only[Int.reduceEq,if_true,if_false,or_false,or_self] at hA;simp only[aay,abB,beq_iff_eq,decide_eq_true_eq] at hA;obtain⟨rfl,rfl,rfl,hx,rfl,hy,hlt⟩:=hA;obtain⟨av,rfl,ha⟩:=eJ hx;obtain⟨bv,rfl,hb⟩:=eJ hy;simp only[ab1] at hL ⊢;exact QM hlen hcr (k:=3) rfl (by decide) (by kernel_rfl) pa (GY g ha hb) hL
  by_cases h4:k=4
  .subst h4;simp only[Int.reduceEq,if_true,if_false,or_false,or_true,or_self] at hA;simp only[aay,abB,beq_iff_eq] at hA;obtain⟨rfl,rfl,rfl,hx,rfl,rfl⟩:=hA;obtain⟨av,rfl,ha⟩:=eJ hx;simp only[ab1] at hL ⊢;exact QM hlen hcr (k:=4) rfl (by decide) (by kernel_rfl) pa (Mw g ha) hL
  by_cases h6:k=6
  .subst h6;simp only[Int.reduceEq,if_true,if_false,or_true,or_self] at hA;simp only[aay,abB,beq_iff_eq,decide_eq_true_eq] at hA;obtain⟨rfl,rfl,rfl,hx,rfl,hy,hlt⟩:=hA;obtain⟨av,rfl,ha⟩:=eJ hx;obtain⟨bv,rfl,hb⟩:=eJ hy;simp only[ab1] at hL ⊢;exact QM hlen hcr (k:=6) rfl (by decide) (by kernel_rfl) pa (Ml g ha hb) hL
  by_cases h8:k=8
  .subst h8;simp only[Int.reduceEq,if_true,if_false,or_self] at hA;simp only[aay,abB,beq_iff_eq,decide_eq_true_eq] at hA;obtain⟨rfl,rfl,rfl,hx,hy,hz,_,_⟩:=hA;obtain⟨av,rfl,ha⟩:=eJ hx;obtain⟨bv,rfl,hb⟩:=eJ hy;obtain⟨cv,rfl,hc⟩:=eJ hz;simp only[ab1] at hL ⊢;exact QM hlen hcr (k:=8) rfl (by decide) (by kernel_rfl) pa (Hy g ha hb hc) hL
  exact absurd hk (by rintro (h|h|h|h|h)<;>contradiction)
theorem Je(g:cV F ls){k:Int}(hk:k5 k)(a b c:Int)(l o:Bool)(sg:Int):aP S 38 [bj F ls,rQ k a b c l o sg] (tF F ls k a b c l o sg):=CJ (Pb g) (do5 g hk a b c l o sg) Nr
theorem Vb(g:cV F ls){k:Int}(hk:k5 k)(a b c:Int)(l o:Bool)(sg:Int):(∃e,e≠0/\tF F ls k a b c l o sg=gE e)\/ ∃M,tF F ls k a b c l o sg=jr F M/\ay F M=0/\aQ F ls k a b c l o sg=true/\ ∃L,jW F ls k a.toNat b.toNat c.toNat l o sg=some L/\M=lf L:=by
 unfold tF;cases hA:aQ F ls k a b c l o sg
 .exact .inl ⟨2,by decide,rfl⟩
 rw[if_pos rfl];cases hm:jW F ls k a.toNat b.toNat c.toNat l o sg with
 |none=>exact .inl ⟨4,by decide,rfl⟩
 |some L=>
  unfold GD;by_cases hgr:(400:Int)<(ls.length:Int)+(bK k).1\/(100:Int)<((aA Let.aD ls/2:Nat):Int)+(bK k).2
  .exact .inl ⟨7,by decide,if_pos hgr⟩
  refine .inr ⟨lf L,if_neg hgr,?_,rfl,L,rfl,rfl⟩;have hlen:=g.len;have hcr:=g.cr;have hF:=g.fing;have ne:=g.ne;have hnl:¬ls.length=0:=by have:=abh.2 ne;omega
  have hev:aA Let.aD ls%2=0:=by have:=g.cz.ev;rwa[fq] at this
  have hpl:=aB ls;have kT:yQ (fun _=>true):=fun _ _ _=>rfl;have kC:yQ (fun p=>p.l.aD):=fun p p' h=>by show(p.l.kind==2)=(p'.l.kind==2);rw[h]
  have pC:(pieces ls).countP (fun p=>p.l.aD)=aA Let.aD ls:=by rw[<- xg (ls:=ls) Let.aD];show _=List.countP _ (List.map _ _);rw[ac4];rfl
  have lC:aA Let.aD (L.map Pc.l)=L.countP (fun p=>p.l.aD):=by show List.countP _ (List.map _ _)=_;rw[ac4];rfl
  have tT:∀l:List Pc,l.countP (fun _=>true)=l.length:=fun l=>by simp
  have fin:L=[]\/Cert F L->(∀ {av bv cv:Nat},a=(av:Int)->b=(bv:Int)->c=(cv:Int)->av<ls.length->(bv<ls.length\/(k≠3/\k≠8))->(cv<ls.length\/k≠8)->ay F (lf L)=0):=by
   intro hc av bv cv e1 e2 e3 ha hb hcc;subst e1 e2 e3;simp only[ab1] at hm;have c1:=oI g kT hk ha hb hcc hm;have c2:=oI g kC hk ha hb hcc hm;rw[tT,tT,hpl] at c1;rw[pC] at c2;rcases hc with rfl|hc
   .unfold ay;have:lf []=[]:=rfl;rw[this];rw[if_neg (by simp[aA]),if_neg (by omega),if_pos rfl]
   exact hc.check (by omega) (by rw[lC];omega) hF
  unfold aQ at hA;by_cases h1:k=1
  .subst h1;simp only[Int.reduceEq,if_true,if_false,or_false,or_self] at hA;simp only[aay,abB,beq_iff_eq] at hA;obtain⟨rfl,rfl,rfl,hx,rfl,rfl⟩:=hA;obtain⟨av,rfl,ha⟩:=eJ hx;exact fin (ZV g ha (by simpa [jW] using hm)) rfl (bv:=0) rfl (cv:=0) rfl ha (.inr ⟨by decide,by decide⟩) (.inr (by decide))
  by_cases h3:k=3
  .subst h3;simp only[Int.reduceEq,if_true,if_false,or_false,or_self] at hA;simp only[aay,abB,beq_iff_eq,decide_eq_true_eq] at hA;obtain⟨rfl,rfl,rfl,hx,rfl,hy,hlt⟩:=hA;obtain⟨av,rfl,ha⟩:=eJ hx;obtain⟨bv,rfl,hb⟩:=eJ hy;exact fin (.inr (ZU g ha hb (by omega) (by simpa [jW] using hm))) rfl rfl (cv:=0) rfl ha (.inl hb) (.inr (by decide))
  by_cases h4:k=4
  .subst h4;simp only[Int.reduceEq,if_true,if_false,or_false,or_true,or_self] at hA;simp only[aay,abB,beq_iff_eq] at hA;obtain⟨rfl,rfl,rfl,hx,rfl,rfl⟩:=hA;obtain⟨av,rfl,ha⟩:=eJ hx;exact fin (.inr (ZT g ha (by simpa [jW] using hm))) rfl (bv:=0) rfl (cv:=0) rfl ha (.inr ⟨by decide,by decide⟩) (.inr (by decide))
  by_cases h6:k=6
  .subst h6;simp only[Int.reduceEq,if_true,if_false,or_true,or_self] at hA;simp only[aay,abB,beq_iff_eq,decide_eq_true_eq] at hA;obtain⟨rfl,rfl,rfl,hx,rfl,hy,hlt⟩:=hA;obtain⟨av,rfl,ha⟩:=eJ hx;obtain⟨bv,rfl,hb⟩:=eJ hy;exact fin (.inr (ZS g ha hb (by simpa [jW] using hm))) rfl rfl (cv:=0) rfl ha (.inr ⟨by decide,by decide⟩) (.inr (by decide))
  by_cases h8:k=8
  .subst h8;simp only[Int.reduceEq,if_true,if_false,or_self] at hA;simp only[aay,abB,beq_iff_eq,decide_eq_true_eq] at hA;obtain⟨rfl,rfl,rfl,hx,hy,hz,_,_⟩:=hA;obtain⟨av,rfl,ha⟩:=eJ hx;obtain⟨bv,rfl,hb⟩:=eJ hy;obtain⟨cv,rfl,hc⟩:=eJ hz;exact fin (.inr (ZR g ha hb hc (by simpa [jW] using hm))) rfl rfl rfl ha (.inl hb) (.inl hc)
  exact absurd hk (by rintro (h|h|h|h|h)<;>contradiction)
end
def Sj(x y:bU):Bool:=decide (x.b<y.b)||(decide (x.b=y.b)&&decide (x.c<y.c))
def SU(m:bU):Prop:=(0<=m.b/\m.b<=1000000)/\0<=m.c/\m.c<=1000000
theorem Ws:Swo Sj:=⟨fun a b h=>by unfold Sj at*;simp at*;omega,fun a b c h k=>by unfold Sj at*;simp at*;omega⟩
theorem ZN(x y:bU)(hx:SU x)(hy:SU y):∃n:Int,aP S 129 [pR x,pR y] (ri n)/\(decide (n<0)=Sj x y):=by
 obtain⟨⟨x1,x2⟩,x3,x4⟩:=hx;obtain⟨⟨y1,y2⟩,y3,y4⟩:=hy;have w1:IntKind.i64.wrap (x.b-y.b)=x.b-y.b:=jT (by omega) (by omega);have w2:IntKind.i64.wrap (x.c-y.c)=x.c-y.c:=jT (by omega) (by omega);cases hb:(x.b==y.b) with
 |true=>
  have e:x.b=y.b:=eq_of_beq hb;refine⟨x.c-y.c,?_,?_⟩
  .refine aJ c129 ?_;simp only[go_sem,i129,bne,hb,w2]
  unfold Sj;rw[Bool.eq_iff_iff];simp;omega
 |false=>
  have e:¬x.b=y.b:=by simpa using hb
  refine⟨x.b-y.b,?_,?_⟩
  .refine aJ c129 ?_;simp only[go_sem,i129,bne,hb,w1]
  unfold Sj;rw[Bool.eq_iff_iff];simp;omega
abbrev mP(o:List bU):List (List PV):=o.map bU.ps
theorem Pv(o:List bU)(k:Nat)(v:bU):(mP o).set k v.ps=mP (o.set k v):=by simp[List.map_set]
theorem eS(o:List bU):(mP o).length=o.length:=aau _
def uY(id g ty:Nat)(es:List bU)(blk:aw)(v:V)(aaf:aw):Prop:=v=.tup []/\(∃ws:List bU,aaf id=(g,some (.arr ty 7 (mP ws)))/\ws.Perm es/\RX Sj ws 0 ws.length)/\Kept (· =id) blk aaf
abbrev Wc:V:=.one (.p (.fn 129 [] []))
theorem Xe{al:Al}{blk:aw}{id g ty:Nat}{es:List bU}(o:al.ok id=true)(hl:es.length<=1000000)(hsm:∀m∈es,SU m)(hC:blk id=(g,some (.arr ty 7 (mP es)))):
  ∃v aaf,nQ S 171 [.one (.hsl id g 7 0 es.length),vi 0,vi es.length,Wc] al blk v aaf/\uY id g ty es blk v aaf:=by
 have scm:S.shared 129=false:=by kernel_rfl
 refine dO c171 (aaW rfl) ?_;have w0:IntKind.i64.wrap (0+1)=((0+1:Nat):Int):=by decide
 simp only[go_sem,i171];refine aV (fun k env aaf=>env 0=.one (.hsl id g 7 0 es.length)/\env 1=vi 0/\env 2=vi es.length/\env 3=Wc/\env 8=vi ((k+1:Nat):Int)/\ ∃zs:List bU,aaf id=(g,some (.arr ty 7 (mP zs)))/\zs.Perm es/\RX Sj zs 0 (k+1)/\Kept (· =id) blk aaf) 0 es.length (aan _) ?_ ?_
 .simp only[go_sem];exact⟨rfl,es,hC,.refl _,fun p q x y _ h1 h2=>by omega,Kept.refl _ _⟩
 rintro k env aao hk ⟨h0,h1,h2,h3,h6,zs,hZ,hp,hs,hkp⟩
 have hzl:=hp.length_eq;by_cases hlt:k+1<es.length
 .have aak:((k+1:Nat):Int)<(es.length:Int):=by omega
  obtain⟨x,hx⟩:=ao (ls:=zs) (k:=k+1) (by omega);have sx:SU x:=hsm x (hp.mem_iff.1 (aae hx));simp only[go_sem,i171_l3,h2,h6,aak];refine aV (fun q env aaf=>env 0=.one (.hsl id g 7 0 es.length)/\env 1=vi 0/\env 2=vi es.length/\env 3=Wc/\env 8=vi ((k+1:Nat):Int)/\env 9=vi ((k+1-q:Nat):Int)/\ ∃ws:List bU,aaf id=(g,some (.arr ty 7 (mP ws)))/\Au Sj zs ws x 0 (k+1) (k+1-q)/\Kept (· =id) blk aaf) 0 (k+1) (aan _) ?_ ?_
  .simp only[go_sem,h0,h1,h2,h3,h6];exact⟨zs,hZ,Au.start (aan _) hx hs,hkp⟩
  rintro q aar aal hq ⟨k0,k1,k2,k3,k6,k7,ws,hW,hI,aeK⟩
  have hwl:ws.length=es.length:=hI.perm.length_eq.trans hzl;have wk:IntKind.i64.wrap (((k+1:Nat):Int)+1)=((k+1+1:Nat):Int):=ak (n:=k+1) (by omega);by_cases hj0:k+1-q=0
  .have e7:¬((0:Int)<((k+1-q:Nat):Int)):=by omega
   simp only[go_sem,i171_l1,i171_r2,k0,k1,k2,k3,k6,k7,e7,wk];refine⟨aK,by omega,ws,hW,hI.perm.trans hp,hI.stop Ws (.inl hj0),aeK⟩
  obtain⟨j,hj⟩:∃j,k+1-q=j+1:=⟨k-q,by omega⟩;have e7:((0:Int)<((j+1:Nat):Int)):=by omega
  obtain⟨y,hy⟩:=ao (ls:=ws) (k:=j) (by omega);have sy:SU y:=hsm y ((hI.perm.trans hp).mem_iff.1 (aae hy));rw[hj] at hI k7;have wj:IntKind.i64.wrap (((j+1:Nat):Int)-1)=(j:Int):=by rw[iJ (by omega)];omega
  have hxa:=qH hI.at';have hya:=qH hy;have j1:j+1<es.length:=by have:=hI.le;omega
  have j2:j<es.length:=by omega
  obtain⟨n,pl,hn⟩:=ZN x y sx sy;cases hxy:Sj x y with
  |false=>
   rw[hxy] at hn;have hn':¬(n<0):=by simpa using hn
   simp only[go_sem,i171_l1,i171_r2,k0,k1,k2,k3,k6,k7,e7,wk,wj,hW,hxa,hya,bU.ps,j1,j2,o,scm,KS pl,hn'];refine⟨aK,by omega,ws,rfl,hI.perm.trans hp,hI.stop Ws (.inr ⟨y,by omega,hy,hxy⟩),aeK⟩
  |true=>
   rw[hxy] at hn;have hn':n<0:=by simpa using hn
   have hI2:=hI.step Ws (aan _) hy hxy;have hjj:¬(j+1=j):=by omega
   have l1:j+1<ws.length:=by omega
   have l2:j<ws.length:=by omega
   simp only[go_sem,i171_l1,i171_r2,k0,k1,k2,k3,k6,k7,e7,wj,hW,hxa,hya,bU.ps,j1,j2,l1,hjj,o,scm,KS pl,hn',abI,eS];have hq2:k+1-(q+1)=j:=by omega
   refine⟨aK,aK,by omega,by rw[hq2],(ws.set (j+1) y).set j x,by rw[<- Pv,<- Pv];rfl,by rw[hq2];exact hI2,(aeK.fY rfl _).fY rfl _⟩
 have aak:¬(((k+1:Nat):Int)<(es.length:Int)):=by omega
 simp only[go_sem,i171_l3,h2,h6,aak];exact⟨rfl,⟨zs,hZ,hp,hs.mono (.inl (by omega))⟩,hkp⟩
theorem WT{al:Al}{blk:aw}{id g ty:Nat}{es:List bU}(o:al.ok id=true)(f1:al.fs.contains 171=true)(hl:es.length<=12)(hsm:∀m∈es,SU m)(hC:blk id=(g,some (.arr ty 7 (mP es))))(lim:Int):
  ∃v aaf,nQ S 152 [.one (.hsl id g 7 0 es.length),vi 0,vi es.length,vi lim,Wc] al blk v aaf/\uY id g ty es blk v aaf:=by
 refine dO c152 (aaW rfl) ?_;have w0:IntKind.i64.wrap ((es.length:Int)-0)=(es.length:Int):=by rw[Int.sub_zero];exact jT (by omega) (by omega)
 have h12:(es.length:Int)<=12:=by omega
 simp only[go_sem,i152];refine dQ ?_;simp only[go_sem,i152_l1,w0,h12,s171];refine mW hC (by rfl) (.inr ⟨o,by rw[show S.sites 171=[171] by kernel_rfl];simp only[abu,abL,f1,acj]⟩) (P:=uY id g ty es blk) (fun al' h1 _=>Xe h1 (by omega) hsm hC) fun v aaf hP=>?_;obtain⟨rfl,h2⟩:=hP;simp only[go_sem];exact⟨rfl,h2⟩
theorem SS{al:Al}{blk:aw}{id g ty:Nat}{es:List bU}(o:al.ok id=true)(f1:(S.sites 152).all al.fs.contains=true)(hl:es.length<=12)(hsm:∀m∈es,SU m)(hC:blk id=(g,some (.arr ty 7 (mP es)))):
  ∃v aaf,nQ S 128 [.one (.hsl id g 7 0 es.length),Wc] al blk v aaf/\uY id g ty es blk v aaf:=by
 obtain⟨k,pb⟩:=I9 es.length (by omega);have wu:IntKind.u64.wrap (es.length:Int)=(es.length:Int):=by
  have e:IntKind.u64.wrap (es.length:Int)=(es.length:Int)%18446744073709551616:=by unfold IntKind.wrap;rfl
  rw[e];omega
 refine dO c128 (aaW rfl) ?_;have sbl:S.shared 126=false:=by kernel_rfl
 simp only[go_sem,i128,wu,sbl,y9 pb,s152];refine mW hC (by rfl) (.inr ⟨o,f1⟩) (P:=uY id g ty es blk) (fun al' h1 h2=>WT h1 (by rw[h2];kernel_rfl) hl hsm hC k) fun v aaf hP=>?_;obtain⟨rfl,h2⟩:=hP;simp only[go_sem];exact⟨rfl,h2⟩
theorem Qg(o:List Int)(x:Int)(hl:o.length<=1000000):aP S 97 [.one (.p (.sl (iP o))),vi x] (ri (match (List.range o.length).find? (AL o x) with|some k=>(k:Int)|none=> -1)):=by
 refine aJ c97 ?_;simp only[go_sem,i97];refine aV (fun k env blk=>env 0=.one (.p (.sl (iP o)))/\env 1=vi x/\env 7=vi o.length/\env 8=vi k/\ ∀j,j<k->AL o x j=false) 0 o.length (aan _) ?_ ?_
 .simp only[go_sem];exact⟨rfl,fun j hj=>absurd hj (abW j)⟩
 rintro k env blk hk ⟨h0,h1,h7,h8,hn⟩
 by_cases hlt:k<o.length
 .have aak:((k:Int)<(o.length:Int)):=by omega
  obtain⟨y,hy⟩:=ao hlt;have hpp:=sP hy;have w1:=ak (n:=k) (by omega);have hpd:AL o x k=(y==x):=by simp[AL,hy]
  cases hb:(y==x) with
  |true=>
   have hb':(x==y)=true:=by have:=beq_iff_eq.1 hb;simp[this]
   rw[hb] at hpd;have hf:=gH (p:=AL o x) hlt hn hpd;simp only[go_sem,i97_l1,h0,h1,h7,h8,aak,hpp,hb',hf]
  |false=>
   have hb':(x==y)=false:=by
    have:¬y=x:=by simpa using hb
    simp;exact fun h=>this h.symm
   rw[hb] at hpd;have hn':∀j,j<k+1->AL o x j=false:=fun j hj=>by
    rcases abC.1 hj with h|rfl
    .exact hn j h
    exact hpd
   simp only[go_sem,i97_l1,h0,h1,h7,h8,hlt,aak,hpp,hb',w1];exact hn'
 have:k=o.length:=by omega
 subst this;have hf:=fT (p:=AL o x) hn;simp only[go_sem,i97_l1,i97_r2,h7,h8,aS,hf]
theorem wM(o:List Int)(x:Int)(hl:o.length<=1000000):aP S 77 [.one (.p (.sl (iP o))),vi x] (rb (o.contains x)):=by
 have pi:=Qg o x hl;refine aJ c77 ?_;cases hm:o.contains x with
 |true=>
  have hm':x∈o:=by simpa using hm
  obtain⟨k,hk⟩:=abb hm';have hkl:=(aai.1 hk).1;cases hf:(List.range o.length).find? (AL o x) with
  |none=>have:=adn.1 hf k (aaX.2 hkl);simp[AL,hk] at this
  |some j=>
   rw[hf] at pi;have hge:(0:Int)<=(j:Int):=by omega
   simp only[go_sem,i77,s97,a7 pi,hge]
 |false=>
  have hm':x∉o:=by simpa using hm
  cases hf:(List.range o.length).find? (AL o x) with
  |some j=>
   have h1:=List.find?_some hf;unfold AL at h1;cases ho:o[j]? with
   |none=>rw[ho] at h1;cases h1
   |some y=>
    rw[ho] at h1;have:y=x:=by simpa using h1
    subst this;exact absurd (aae ho) hm'
  |none=>
   rw[hf] at pi;have hge:¬(0:Int)<= -1:=by decide
   simp only[go_sem,i77,s97,a7 pi,hge]
def meq(a b:bU):Bool:=(a.k==b.k)&&((a.a==b.a)&&((a.b==b.b)&&((a.c==b.c)&&((a.l==b.l)&&((a.o==b.o)&&(a.s==b.s))))))
theorem Xv(x y:bU):tv [true,true,true,true,false,false,true] [.p (.int .i64 x.k),.p (.int .i64 x.a),.p (.int .i64 x.b),.p (.int .i64 x.c),.p (.bool x.l),.p (.bool x.o),.p (.int .i64 x.s)] [.p (.int .i64 y.k),.p (.int .i64 y.a),.p (.int .i64 y.b),.p (.int .i64 y.c),.p (.bool y.l),.p (.bool y.o),.p (.int .i64 y.s)]=some (meq x y):=by
 have e:∀a b:Int,Hm true (.int .i64 a) (.int .i64 b)=some (a==b):=fun a b=>by simp[Hm]
 have e2:∀a b:Bool,Hm false (.bool a) (.bool b)=some (a==b):=fun a b=>by simp[Hm]
 simp only[tv,meq,e,e2];cases (x.k==y.k)<;>cases (x.a==y.a)<;>cases (x.b==y.b)<;>cases (x.c==y.c)<;>cases (x.l==y.l)<;>cases (x.o==y.o)<;>cases (x.s==y.s)<;>rfl
theorem Qe(ms:List bU)(x:bU)(hm:ms.length<=1000000):∃i:Int,aP S 151 [.one (.p (.sl (mP ms))),pR x] (ri i):=by
 have:∃r,isN r/\aP S 151 [.one (.p (.sl (mP ms))),pR x] r:=by
  refine l8 rfl c151 (aaW rfl) ?_;simp only[go_sem,i151];refine aV (fun k env blk=>env 0=.one (.p (.sl (mP ms)))/\env 3=.one (.aam 9664000000 1 0)/\blk 9664000000=(1,some (.var [.p (.int .i64 x.k),.p (.int .i64 x.a),.p (.int .i64 x.b),.p (.int .i64 x.c),.p (.bool x.l),.p (.bool x.o),.p (.int .i64 x.s)]))/\env 7=vi ms.length/\env 8=vi k) 0 ms.length (aan _) ?_ ?_
  .simp only[go_sem];first|done|rfl|exact⟨rfl,rfl⟩|exact⟨rfl,rfl,rfl⟩
  rintro k env blk hk ⟨h0,h3,hB,h7,h8⟩
  by_cases hlt:k<ms.length
  .have aak:((k:Int)<(ms.length:Int)):=by omega
   obtain⟨m,hm1⟩:=ao hlt;have hmi:=qH hm1;have w1:=ak (n:=k) (by omega);have he:=Xv x m;cases hb:meq x m with
   |true=>rw[hb] at he;simp only[go_sem,i151_l1,h0,h3,hB,h7,h8,aak,hmi,bU.ps,he];exact⟨aK,_,⟨_,rfl⟩,rfl⟩
   |false=>rw[hb] at he;simp only[go_sem,i151_l1,h0,h3,hB,h7,h8,hlt,aak,hmi,bU.ps,w1,he];exact aK
  have:k=ms.length:=by omega
  subst this;simp only[go_sem,i151_l1,i151_r2,h7,h8,aS];exact⟨_,⟨_,rfl⟩,rfl⟩
 obtain⟨_,⟨i,rfl⟩,h⟩:=this;exact⟨i,h⟩
theorem wL(ms:List bU)(x:bU)(hm:ms.length<=1000000):∃b,aP S 127 [.one (.p (.sl (mP ms))),pR x] (rb b):=by obtain⟨i,pi⟩:=Qe ms x hm;refine⟨decide (0<=i),?_⟩;refine aJ c127 ?_;simp only[go_sem,i127,s151,a7 pi]
abbrev md:Nat:=52
abbrev edT:Nat:=3
def YE(k:Int)(av:Nat)(m:bU):Prop:=m.k=k/\m.a=(av:Int)/\m.l=false/\m.o=false/\m.s=0/\SU m
theorem lI2{l:List Int}(h:l.length=2):∃a b,l=[a,b]:=by
 match l,h with
 |[a,b],_=>exact⟨a,b,rfl⟩
theorem lI3{l:List Int}(h:l.length=3):∃a b c,l=[a,b,c]:=by
 match l,h with
 |[a,b,c],_=>exact⟨a,b,c,rfl⟩
def vh(blk:aw)(v:V)(aaf:aw):Prop:=v=.tup []/\aaf=blk
theorem IE{Q:cU}{al:Al}{env:Env}{blk:aw}{os:List aj}{d:Option Nat}{f:Nat}{vs:List V}{P:V->aw->Prop}(hvs:(vs.map (cJ blk)).flatten=[])(hh:al=.all\/(S.sites f).all al.fs.contains=true)
  (h:∀al',al'.fs=S.sites f->∃v aaf,nQ S f vs al' blk v aaf/\P v aaf) (hK:∀v aaf,P v aaf->RN S al os Q (put env d v) aaf):gP S al (.sc f vs) d os Q env blk:=by
 refine gb (P:=P) ?_ (h _ rfl) hK;rcases hh with rfl|h2
 .rfl
 refine holds_of ?_ h2;show al.kY (vs.map (cJ blk)).flatten=true;rw[hvs];rfl
theorem Zs{al:Al}{blk:aw}:∃v aaf,nQ S 171 [.one (.p .nils),vi 0,vi 0,Wc] al blk v aaf/\vh blk v aaf:=by
 refine dO c171 (aaW rfl) ?_;have w0:IntKind.i64.wrap 1=1:=by decide
 have hz:¬((1:Int)<0):=by decide
 simp only[go_sem,i171];refine dQ ?_;simp only[go_sem,i171_l3,w0,hz];first|done|exact⟨rfl,rfl⟩|trace_state
theorem YA{al:Al}{blk:aw}(f1:al.fs.contains 171=true)(lim:Int):∃v aaf,nQ S 152 [.one (.p .nils),vi 0,vi 0,vi lim,Wc] al blk v aaf/\vh blk v aaf:=by
 refine dO c152 (aaW rfl) ?_;have w0:IntKind.i64.wrap (0-0)=0:=by decide
 have h12:((0:Int)<=12):=by decide
 simp only[go_sem,i152];refine dQ ?_;simp only[go_sem,i152_l1,w0,h12,s171];refine IE (by rfl) (.inr (by rw[show S.sites 171=[171] by kernel_rfl];simp only[abu,abL,f1,acj])) (P:=vh blk) (fun al' _=>Zs) fun v aaf hP=>?_;obtain⟨rfl,h2⟩:=hP;simp only[go_sem];exact⟨rfl,h2⟩
theorem Wz{al:Al}{blk:aw}(f1:(S.sites 152).all al.fs.contains=true):∃v aaf,nQ S 128 [.one (.p .nils),Wc] al blk v aaf/\vh blk v aaf:=by
 obtain⟨k,pb⟩:=I9 0 (by omega);have wu:IntKind.u64.wrap ((0:Nat):Int)=((0:Nat):Int):=by decide
 refine dO c128 (aaW rfl) ?_;have sbl:S.shared 126=false:=by kernel_rfl
 simp only[go_sem,i128,wu,sbl,y9 pb,s152];refine IE (by rfl) (.inr f1) (P:=vh blk) (fun al' h2=>YA (by rw[h2];kernel_rfl) k) fun v aaf hP=>?_;obtain⟨rfl,h2⟩:=hP;simp only[go_sem];exact⟨rfl,h2⟩
theorem Nd{ls:List Let}(g:cV F ls)(kk:Int){av:Nat}(ha:av<ls.length):∃ms:List bU,(ms.length<=2/\ ∀m∈ms,YE kk av m)/\aP S 101 [.one (.p (dE F ls)),vi kk,vi av] (.one (ah md 7 (mP ms))):=by
 have hlen:=g.len;have hN:nD ls<=1600:=by have:=fC ls ls.length;unfold nD;have:(ae ls).length<=ls.length:=fC ls ls.length;omega
 suffices h:∃r,(∃ms:List bU,(ms.length<=2/\ ∀m∈ms,YE kk av m)/\r=.one (ah md 7 (mP ms)))/\aP S 101 [.one (.p (dE F ls)),vi kk,vi av] r by obtain⟨r,⟨ms,h1,rfl⟩,h2⟩:=h;exact⟨ms,h1,h2⟩
 refine l8 rfl c101 (aaW rfl) ?_;simp only[go_sem,i101];refine aV (fun k env blk=>env 0=.one (.p (dE F ls))/\env 1=vi kk/\env 2=vi av/\env 14=vi k/\ ∃ms c,ms.length<=k/\(∀m∈ms,YE kk av m)/\env 7=.one c/\grown 6465280192 md 7 (mP ms) (.one c) blk) 0 2 (aan _) ?_ ?_
 .simp only[go_sem];exact⟨rfl,[],.p .nils,aaj _,fun m h=>(by cases h),rfl,grown.nil⟩
 rintro k env blk hk ⟨h0,h1,h2,h14,ms,c,hms,hok,h7,gm⟩
 by_cases hlt:k<2
 .have aak:((k:Int)<2):=by omega
  obtain⟨j,hj1,hj2,hj3⟩:=vB g (d:=2*av+k) (by omega);have agM:=aae hj2;have hjp:=eZ hj1;have hfp:=IQ hj2;have m2:=eV (a:=av) (by omega);have m3:=wrap_add (a:=2*av) (b:=k) (by omega);have w1:=ak (n:=k) (by omega);have hdl:2*av+k<(gG F ls).length:=by rw[vn];omega
  have hdd:=oY agM;have ark:=qR g.ok agM;obtain⟨_,_,hdm,_⟩:=zA (F:=F) (ls:=ls) (d:=2*av+k) (by omega);generalize hfe:ik F ls (2*av+k)=f at*;simp only[go_sem,i101_l4,h0,h2,h14,aak,m2,m3,hjp,hfp,Fc.ps];refine⟨aK,?_⟩;obtain⟨g9,hg9⟩:∃g9,(blk 6464321024).fst+1=g9:=⟨_,rfl⟩;rw[hg9]
  refine aV (fun q aar aal=>aar 0=.one (.p (dE F ls))/\aar 1=vi kk/\aar 2=vi av/\aar 14=vi k/\aar 7=.one c/\grown 6465280192 md 7 (mP ms) (.one c) aal/\aar 9=.one (.aam 6464321024 g9 0)/\aal 6464321024=(g9,some (.var (f.ps.map .p)))/\aar 34=.one (.p (.sl (nP f.aap)))/\aar 35=vi f.aap.length/\aar 36=vi q/\(0<q->f.aap.length<=3)/\ ∃zs ce,zs.length=q/\(∀z∈zs,0<=z/\z<=1000000)/\aar 10=.one ce/\grown 6464704256 edT 1 (iP zs) (.one ce) aal) 0 f.aap.length (aan _) ?_ ?_
  .have gm':grown 6465280192 md 7 (mP ms) (.one c) (fY (fY blk 6464321024 (g9,some (Ob.var [C.p (PV.bool false),C.p PV.nils,C.p PV.nils,C.p PV.nils,C.p (PV.bool false)]))) 6464321024 (g9,some (Ob.var (f.ps.map .p)))):=gm.of_eq ((af (by decide)).trans (af (by decide)));simp only[go_sem,h0,h1,h2,h7,h14,Fc.ps] at gm' ⊢;refine⟨gm',rfl,fun h=>h.elim,[],.p .nils,rfl,fun z h=>(by cases h),rfl,grown.nil⟩
  rintro q aar aal hq ⟨p0,p1,p2,p14,p7,gm2,p9,b9,p34,p35,p36,h3,zs,ce,hzl,hzb,p10,gz⟩
  simp only[Fc.ps,aaK,abi] at b9;by_cases hql:q<f.aap.length
  .have akI:((q:Int)<(f.aap.length:Int)):=by omega
   obtain⟨d,hd⟩:=ao hql;have hdp:=eZ hd;have hdb:=hdd d (aae hd);have wq:=wrap_small (n:=d/2) (by omega);have w2:=ak (n:=q) (by omega);by_cases c1:d/2<av
   .have c1':(((d/2:Nat):Int)<(av:Int)):=by omega
    simp only[go_sem,i101_l1,i101_r3,p0,p1,p2,p14,p7,p9,p10,p34,p35,p36,b9,hql,akI,hdp,bY,dZ,wq,c1',w1,hlt];exact⟨ms,c,by omega,hok,rfl,gm2⟩
   have c1':¬(((d/2:Nat):Int)<(av:Int)):=by omega
   by_cases c2:3<f.aap.length
   .have c2':((3:Int)<(f.aap.length:Int)):=by omega
    simp only[go_sem,i101_l1,i101_r3,p0,p1,p2,p14,p7,p9,p10,p34,p35,p36,b9,hql,akI,hdp,bY,dZ,wq,c1',c2',w1,hlt];exact⟨ms,c,by omega,hok,rfl,gm2⟩
   have c2':¬((3:Int)<(f.aap.length:Int)):=by omega
   simp only[go_sem,i101_l1,p2,p9,p10,p34,p35,p36,b9,akI,hdp,bY,dZ,wq,c1',c2'];refine iN (xs:=[[.int .i64 ((d/2:Nat):Int)]]) (gz.of_eq (af (by decide))) (by simp only[aO,aa,if_true];rfl) (.inl rfl) (by simp only[jH,aaz,aaL];omega) fun c2 aaB gz2 hb=>?_;have q9:=hb 6464321024 (by decide) (by decide);have gm3:=gm2.of_eq ((hb 6465280192 (by decide) (by decide)).trans (af (by decide)));simp only[go_sem,b9] at q9;simp only[go_sem,p0,p1,p2,p14,p7,p9,p34,p35,p36,q9,w2,Fc.ps];refine⟨hql,gm3,fun _=>by omega,zs++[((d/2:Nat):Int)],c2,by simp;omega,fun z hz=>?_,rfl,?_⟩
   .rcases aaR.1 hz with h|h
    .exact hzb z h
    have:=abJ.1 h;omega
   rw[show iP (zs++[((d/2:Nat):Int)])=iP zs++[[.int .i64 ((d/2:Nat):Int)]] by simp[iP]];exact gz2
  have:q=f.aap.length:=by omega
  subst this;have arh:0<f.aap.length:=adR hdm;have h3':=h3 arh;rcases gz with ⟨e,_⟩|⟨_,gg,e,bz⟩
  .have hz0:(iP zs).length=0:=by rw[e];rfl
   rw[jH] at hz0;omega
  cases e;have sS:S.shared 118=true:=by kernel_rfl
  simp only[go_sem,i101_l1,i101_r2,p10,p35,p36,aS,sS,jH];refine mW bz (by rfl) (.inl rfl) (P:=qu Hl 6464704256 gg edT zs aal) (fun al' h1 h2=>Dc h1 (by rw[h2];kernel_rfl) (by omega) bz) fun v aaB hP=>?_;obtain⟨rfl,⟨ws,bw,pw,sw⟩,kw⟩:=hP;have gm3:=gm2.of_eq (kw 6465280192 (by decide));have hwl:=pw.length_eq;have hwb:∀z∈ws,0<=z/\z<=1000000:=fun z hz=>hzb z (pw.mem_iff.1 hz);rw[hzl] at hwl;clear sw pw hzb b9 bz;clear h3 hql hdd ark agM hdm hq;generalize f.aap.length=n at*;have s120:S.shared 127=false:=by kernel_rfl
  have q22:(((2:Nat):Int)==2)=true:=by decide
  have q12:(((1:Nat):Int)==2)=false:=by decide
  have q32:(((3:Nat):Int)==2)=false:=by decide
  have q13:(((1:Nat):Int)==3)=false:=by decide
  have q23:(((2:Nat):Int)==3)=false:=by decide
  have q33:(((3:Nat):Int)==3)=true:=by decide
  rcases(by omega:n=1\/n=2\/n=3) with rfl|rfl|rfl
  .simp only[go_sem,i101_r3,p0,p1,p2,p14,p7,p10,hzl,q12,q13,w1,hlt];exact⟨ms,c,by omega,hok,rfl,gm3.of_eq ((af (by decide)).trans (af (by decide)))⟩
  .obtain⟨y0,y1,rfl⟩:=lI2 hwl;by_cases h8:kk=8
   .have e8:(kk !=8)=false:=by rw[h8];rfl
    simp only[go_sem,i101_r3,p0,p1,p2,p14,p7,p10,hzl,q22,q23,e8,w1,hlt];exact⟨ms,c,by omega,hok,rfl,gm3.of_eq ((af (by decide)).trans (af (by decide)))⟩
   have e8:(kk !=8)=true:=by simpa using h8
   simp only[go_sem,i101_r3,p1,p2,p7,p10,hzl,q22,e8,bw];obtain⟨bb,pcv⟩:=wL ms ⟨kk,av,y1,0,false,false,0⟩ (by omega);have aks:aP S 127 [.one (.p (.sl (mP ms))),.agg [.p (.int .i64 kk),.p (.int .i64 av),.p (.int .i64 y1),.p (.int .i64 0),.p (.bool false),.p (.bool false),.p (.int .i64 0)]] (rb bb):=pcv;obtain⟨r,snB,hr⟩:=gm3.xW;simp only[go_sem,s120,snB,au aks];cases bb with
   |true=>simp only[go_sem,p0,p1,p2,p14,p7,w1,hlt];exact⟨ms,c,by omega,hok,rfl,gm3.of_eq (by simp only[aa,Nat.reduceEqDiff,if_false])⟩
   |false=>
    simp only[go_sem,p7];refine iN (xs:=[bU.ps ⟨kk,av,y1,0,false,false,0⟩]) (gm3.of_eq (by simp only[aa,Nat.reduceEqDiff,if_false])) (by simp only[aO,aa,if_true];rfl) (.inl rfl) (by simp only[eS,aaz,aaL];omega) fun c2 aaO gm4 hb4=>?_;simp only[go_sem,p0,p1,p2,p14,w1,hlt];refine⟨ms++[⟨kk,av,y1,0,false,false,0⟩],c2,by simp;omega,fun m hm=>?_,rfl,by rw[show mP (ms++[⟨kk,av,y1,0,false,false,0⟩])=mP ms++[bU.ps ⟨kk,av,y1,0,false,false,0⟩] by simp[mP]];exact gm4⟩;rcases aaR.1 hm with h|h
    .exact hok m h
    have:=abJ.1 h;subst this;exact⟨rfl,rfl,rfl,rfl,rfl,hwb y1 (by simp),by simp⟩
  obtain⟨y0,y1,y2,rfl⟩:=lI3 hwl;by_cases h8:kk=8
  .have e8:(kk==8)=true:=by rw[h8];rfl
   simp only[go_sem,i101_r3,p1,p2,p7,p10,hzl,q32,q33,e8,bw];obtain⟨bb,pcv⟩:=wL ms ⟨kk,av,y1,y2,false,false,0⟩ (by omega);have aks:aP S 127 [.one (.p (.sl (mP ms))),.agg [.p (.int .i64 kk),.p (.int .i64 av),.p (.int .i64 y1),.p (.int .i64 y2),.p (.bool false),.p (.bool false),.p (.int .i64 0)]] (rb bb):=pcv;obtain⟨r,snB,hr⟩:=gm3.xW;refine⟨aK,?_⟩;simp only[go_sem,s120,snB,au aks];cases bb with
   |true=>simp only[go_sem,p0,p1,p2,p14,p7,w1,hlt];exact⟨ms,c,by omega,hok,rfl,gm3.of_eq (by simp only[aa,Nat.reduceEqDiff,if_false])⟩
   |false=>
    simp only[go_sem,p7];refine iN (xs:=[bU.ps ⟨kk,av,y1,y2,false,false,0⟩]) (gm3.of_eq (by simp only[aa,Nat.reduceEqDiff,if_false])) (by simp only[aO,aa,if_true];rfl) (.inl rfl) (by simp only[eS,aaz,aaL];omega) fun c2 aaO gm4 hb4=>?_;simp only[go_sem,p0,p1,p2,p14,w1,hlt];refine⟨ms++[⟨kk,av,y1,y2,false,false,0⟩],c2,by simp;omega,fun m hm=>?_,rfl,by rw[show mP (ms++[⟨kk,av,y1,y2,false,false,0⟩])=mP ms++[bU.ps ⟨kk,av,y1,y2,false,false,0⟩] by simp[mP]];exact gm4⟩;rcases aaR.1 hm with h|h
    .exact hok m h
    have:=abJ.1 h;subst this;exact⟨rfl,rfl,rfl,rfl,rfl,hwb y1 (by simp),hwb y2 (by simp)⟩
  have e8:(kk==8)=false:=by simpa using h8
  simp only[go_sem,i101_r3,p0,p1,p2,p14,p7,p10,hzl,q32,q33,e8,w1,hlt];exact⟨ms,c,by omega,hok,rfl,gm3.of_eq ((af (by decide)).trans (af (by decide)))⟩
 have:k=2:=by omega
 subst this;have hge:¬(((2:Nat):Int)<2):=by decide
 have sS:S.shared 128=true:=by kernel_rfl
 simp only[go_sem,i101_l4,i101_r5,h7,h14,hge,sS];rcases gm with ⟨e,e2⟩|⟨hne,gg,e2,bm⟩
 .cases e2;have:ms=[]:=by simpa [mP] using e
  subst this;refine IE (by rfl) (.inl rfl) (P:=vh blk) (fun al' h2=>Wz (by rw[h2];kernel_rfl)) fun v aaB hP=>?_;obtain⟨rfl,rfl⟩:=hP;simp only[go_sem,h7];exact⟨_,⟨[],⟨by simp,fun m h=>by cases h⟩,rfl⟩,rfl⟩
 cases e2;rw[eS] at h7 ⊢;refine mW bm (by rfl) (.inl rfl) (P:=uY 6465280192 gg md ms blk) (fun al' h1 h2=>SS h1 (by rw[h2];kernel_rfl) (by omega) (fun m hm=>(hok m hm).2.2.2.2.2) bm) fun v aaB hP=>?_;obtain⟨rfl,⟨ws,bw,pw,sw⟩,kw⟩:=hP;simp only[go_sem,h7];have hwl:=pw.length_eq;refine⟨_,⟨ws,⟨by omega,fun m hm=>hok m (pw.mem_iff.1 hm)⟩,rfl⟩,?_⟩;rw[<- hwl,<- eS ws];refine fA (.inr ⟨fun e=>hne ?_,gg,rfl,bw⟩);have h0:(mP ws).length=0:=by rw[e];rfl
 rw[eS,hwl] at h0;rw[adg.1 h0];rfl
def Si(k:Int)(n:Nat)(m:bU):Prop:= ∃a,a<n/\YE k a m
theorem DC{k:Int}{n a:Nat}{ms ns:List bU}(h:∀m∈ms,Si k n m)(h2:∀m∈ns,YE k a m)(ha:a<n):∀m∈ms++ns,Si k n m:=fun m hm=>(aaR.1 hm).elim (h m) fun h3=>⟨a,ha,h2 m h3⟩
section
variable {F:Nat} {ls:List Let}
theorem UL(g:cV F ls)(hne:0<ls.length){kk:Int}(d2:(kk==2)=false)(d5:(kk==5)=false)(d7:(kk==7)=false)(d3:(kk==3)=false)(d6:(kk==6)=false)(d8:(kk==8)=false):∃ms:List bU,(ms.length<=2*ls.length/\ ∀m∈ms,Si kk ls.length m)/\aP S 78 [.one (.p (dE F ls)),vi kk] (.one (ah md 7 (mP ms))):=by
 have hlen:=g.len;have hpl:(hJ (pieces ls)).length=ls.length:=by rw[hJ,aau,aB]
 have hn0:(((ls.length:Nat):Int)==0)=false:=by rw[beq_eq_false_iff_ne];omega
 suffices h:∃r,(∃ms:List bU,(ms.length<=2*ls.length/\ ∀m∈ms,Si kk ls.length m)/\r=.one (ah md 7 (mP ms)))/\aP S 78 [.one (.p (dE F ls)),vi kk] r by obtain⟨r,⟨ms,h1,rfl⟩,h2⟩:=h;exact⟨ms,h1,h2⟩
 refine l8 rfl c78 (aaW rfl) ?_;simp only[go_sem,i78,i78_r12,hpl,hn0];refine aV (fun k env blk=>env 0=.one (.p (dE F ls))/\env 1=vi kk/\env 41=vi ls.length/\env 42=vi k/\ ∃ms c,ms.length<=2*k/\(∀m∈ms,Si kk ls.length m)/\env 5=.one c/\grown 4992768320 md 7 (mP ms) (.one c) blk) 0 ls.length (aan _) ?_ ?_
 .simp only[go_sem];exact⟨rfl,[],.p .nils,by simp,fun m h=>(by cases h),rfl,grown.nil⟩
 rintro k env blk hk ⟨h0,h1,h41,h42,ms,c,hms,hok,h5,gm⟩
 by_cases hlt:k<ls.length
 .have aak:((k:Int)<(ls.length:Int)):=by omega
  have w1:=ak (n:=k) (by omega);simp only[go_sem,i78_l10,i78_r9,h1,h41,h42,h5,aak,d2,d5,d7,d3,d6,d8];refine iN (xs:=[bU.ps ⟨kk,k,0,0,false,false,0⟩]) (gm.of_eq (by simp only[aa,Nat.reduceEqDiff,if_false])) (by simp only[aO,aa,if_true];rfl) (.inl rfl) (by simp only[eS,aaz,aaL];omega) fun c2 aaO gm4 hb4=>?_;simp only[go_sem,h0,h1,h41,h42,w1,hlt];refine⟨ms++[⟨kk,k,0,0,false,false,0⟩],c2,by simp;omega,fun m hm=>?_,rfl,by rw[show mP (ms++[⟨kk,k,0,0,false,false,0⟩])=mP ms++[bU.ps ⟨kk,k,0,0,false,false,0⟩] by simp[mP]];exact gm4⟩;rcases aaR.1 hm with h|h
  .exact hok m h
  have:=abJ.1 h;subst this;exact⟨k,hlt,rfl,rfl,rfl,rfl,rfl,by simp[SU]⟩
 have:k=ls.length:=by omega
 subst this;simp only[go_sem,i78_l10,i78_r11,h41,h42,h5,aS];exact⟨_,⟨ms,⟨hms,hok⟩,rfl⟩,fA gm⟩
theorem UM(g:cV F ls)(hne:0<ls.length){kk:Int}(hkk:kk=3\/kk=6\/kk=8):∃ms:List bU,(ms.length<=2*ls.length/\ ∀m∈ms,Si kk ls.length m)/\aP S 78 [.one (.p (dE F ls)),vi kk] (.one (ah md 7 (mP ms))):=by
 have hlen:=g.len;have lo:S.lone 4994944256=false:=by kernel_rfl
 have hpl:(hJ (pieces ls)).length=ls.length:=by rw[hJ,aau,aB]
 have hn0:(((ls.length:Nat):Int)==0)=false:=by rw[beq_eq_false_iff_ne];omega
 suffices h:∃r,(∃ms:List bU,(ms.length<=2*ls.length/\ ∀m∈ms,Si kk ls.length m)/\r=.one (ah md 7 (mP ms)))/\aP S 78 [.one (.p (dE F ls)),vi kk] r by obtain⟨r,⟨ms,h1,rfl⟩,h2⟩:=h;exact⟨ms,h1,h2⟩
 have d2:(kk==2)=false:=by rw[beq_eq_false_iff_ne];omega
 have d5:(kk==5)=false:=by rw[beq_eq_false_iff_ne];omega
 have d7:(kk==7)=false:=by rw[beq_eq_false_iff_ne];omega
 refine l8 rfl c78 (aaW rfl) ?_;simp only[go_sem,i78,i78_r12,hpl,hn0];refine aV (fun k env blk=>env 0=.one (.p (dE F ls))/\env 1=vi kk/\env 41=vi ls.length/\env 42=vi k/\ ∃ms c,ms.length<=2*k/\(∀m∈ms,Si kk ls.length m)/\env 5=.one c/\grown 4994944320 md 7 (mP ms) (.one c) blk) 0 ls.length (aan _) ?_ ?_
 .simp only[go_sem];exact⟨rfl,[],.p .nils,by simp,fun m h=>(by cases h),rfl,grown.nil⟩
 rintro k env blk hk ⟨h0,h1,h41,h42,ms,c,hms,hok,h5,gm⟩
 by_cases hlt:k<ls.length
 .have aak:((k:Int)<(ls.length:Int)):=by omega
  have w1:=ak (n:=k) (by omega);obtain⟨ns,⟨hns,hnk⟩,pc⟩:=Nd g kk hlt;cases d3:(kk==3) with
  |true=>simp only[go_sem,i78_l10,i78_r9,h0,h1,h41,h42,h5,aak,d2,d5,d7,d3,s101];refine jg pc lo (.inl rfl) fun cc aao gl hb1=>?_;have gm1:=gm.of_eq (hb1 4994944320 (by decide));obtain⟨r,hx,hr⟩:=gl.elems;simp only[go_sem];refine iN (xs:=mP ns) gm1 hx gl.gQ (by simp only[eS];omega) fun c2 aaO gm4 hb4=>?_;simp only[go_sem,h0,h1,h41,h42,w1,hlt];exact⟨ms++ns,c2,by simp;omega,DC hok hnk hlt,rfl,by rw[show mP (ms++ns)=mP ms++mP ns by simp[mP]];exact gm4⟩
  |false=>
   cases d6:(kk==6) with
   |true=>simp only[go_sem,i78_l10,i78_r9,h0,h1,h41,h42,h5,aak,d2,d5,d7,d3,d6,s101];refine jg pc lo (.inl rfl) fun cc aao gl hb1=>?_;have gm1:=gm.of_eq (hb1 4994944320 (by decide));obtain⟨r,hx,hr⟩:=gl.elems;simp only[go_sem];refine iN (xs:=mP ns) gm1 hx gl.gQ (by simp only[eS];omega) fun c2 aaO gm4 hb4=>?_;simp only[go_sem,h0,h1,h41,h42,w1,hlt];exact⟨ms++ns,c2,by simp;omega,DC hok hnk hlt,rfl,by rw[show mP (ms++ns)=mP ms++mP ns by simp[mP]];exact gm4⟩
   |false=>
    have d8:(kk==8)=true:=by
     rcases hkk with rfl|rfl|rfl
     .cases d3
     .cases d6
     rfl
    simp only[go_sem,i78_l10,i78_r9,h0,h1,h41,h42,h5,aak,d2,d5,d7,d3,d6,d8,s101];refine jg pc lo (.inl rfl) fun cc aao gl hb1=>?_;have gm1:=gm.of_eq (hb1 4994944320 (by decide));obtain⟨r,hx,hr⟩:=gl.elems;simp only[go_sem];refine iN (xs:=mP ns) gm1 hx gl.gQ (by simp only[eS];omega) fun c2 aaO gm4 hb4=>?_;simp only[go_sem,h0,h1,h41,h42,w1,hlt];exact⟨ms++ns,c2,by simp;omega,DC hok hnk hlt,rfl,by rw[show mP (ms++ns)=mP ms++mP ns by simp[mP]];exact gm4⟩
 have:k=ls.length:=by omega
 subst this;simp only[go_sem,i78_l10,i78_r11,h41,h42,h5,aS];exact⟨_,⟨ms,⟨hms,hok⟩,rfl⟩,fA gm⟩
end
abbrev UI:Nat:=24
theorem Wq{a:PV}{id g z o l:Nat}:sH [[.p a,.hsl id g z o l]]=none:=rfl
theorem IW{blk:aw}{s g ty sd td zd:Nat}{x:Int}{cd:C}{D:List (List PV)}(hb:blk s=(g,some (.aaJ ty 2 [[.p (.int .i64 x),cd]])))(gd:grown sd td zd D (.one cd) blk):
  ∃fr,aO blk (.one (.hsl s g 2 0 1))=some ([[.int .i64 x,.sl D]],[s],fr)/\fD blk fr/\(fr=[]\/fr=[sd]):=by
 obtain⟨r1,n1,a1,q1⟩:=gd.JG;refine⟨r1,?_,a1,q1⟩;simp only[aO,hb];simp[collect,n1,Dd,PV.norm]
abbrev MC(k:Int):Prop:=k5 k
def EE(F:Nat)(ls:List Let)(want:List Int)(m:bU):Prop:=m.k∈want/\Si m.k ls.length m/\ ∃M,tF F ls m.k m.a m.b m.c m.l m.o m.s=jr F M
section
variable {F:Nat} {ls:List Let}
theorem XG(g:cV F ls)(hne:0<ls.length){kk:Int}(h:MC kk):∃ms:List bU,(ms.length<=2*ls.length/\ ∀m∈ms,Si kk ls.length m)/\aP S 78 [.one (.p (dE F ls)),vi kk] (.one (ah md 7 (mP ms))):=by
 have n2:kk≠2:=by unfold MC k5 at h;omega
 have n5:kk≠5:=by unfold MC k5 at h;omega
 have n7:kk≠7:=by unfold MC k5 at h;omega
 by_cases hc:kk=3\/kk=6\/kk=8
 .exact UM g hne hc
 exact UL g hne (beq_eq_false_iff_ne.2 n2) (beq_eq_false_iff_ne.2 n5) (beq_eq_false_iff_ne.2 n7) (beq_eq_false_iff_ne.2 fun e=>hc (.inl e)) (beq_eq_false_iff_ne.2 fun e=>hc (.inr (.inl e))) (beq_eq_false_iff_ne.2 fun e=>hc (.inr (.inr e)))
theorem WA(g:cV F ls)(hne:0<ls.length)(want:List Int)(hwl:want.length<=10)(hw:∀k∈want,MC k):∃ms cs,(ms.length<=8000/\ ∀m∈ms,EE F ls want m)/\aP S 63 [.one (.p (dE F ls)),.one (.p (.sl (iP want)))] (.tup [.one (ah md 7 (mP ms)),.one (ah UI 2 cs)]):=by
 have hlen:=g.len;have lo1:S.lone 4032448128=false:=by kernel_rfl
 have lo2:S.lone 4032640128=false:=by kernel_rfl
 suffices h:∃r,(∃ms cs,(ms.length<=8000/\ ∀m∈ms,EE F ls want m)/\r=.tup [.one (ah md 7 (mP ms)),.one (ah UI 2 cs)])/\aP S 63 [.one (.p (dE F ls)),.one (.p (.sl (iP want)))] r by obtain⟨r,⟨ms,cs,h1,rfl⟩,h2⟩:=h;exact⟨ms,cs,h1,h2⟩
 refine l8 rfl c63 (aaW rfl) ?_;simp only[go_sem,i63];refine aV (fun k env blk=>env 0=.one (.p (dE F ls))/\env 1=.one (.p (.sl (iP want)))/\env 8=vi ((k+1:Nat):Int)/\ ∃ms cs c d,ms.length<=800*k/\cs.length<=800*k/\(∀m∈ms,EE F ls want m)/\env 6=.one c/\env 7=.one d/\grown 4032768192 md 7 (mP ms) (.one c) blk/\grown 4032768448 UI 2 cs (.one d) blk) 0 10 (aan _) ?_ ?_
 .simp only[go_sem];exact⟨rfl,[],[],.p .nils,.p .nils,by simp,by simp,fun m h=>(by cases h),rfl,rfl,grown.nil,grown.nil⟩
 rintro k env blk hk ⟨e0,e1,e8,ms,cs,c,d,hms,hcs,hok,e6,e7,gm,gc⟩
 by_cases hlt:k<10
 .have aak:((k+1:Nat):Int)<=10:=by omega
  have w1:=ak (n:=k+1) (by omega);have ph:=wM want ((k+1:Nat):Int) (by omega);cases hc:want.contains ((k+1:Nat):Int) with
  |false=>rw[hc] at ph;simp only[go_sem,i63_l3,i63_r2,e0,e1,e6,e7,e8,aak,s77,au ph,w1];exact⟨hlt,ms,cs,c,d,by omega,by omega,hok,rfl,rfl,gm,gc⟩
  |true=>
   have abj:((k+1:Nat):Int)∈want:=by simpa using hc
   obtain⟨ns,⟨hns,hnk⟩,pc⟩:=XG g hne (hw _ abj);rw[hc] at ph;simp only[go_sem,i63_l3,e0,e1,e8,aak,s77,au ph,s78];refine jg pc lo1 (.inl rfl) fun cc aao gl hb1=>?_;have gm1:=gm.of_eq (hb1 4032768192 (by decide));have gc1:=gc.of_eq (hb1 4032768448 (by decide));rcases gl with ⟨e,e2⟩|⟨_,gg,e,hbl⟩
   .cases e2;simp only[go_sem];refine dQ ?_;simp only[go_sem,i63_l1,i63_r2,e0,e1,e6,e7,e8,zz,w1];exact⟨hlt,ms,cs,c,d,by omega,by omega,hok,rfl,rfl,gm1,gc1⟩
   cases e;rw[eS];simp only[go_sem];refine aV (fun j env blk=>env 0=.one (.p (dE F ls))/\env 1=.one (.p (.sl (iP want)))/\env 8=vi ((k+1:Nat):Int)/\env 23=.one (.hsl 4032448128 gg 7 0 ns.length)/\env 24=vi ns.length/\env 25=vi j/\blk 4032448128=(gg,some (.arr md 7 (mP ns)))/\ ∃ms cs c d,ms.length<=800*k+j/\cs.length<=800*k+j/\(∀m∈ms,EE F ls want m)/\env 6=.one c/\env 7=.one d/\grown 4032768192 md 7 (mP ms) (.one c) blk/\grown 4032768448 UI 2 cs (.one d) blk) 0 ns.length (aan _) ?_ ?_
   .simp only[go_sem,e0,e1,e6,e7,e8];exact⟨rfl,hbl,ms,cs,c,d,by omega,by omega,hok,rfl,rfl,gm1,gc1⟩
   clear gm gc gm1 gc1 hok hms hcs hbl hb1 e0 e1 e6 e7 e8;rintro j env blk hj ⟨q0,q1,q8,q23,q24,q25,bL,ms,cs,c,d,hms,hcs,hok,q6,q7,gm,gc⟩
   by_cases hlj:j<ns.length
   .have aeJ:((j:Int)<(ns.length:Int)):=by omega
    have w2:=ak (n:=j) (by omega);obtain⟨m,hm1⟩:=ao hlj;have hat:=qH hm1;have hmk:=hnk m (aae hm1);have hkm:m.k=((k+1:Nat):Int):=hmk.choose_spec.2.1;have ano:(mP ns).length=ns.length:=eS ns;have hk5:k5 m.k:=by rw[hkm];exact hw _ abj
    have pd:=do5 g hk5 m.a m.b m.c m.l m.o m.s;rcases Vb g hk5 m.a m.b m.c m.l m.o m.s with ⟨e,he,ha⟩|⟨M,ha,_⟩
    .rw[ha] at pd;have he':(e==0)=false:=by simpa using he
     simp only[go_sem,i63_l1,q0,q1,q6,q7,q8,q23,q24,q25,bL,hlj,aeJ,hat,bU.ps,s56,aq pd yP,he',w2];exact⟨ms,cs,c,d,by omega,by omega,hok,rfl,rfl,gm.of_eq (by simp only[aa,Nat.reduceEqDiff,if_false]),gc.of_eq (by simp only[aa,Nat.reduceEqDiff,if_false])⟩
    have aiY:EE F ls want m:=⟨by rw[hkm];exact abj,by rw[hkm];exact hmk,M,ha⟩;rw[ha] at pd;simp only[go_sem,i63_l1,q0,q23,q24,q25,bL,hlj,aeJ,hat,bU.ps,s56];refine KA pd lo2 fun cx aal gx hb2=>?_;have b10:=hb2 4032576128 (by decide);simp only[go_sem] at b10;have bL2:=(hb2 4032448128 (by decide)).trans ((af (by decide)).trans ((af (by decide)).trans bL));have gm2:=gm.of_eq ((hb2 4032768192 (by decide)).trans (by simp only[aa,Nat.reduceEqDiff,if_false]));have gc2:=gc.of_eq ((hb2 4032768448 (by decide)).trans (by simp only[aa,Nat.reduceEqDiff,if_false]));have hmm:∀m'∈ms++[m],EE F ls want m':=fun m' h=>(aaR.1 h).elim (hok m') fun h=>(abJ.1 h)▸aiY;have hmp:mP (ms++[m])=mP ms++[bU.ps m]:=by simp[mP]
    rcases gx with ⟨eM,e2⟩|⟨aqO,g2,e2,hbx⟩
    .cases e2;simp only[go_sem,b10,q6];refine mX (site:=4032768192) (id:=4032768192) (bytes:=48) (xs:=[bU.ps m]) (rd:=[4032768128]) (gm2.of_eq (by simp only[aa,Nat.reduceEqDiff,if_false])) (by simp[aO,aa,bU.ps]) (.inl rfl) (by simp only[eS,aaz,aaL];omega) fun c' aaB r1 u1 hc1 hb3 hr1=>?_
     have b11:=hb3 4032640384 (by decide) (by decide);simp only[go_sem] at b11;simp only[go_sem,b11,q7];have gc3:=gc2.of_eq ((hb3 4032768448 (by decide) (by decide)).trans (by simp only[aa,Nat.reduceEqDiff,if_false]:_=aal 4032768448));refine mX (site:=4032768448) (id:=4032768448) (bytes:=32) (xs:=[[.int .i64 F,.sl []]]) (rd:=[4032768384]) (gc3.of_eq (af (by decide))) (by simp[aO,aa]) (.inl rfl) (by simp only[aaz,aaL];omega) fun d' aaO r2 u2 hd1 hb4 hr2=>?_
     have bL4:=(hb4 4032448128 (by decide) (by decide)).trans ((af (by decide)).trans (hb3 4032448128 (by decide) (by decide)));simp only[aa,Nat.reduceEqDiff,if_false] at bL4;have bL5:=bL4.trans bL2;simp only[go_sem,q0,q1,q6,q7,q8,q23,q24,q25,bL5,w2,hlj];refine⟨?_,ms++[m],_,c',d',by simp;omega,by simp;omega,hmm,rfl,rfl,?_,hd1⟩
     .rcases hr1 with ⟨rfl,rfl⟩|⟨rfl,rfl⟩|⟨rfl,rfl⟩<;>rcases hr2 with ⟨rfl,rfl⟩|⟨rfl,rfl⟩|⟨rfl,rfl⟩<;>kernel_rfl
     rw[hmp];exact hc1.of_eq ((hb4 4032768192 (by decide) (by decide)).trans (af (by decide)))
    cases e2;simp only[go_sem,b10,q6];refine mX (site:=4032768192) (id:=4032768192) (bytes:=48) (xs:=[bU.ps m]) (rd:=[4032768128]) (gm2.of_eq (by simp only[aa,Nat.reduceEqDiff,if_false])) (by simp[aO,aa,bU.ps]) (.inl rfl) (by simp only[eS,aaz,aaL];omega) fun c' aaB r1 u1 hc1 hb3 hr1=>?_;have b11:=hb3 4032640384 (by decide) (by decide);simp only[go_sem] at b11;simp only[go_sem,b11,q7];have bx3:=(hb3 (4032640128+1) (by decide) (by decide));simp only[Nat.reduceAdd,aa,Nat.reduceEqDiff,if_false] at bx3 hbx;have hx3:=bx3.trans hbx;have gx3:grown (4032640128+1) iM 6 (cA M) (.one (.hsl (4032640128+1) g2 6 0 M.length)) aaB:=.inr ⟨aqO,g2,by rw[cA,aau],hx3⟩
    obtain⟨fr,hx,hfa,hfi⟩:=IW (blk:=fY aaB 4032768384 ((aaB 4032768384).1+1,some (.aaJ UI 2 [[.p (.int .i64 F),.hsl (4032640128+1) g2 6 0 M.length]]))) (s:=4032768384) jy (gx3.of_eq (af (by decide)));have gc3:=gc2.of_eq ((hb3 4032768448 (by decide) (by decide)).trans (by simp only[aa,Nat.reduceEqDiff,if_false]:_=aal 4032768448));have nf:∀i,i≠4032640128+1->i∉fr:=fun i a h=>by
     rcases hfi with rfl|rfl
     .cases h
     exact a (abJ.1 h)
    refine UC (site:=4032768448) (id:=4032768448) (bytes:=32) (gc3.of_eq (af (by decide))) hx hfa (nf _ (by decide)) (nf _ (by decide)) (.inl rfl) (by simp only[aaz,aaL];omega) fun d' aaO r2 u2 hd1 hb4 hr2=>?_;have bL4:=(hb4 4032448128 (by decide) (by decide) (nf _ (by decide))).trans ((af (by decide)).trans (hb3 4032448128 (by decide) (by decide)));simp only[aa,Nat.reduceEqDiff,if_false] at bL4;have bL5:=bL4.trans bL2;simp only[go_sem,q0,q1,q6,q7,q8,q23,q24,q25,bL5,w2,hlj];refine⟨?_,ms++[m],_,c',d',by simp;omega,by simp;omega,hmm,rfl,rfl,?_,hd1⟩
    .rcases hfi with rfl|rfl<;>rcases hr1 with ⟨rfl,rfl⟩|⟨rfl,rfl⟩|⟨rfl,rfl⟩<;>rcases hr2 with ⟨rfl,rfl⟩|⟨rfl,rfl⟩|⟨rfl,rfl⟩<;>kernel_rfl
    rw[hmp];exact hc1.of_eq ((hb4 4032768192 (by decide) (by decide) (nf _ (by decide))).trans (af (by decide)))
   have:j=ns.length:=by omega
   subst this;simp only[go_sem,i63_l1,i63_r2,q0,q1,q6,q7,q8,q24,q25,aS,w1];exact⟨hlt,ms,cs,c,d,by omega,by omega,hok,rfl,rfl,gm,gc⟩
 have:k=10:=by omega
 subst this;have hnl:¬(((10+1:Nat):Int)<=10):=by decide
 simp only[go_sem,i63_l3,i63_r4,e6,e7,e8,hnl];exact⟨_,⟨ms,cs,⟨hms,hok⟩,rfl⟩,oR (by decide) gm gc⟩
end
theorem yS{l:List Pc}{drop:Nat->Pc->Bool}{i:Nat}{p:Pc}(hp:l[i]?=some p)(hd:drop i p=true):(iD l drop).length<l.length:=by
 have hi:=(aai.1 hp).1;have key:∀k,k<=l.length->i<k->(kS l drop k).length<k:=by
  intro k
  induction k with
  |zero=>intro _ h;exact absurd h (abW i)
  |succ k ih=>
   intro hk hik;by_cases e:i=k
   .subst e;rw[fh hp hd];have:=jF l drop i;omega
   obtain⟨q,hq⟩:=ao (ls:=l) (k:=k) (by omega);have:=ih (by omega) (by omega);cases hdq:drop k q
   .rw[jG hq hdq,aaY];simp only[aaz,aaL];omega
   rw[fh hq hdq];omega
 exact key l.length (aaj _) hi
theorem KG{q:Let->Bool}(l:List Pc):aA q (lf l)=l.countP fun p=>q p.l:=by
 have e:aA q (l.map Pc.l)=l.countP fun p=>q p.l:=by show List.countP _ (List.map _ _)=_;rw[ac4];rfl
 rw[<- e];have hf:(ij l).getD 0<=l.length:=by
  cases h:ij l with
  |none=>exact aan _
  |some f=>have:=ads h;simp at this;simp only[abv];omega
 unfold lf;rw[Dk hf];show List.countP _ _=List.countP _ _;rw[abq,acb,Nat.add_comm,<- acb,<- abq,abA]
section
variable {F:Nat} {ls:List Let}
theorem Id{k:Int}(hk:k=1\/k=4\/k=6){a b c:Nat}{l o:Bool}{sg:Int}(ha:a<ls.length){L:List Pc}(h:jW F ls k a b c l o sg=some L):L.length<ls.length:=by
 obtain⟨p,hp⟩:=ao (ls:=pieces ls) (k:=a) (by rw[aB];exact ha);have hpl:=aB ls;have hg:(pieces ls).getD a ⟨fm,false⟩=p:=by simp[aaC,hp]
 rcases hk with rfl|rfl|rfl
 .have h:Ss ls a=some L:=h;unfold Ss at h;simp only at h;split at h
  .cases h;show(List.map _ _).length<_;rw[aau,<- hpl];exact yS hp (by simp)
  cases h
 .have h:Sl ls a=some L:=h;unfold Sl at h;simp only at h;rw[hg] at h;split at h
  .rename_i hc;cases h;show(List.map _ _).length<_;rw[aau,<- hpl];simp only[aay] at hc;exact yS hp (by unfold lY;rw[hc.1];simp)
  cases h
 have h:Sh F ls a b=some L:=h;unfold Sh at h;rw[eD hp] at h;split at h
 .rename_i hc;cases h;show(List.map _ _).length<_;rw[aau,<- hpl];have hk2:(p.l.kind==2)=true:=by
   simp only[aay,acF] at hc;unfold uT at hc;rw[eD hp] at hc;simp only[aay] at hc;rcases hc.1 with h|h
   .exact h.1.1
   exact h.1.1
  exact yS hp (by unfold lY;rw[hk2];simp)
 cases h
theorem UD(g:cV F ls){want:List Int}{m:bU}(hm:EE F ls want m)(hk:m.k=1\/m.k=4\/m.k=6):∃M,tF F ls m.k m.a m.b m.c m.l m.o m.s=jr F M/\ay F M=0/\M.length<ls.length/\aA Let.aH M<=aA Let.aH ls/\aA Let.aD M<=aA Let.aD ls:=by
 obtain⟨_,⟨av,ha,_,ea,_⟩,M0,e0⟩:=hm;have hk5:k5 m.k:=by unfold k5;omega
 rcases Vb g hk5 m.a m.b m.c m.l m.o m.s with ⟨e,he,h⟩|⟨M,h,hc,_,L,hL,rfl⟩
 .rw[e0] at h;unfold jr gE at h;simp only[RV.tup.injEq,ada,RV.one.injEq,RC.p.injEq,PV.int.injEq,and_true,true_and] at h;exact absurd h.2.symm he
 rw[ea,ab1] at hL;have hpl:=aB ls;have hlt:=Id hk ha hL;have hb:m.b.toNat<ls.length\/(m.k≠3/\m.k≠8):=.inr ⟨by omega,by omega⟩;have hcc:m.c.toNat<ls.length\/m.k≠8:=.inr (by omega);have kC:yQ (fun p=>p.l.aD):=fun p p' h=>by show(p.l.kind==2)=(p'.l.kind==2);rw[h]
 have kP:yQ (fun p=>p.l.aH):=fun p p' h=>by show(p.l.kind==1)=(p'.l.kind==1);rw[h]
 have pq:∀q:Let->Bool,(pieces ls).countP (fun p=>q p.l)=aA q ls:=fun q=>by rw[<- xg (ls:=ls) q];show _=List.countP _ (List.map _ _);rw[ac4];rfl
 have c1:=oI g kP hk5 ha hb hcc hL;have c2:=oI g kC hk5 ha hb hcc hL;rw[pq] at c1 c2;exact⟨_,h,hc,by rw[zu];exact hlt,by rw[KG];exact c1,by rw[KG];exact c2⟩
end
section
variable {F:Nat}
theorem UK{k:Int}(hk:(k==2)=false):aP S 78 [.one (.p (dE F [])),vi k] (.one (ah md 7 [])):=by
 have hpl:(hJ (pieces [])).length=0:=rfl;have h7:(((0:Nat):Int)==0)=true:=by decide
 refine aJ c78 ?_;simp only[go_sem,i78,i78_r12,hpl,h7,hk];refine dQ ?_;simp only[go_sem,i78_l10,i78_r11,zz];rfl
theorem ST(want:List Int)(hwl:want.length<=10)(hw:∀k∈want,MC k):aP S 63 [.one (.p (dE F [])),.one (.p (.sl (iP want)))] (.tup [.one (ah md 7 []),.one (ah UI 2 [])]):=by
 have lo1:S.lone 4032448128=false:=by kernel_rfl
 refine aJ c63 ?_;simp only[go_sem,i63];refine aV (fun k env blk=>env 0=.one (.p (dE F []))/\env 1=.one (.p (.sl (iP want)))/\env 8=vi ((k+1:Nat):Int)/\env 6=.one (.p .nils)/\env 7=.one (.p .nils)) 0 10 (aan _) ?_ ?_
 .simp only[go_sem];rfl
 rintro k env blk hk ⟨e0,e1,e8,e6,e7⟩
 by_cases hlt:k<10
 .have aak:((k+1:Nat):Int)<=10:=by omega
  have w1:=ak (n:=k+1) (by omega);have ph:=wM want ((k+1:Nat):Int) (by omega);cases hc:want.contains ((k+1:Nat):Int) with
  |false=>rw[hc] at ph;simp only[go_sem,i63_l3,i63_r2,e0,e1,e6,e7,e8,aak,s77,au ph,w1];exact hlt
  |true=>
   have abj:((k+1:Nat):Int)∈want:=by simpa using hc
   have pc:=UK (F:=F) (k:=((k+1:Nat):Int)) (beq_eq_false_iff_ne.2 (by have:=hw _ abj;unfold MC k5 at this;omega));rw[hc] at ph;simp only[go_sem,i63_l3,e0,e1,e8,aak,s77,au ph,s78];refine jg pc lo1 (.inl rfl) fun cc aao gl hb1=>?_;rcases gl with ⟨e,e2⟩|⟨h,_⟩
   .cases e2;simp only[go_sem];refine dQ ?_;simp only[go_sem,i63_l1,i63_r2,e0,e1,e6,e7,e8,zz,w1];exact hlt
   exact absurd rfl h
 have:k=10:=by omega
 subst this;have hnl:¬(((10+1:Nat):Int)<=10):=by decide
 simp only[go_sem,i63_l3,i63_r4,e6,e7,e8,hnl];rfl
end
section
variable {F:Nat} {ls:List Let}
theorem GO(h:ay (F:Int) []=0):F<=40:=by
 unfold ay at h;rw[if_neg (by decide)] at h;by_cases hf:(F:Int)<0\/40<(F:Int)
 .rw[if_pos hf] at h;cases h
 omega
theorem WB(h:ay (F:Int) ls=0)(want:List Int)(hwl:want.length<=10)(hw:∀k∈want,MC k):∃ms cs,(ms.length<=8000/\ ∀m∈ms,EE F ls want m)/\aP S 63 [.one (.p (dE F ls)),.one (.p (.sl (iP want)))] (.tup [.one (ah md 7 (mP ms)),.one (ah UI 2 cs)]):=by
 by_cases hne:ls=[]
 .subst hne;exact⟨[],[],⟨by simp,fun m h=>by cases h⟩,ST want hwl hw⟩
 obtain⟨G,e,g⟩:=jh h hne;have:F=G:=by omega
 subst this;exact WA g (abh.2 hne) want hwl hw
theorem WX(h:ay (F:Int) ls=0):aP S 55 [bj F ls] (tS (dE F ls) (.int .i64 0)):=by
 by_cases hne:ls=[]
 .subst hne;exact Pd (GO h)
 obtain⟨G,e,g⟩:=jh h hne;have:F=G:=by omega
 subst this;exact Pb g
theorem RY(h:ay (F:Int) ls=0)(want:List Int)(hwl:want.length<=10)(hw:∀k∈want,MC k):∃ms,(ms.length<=8000/\ ∀m∈ms,EE F ls want m)/\aP S 44 [bj F ls,.one (.p (.sl (iP want)))] (.tup [.one (ah md 7 (mP ms)),.one (.p (.int .i64 0))]):=by
 obtain⟨ms,cs,hm,ps⟩:=WB h want hwl hw;have po:=WX h;have lo:S.lone 2816256128=false:=by kernel_rfl
 refine⟨ms,hm,?_⟩;refine aJ c44 ?_;simp only[go_sem,i44,s55,aq po aN,s63];refine Zy ps lo fun c d aao gc gd hb=>?_;simp only[go_sem];exact eF gc
abbrev yl:List Int:=[1,4,6]
theorem Tj:∀k∈yl,MC k:=by intro k h;simp only[aat,aa9,or_false] at h;unfold MC k5;omega
abbrev LZ(m:bU)(b:Bool):RV:=.tup [.agg (m.ps.map .p),.one (.p (.bool b))]
theorem JK(ms:List bU):((mP ms).all fun e=>e.all PV.scalar)=true:=by rw[aba];intro e he;obtain⟨i,_,rfl⟩:=aaF.1 he;rfl
abbrev Su:bU:=⟨0,0,0,0,false,false,0⟩
theorem yj(h:ay (F:Int) ls=0):(∃m,EE F ls yl m/\(¬aP S 44 [bj F ls,.one (.p (.sl (iP yl)))] (.tup [.one (ah md 7 []),.one (.p (.int .i64 0))]))/\aP S 26 [bj F ls] (LZ m true))\/(aP S 44 [bj F ls,.one (.p (.sl (iP yl)))] (.tup [.one (ah md 7 []),.one (.p (.int .i64 0))])/\aP S 26 [bj F ls] (LZ Su false)):=by
 obtain⟨ms,⟨_,hm⟩,ps⟩:=RY h yl (by decide) Tj;have ps':aP S 44 [bj F ls,.one (.p (.sl [[.int .i64 1],[.int .i64 4],[.int .i64 6]]))] (.tup [.one (ah md 7 (mP ms)),.one (.p (.int .i64 0))]):=ps;have lo:S.lone 1664064128=false:=by kernel_rfl
 cases ms with
 |nil=>
  refine .inr ⟨ps,?_⟩;refine aJ c26 ?_;simp only[go_sem,i26,s44];refine KB ps' lo (JK _) rfl fun c aao gc hb=>?_;have b2:=hb 1664000064 (by decide);simp only[go_sem] at b2;rcases gc with ⟨_,e2⟩|⟨h,_⟩
  .cases e2;have h00:(((0:Nat):Int)==0)=true:=by decide
   simp only[go_sem,h00,b2];rfl
  exact absurd rfl h
 |cons m r=>
  refine .inl ⟨m,hm m (by simp),(fun h=>by have:=ps.Sp h;simp[ah] at this),?_⟩
  refine aJ c26 ?_;simp only[go_sem,i26,s44];refine KB ps' lo (JK _) rfl fun c aao gc hb=>?_;have b2:=hb 1664000064 (by decide);simp only[go_sem] at b2;rcases gc with ⟨h,_⟩|⟨_,gg,e2,hC⟩
  .cases h
  cases e2;have hl:(mP (m::r)).length=r.length+1:=by simp[mP]
  have h00:(((r.length+1:Nat):Int)==0)=false:=by rw[beq_eq_false_iff_ne];omega
  have hlt:0<r.length+1:=by omega
  have hat:(mP (m::r))[0]?=some m.ps:=rfl;rw[hl];generalize mP (m::r)=es at*;simp only[go_sem,h00,b2,hC,hat,hlt,bU.ps];rfl
end
theorem Xl{Q:cU}{env:Env}{blk:aw}{os:List aj}{d:Option Nat}{f:Nat}{vs:List V}{s t1 z1 t2 z2:Nat}{rd:List Nat}{es fs:List (List PV)}{x:PV}(hp:aP S f vs (.tup [.agg [.p x,ah t1 z1 es],.one (ah t2 z2 fs)]))(hlo:S.lone s=false)(hx:x.scalar=true)
  (a1:(es.all fun e=>e.all PV.scalar)=true) (a2:(fs.all fun e=>e.all PV.scalar)=true)
  (hK:∀(c e:C) aaf,grown (s+1) t1 z1 es (.one c) aaf->grown (s+2) t2 z2 fs (.one e) aaf->(∀i,i≠s+1->i≠s+2->aaf i=blk i)->RN S .all os Q (put env d (.tup [.agg [.p x,c],.one e])) aaf):gP S .all (.pc f vs rd s) d os Q env blk:=by
 obtain⟨h1,h2,_⟩:=cD (blk:=blk) (s:=s+1) (ty:=t1) (z:=z1) (es:=es);have e0:∀(b b':aw) (k:Nat) (r:RC),b' k=b k->dY b k r=dY b' k r:=by
  intro b b' k r h;cases r with
  |p v=>rfl
  |own ty sz es=>simp only[dY,h]
 have e2:dY blk (s+2) (ah t2 z2 fs)=dY (app (dY blk (s+1) (ah t1 z1 es)).2 blk) (s+2) (ah t2 z2 fs):=e0 _ _ _ _ (h2 (s+2) (by omega));obtain⟨k1,k2,_⟩:=cD (blk:=app (dY blk (s+1) (ah t1 z1 es)).2 blk) (s:=s+2) (ty:=t2) (z:=z2) (es:=fs);rw[<- e2] at k1 k2;have acX:∀(a b:List jS) (c:aw),app (a++b) c=app b (app a c):=by
  intro a
  induction a with
  |nil=>intro b c;rfl
  |cons x a ih=>intro b c;exact ih b _
 have hal:(RV.tup [.agg [.p x,ah t1 z1 es],.one (ah t2 z2 fs)]).alone=true:=by
  have a:=bG (ty:=t1) (z:=z1) a1;have b:=bG (ty:=t2) (z:=z2) a2;have hx':(RV.one (.p x)).alone=true:=by show(x.scalar&&true)=true;rw[hx];rfl
  skip
  simp only[RV.alone,dp,bQ,abu,abL,aci] at a b hx';simp only[RV.alone,dp,dJ,bQ,acp,aaZ,abo,abu,abL,aci,a,b,hx']
 refine(aq (v:=.tup [.agg [.p x,(dY blk (s+1) (ah t1 z1 es)).1],.one (dY blk (s+2) (ah t2 z2 fs)).1]) (u:=(dY blk (s+1) (ah t1 z1 es)).2++(dY blk (s+2) (ah t2 z2 fs)).2) hp ?_).2 (hK _ _ _ ?_ ?_ ?_)
 .rw[hlo,bl];unfold land;rw[if_pos (.inr hal)];simp[rV,dp,dJ,bQ,gA,iR,fg,dM,dY]
 .rw[acX];exact h1.of_eq (k2 (s+1) (by omega))
 .rw[acX];exact k1
 intro i a b;rw[acX,k2 i b,h2 i a]
theorem JV{s1 t1 z1 s2 t2 z2:Nat}{es fs:List (List PV)}{c d:C}{x:PV}{blk:aw}(hs:s1≠s2)(h:grown s1 t1 z1 es (.one c) blk)(h':grown s2 t2 z2 fs (.one d) blk):fH blk (.tup [.agg [.p x,c],.one d])=some (.tup [.agg [.p x,ah t1 z1 es],.one (ah t2 z2 fs)]):=by obtain⟨c',o,hc,h2,h3⟩:=h.fR;cases hc;obtain⟨d',q,hd,k2,k3⟩:=h'.fR;cases hd;have e1:fR blk (.p x)=some (.p x,[],[]):=rfl;rcases h3 with rfl|rfl<;>rcases k3 with rfl|rfl<;>simp[fH,jv,ii,ef,fJ,h2,k2,e1,apart,kN,fL,kx,hs]
theorem um{blk:aw}{rd:List Nat}{s:Nat}{m:bU}{b:Bool}{l:Bool}:land blk rd s ((LZ m b).bn l)=some (.tup [.agg [.p (.int .i64 m.k),.p (.int .i64 m.a),.p (.int .i64 m.b),.p (.int .i64 m.c),.p (.bool m.l),.p (.bool m.o),.p (.int .i64 m.s)],.one (.p (.bool b))],[]):=by cases l<;>(unfold land;rw[if_pos (.inr rfl)];rfl)
def BI(F:Nat)(L:List Let):Prop:=aP S 44 [bj F L,.one (.p (.sl (iP yl)))] (.tup [.one (ah md 7 []),.one (.p (.int .i64 0))])
theorem PJ:∀ {A B:List Let},cA A=cA B->A=B:=by
 intro A
 induction A with
 |nil=>intro B h;cases B with
  |nil=>rfl
  |cons _ _=>cases h
 |cons a A ih=>
  intro B h;cases B with
  |nil=>cases h
  |cons b B=>have h:a.ps::cA A=b.ps::cA B:=h;rw[ada] at h;rw[ih h.2];have h1:=h.1;cases a;cases b;simp only[Let.ps,ada,PV.int.injEq,PV.bool.injEq,and_true,true_and] at h1;obtain⟨rfl,rfl,rfl,rfl,rfl,rfl⟩:=h1;rfl
theorem OI{A B:List Let}(h:jr F A=jr F B):A=B:=by
 unfold jr at h;simp only[RV.tup.injEq,ada,RV.agg.injEq,and_true,true_and] at h;unfold ah at h;by_cases hA:cA A=[]
 .by_cases hB:cA B=[]
  .rw[List.map_eq_nil_iff.1 hA,List.map_eq_nil_iff.1 hB]
  rw[if_pos hA,if_neg hB] at h;cases h
 by_cases hB:cA B=[]
 .rw[if_neg hA,if_pos hB] at h;cases h
 rw[if_neg hA,if_neg hB] at h;simp only[RC.own.injEq,true_and] at h;exact PJ h
theorem tW{L:List Let}{e:Int}(he:e≠0):jr F L≠gE e:=fun h=>by unfold jr gE at h;simp only[RV.tup.injEq,ada,RV.one.injEq,RC.p.injEq,PV.int.injEq,and_true,true_and] at h;exact he h.2.symm
theorem Lc{ls M:List Let}(hne:ls≠[]){m:bU}(h:tF F ls m.k m.a m.b m.c m.l m.o m.s=jr F M):km F ls m=some M:=by
 unfold km;rw[if_neg hne];unfold tF at h;by_cases hA:aQ F ls m.k m.a m.b m.c m.l m.o m.s=true
 .rw[if_pos hA] at h ⊢;cases hM:jW F ls m.k m.a.toNat m.b.toNat m.c.toNat m.l m.o m.s with
  |none=>rw[hM] at h;exact absurd h.symm (tW (by decide))
  |some L=>
   rw[hM] at h;dsimp only;by_cases hc:(400:Int)<(ls.length:Int)+(bK m.k).1\/(100:Int)<((aA Let.aD ls/2:Nat):Int)+(bK m.k).2
   .have e2:GD F ls m.k (some L)=gE 7:=if_pos hc;rw[e2] at h;exact absurd h.symm (tW (by decide))
   have e2:GD F ls m.k (some L)=jr F (lf L):=if_neg hc;rw[e2] at h;rw[if_neg hc,OI h]
 rw[if_neg hA] at h;exact absurd h.symm (tW (by decide))
structure EA (F:Nat) (ls:List Let) (ms:List bU) (L:List Let):Prop where
 len:L.length+ms.length<=ls.length
 chk:ay (F:Int) L=0
 rep:ky F ls ms=some L
 kind:∀m∈ms,m.k∈yl
def Q9(F:Nat)(ls:List Let)(ms:List bU)(L:List Let)(c:C)(blk:aw):Prop:=(c=.p (eB L)/\ms=[]/\L=ls)\/grown 1344320129 iM 6 (cA L) (.one c) blk
theorem Q9.snap{ls L:List Let}{ms:List bU}{c:C}{blk:aw}(h:Q9 F ls ms L c blk):∃r,∀B:aw,B 1344320129=blk 1344320129->Go.Abs.snap B cG c=some (eB L,r):=by
 rcases h with ⟨rfl,_,_⟩|h
 .exact⟨[],fun B _=>rfl⟩
 obtain⟨r,h1,_⟩:=h.xW;exact⟨r,h1⟩
theorem EA.step{ls L:List Let}{ms:List bU}{m:bU}(h:EA F ls ms L)(h4:ls.length<=400)(hm:EE F L yl m):∃M,aP S 38 [bj F L,pR m] (jr F M)/\EA F ls (ms++[m]) M:=by
 have hne:L≠[]:=by obtain⟨_,⟨a,ha,_⟩,_⟩:=hm;intro e;rw[e] at ha;exact absurd ha (abW a)
 obtain⟨G,e,g⟩:=jh h.chk hne;have:F=G:=by omega
 subst this;have hk:m.k=1\/m.k=4\/m.k=6:=by
  have:=hm.1
  simpa using this
 obtain⟨M,ha,hc,hlt,_,_⟩:=UD g hm hk;have hk5:k5 m.k:=by unfold k5;omega
 have pa:=Je g hk5 m.a m.b m.c m.l m.o m.s;rw[ha] at pa;have hl:=h.len;refine⟨M,pa,⟨by rw[aaY];simp only[aaz,aaL];omega,hc,by rw[u9 m h.rep];exact Lc hne ha,fun x hx=>?_⟩⟩;rcases aaR.1 hx with h1|h1
 .exact h.kind x h1
 rw[abJ.1 h1];exact hm.1
theorem EA.start{ls:List Let}(h:ay (F:Int) ls=0):EA F ls [] ls:=⟨aaj _,h,rfl,fun m h=>(by cases h)⟩
def WI(F:Nat)(ls:List Let)(ms:List bU)(M:List Let)(r:RV):Prop:=(ms=[]/\M=ls/\r=.tup [.agg [.p (.int .i64 F),.p (eB ls)],.one (.p .nils)])\/r=.tup [.agg [.p (.int .i64 F),ah iM 6 (cA M)],.one (ah md 7 (mP ms))]
theorem OM{ls:List Let}(hck:ay (F:Int) ls=0)(hlen:ls.length<=400):∃r,(∃ms M,EA F ls ms M/\BI F M/\WI F ls ms M r)/\aP S 21 [bj F ls] r:=by
 have lo1:S.lone 1344320128=false:=by kernel_rfl
 have red:∀L,ay (F:Int) L=0->∃m b,aP S 26 [bj F L] (LZ m b)/\(b=true->EE F L yl m)/\(b=false->BI F L):=by
  intro L h;rcases yj h with ⟨m,h1,_,h2⟩|⟨h1,h2⟩
  .exact⟨m,true,h2,fun _=>h1,fun h=>(by cases h)⟩
  exact⟨Su,false,h2,fun h=>(by cases h),fun _=>h1⟩
 refine l8 rfl c21 (aaW rfl) ?_;obtain⟨m0,b0,pr0,k1,k2⟩:=red ls hck;simp only[go_sem,i21,s26,aq pr0 um];refine aV (fun k env blk=>∃L ms c d m b gm idm,(idm=1344128320\/idm=1344512000)/\env 1=.one (.aam 1344000000 1 0)/\env 2=.one (.aam 1344000064 1 0)/\blk 1344000064=(1,some (.var [.p (.int .i64 0),.p .nils]))/\env 6=.one (.p (.bool b))/\env 4=.one d/\env 5=.one (.aam idm gm 0)/\blk idm=(gm,some (.var (m.ps.map .p)))/\blk 1344000000=(1,some (.var [.p (.int .i64 F),c]))/\Q9 F ls ms L c blk/\grown 1344384192 md 7 (mP ms) (.one d) blk/\ms.length=k/\EA F ls ms L/\(b=true->EE F L yl m)/\(b=false->BI F L)) 0 ls.length (aan _) ?_ ?_
 .simp only[go_sem];refine⟨ls,[],.p (eB ls),.p .nils,m0,b0,1,1344128320,.inl rfl,?_⟩;exact⟨rfl,rfl,rfl,rfl,rfl,.inl ⟨rfl,rfl,rfl⟩,grown.nil,rfl,EA.start hck,k1,k2⟩
 rintro k env blk hk ⟨L,ms,c,d,m,b,gm,idm,hid,h1,h2,bZ,h6,h4,h5,bm,b0,hc,gp,hmk,hR,hok,hno⟩
 rcases hid with rfl|rfl
 .have hcB:=hc;obtain⟨rd,hsn⟩:=hcB.snap;simp only[bU.ps,aaK,abi] at bm;cases b with
  |false=>
   simp only[go_sem,i21_l1,i21_r2,h1,h2,h4,h6,b0,bZ];rcases hc with ⟨rfl,rfl,rfl⟩|gc
   .rcases gp with ⟨_,e2⟩|⟨hne,_⟩
    .cases e2;exact⟨_,⟨[],_,hR,hno rfl,.inl ⟨rfl,rfl,rfl⟩⟩,rfl⟩
    exact absurd rfl hne
   exact⟨_,⟨ms,L,hR,hno rfl,.inr rfl⟩,JV (by decide) (gc.of_eq (af (by decide))) (gp.of_eq (af (by decide)))⟩
  |true=>
   obtain⟨M,pa,hR2⟩:=hR.step hlen (hok rfl);obtain⟨m2,b2,pr2,k1,k2⟩:=red M hR2.chk;have aqR:=hR.len;simp only[go_sem,i21_l1,h1,h5,h6,bm,b0,hsn,s38];refine IF pa lo1 rfl rfl (qw _) fun cc aao gc hb=>?_;have q0:=hb 1344000000 (by decide);have q1:=hb 1344128320 (by decide);have q2:=hb 1344000064 (by decide);simp only[go_sem,b0,bm,bZ] at q0 q1 q2;have gp1:=gp.of_eq (hb 1344384192 (by decide));simp only[go_sem,h1,h4,h5,q0,q1];refine iN (xs:=[bU.ps m]) (gp1.of_eq (by simp only[aa,Nat.reduceEqDiff,if_false])) (by simp only[aO,aa,if_true];rfl) (.inl rfl) (by simp only[eS,aaz,aaL];omega) fun d2 aal gp2 hb2=>?_
   have r0:=hb2 1344000000 (by decide) (by decide);have r1:=hb2 1344128320 (by decide) (by decide);have r2:=hb2 1344000064 (by decide) (by decide);simp only[go_sem,q0,q1,q2] at r0 r1 r2;have gc2:grown 1344320129 iM 6 (cA M) (.one cc) aal:=(show grown 1344320129 iM 6 (cA M) (.one cc) aao from gc).of_eq ((hb2 1344320129 (by decide) (by decide)).trans (by simp only[aa,Nat.reduceEqDiff,if_false]));obtain⟨rd2,hs2,_⟩:=gc2.xW;simp only[go_sem,h1,h2,h4,h5,h6,r0,r1,r2,hs2,s26,aq pr2 um];have hl2:=hR2.len;rw[aaY] at hl2
   simp only[aaz,aaL] at hl2;refine⟨by omega,M,ms++[m],cc,d2,m2,b2,_,1344512000,.inr rfl,rfl,rfl,rfl,if_pos rfl,rfl,.inr (gc2.of_eq (by simp only[aa,Nat.reduceEqDiff,if_false])),?_,by simp[hmk],hR2,k1,k2⟩;rw[show mP (ms++[m])=mP ms++[bU.ps m] by simp[mP]];exact gp2.of_eq (by simp only[aa,Nat.reduceEqDiff,if_false])
 have hcB:=hc;obtain⟨rd,hsn⟩:=hcB.snap;simp only[bU.ps,aaK,abi] at bm;cases b with
 |false=>
  simp only[go_sem,i21_l1,i21_r2,h1,h2,h4,h6,b0,bZ];rcases hc with ⟨rfl,rfl,rfl⟩|gc
  .rcases gp with ⟨_,e2⟩|⟨hne,_⟩
   .cases e2;exact⟨_,⟨[],_,hR,hno rfl,.inl ⟨rfl,rfl,rfl⟩⟩,rfl⟩
   exact absurd rfl hne
  exact⟨_,⟨ms,L,hR,hno rfl,.inr rfl⟩,JV (by decide) (gc.of_eq (af (by decide))) (gp.of_eq (af (by decide)))⟩
 |true=>
  obtain⟨M,pa,hR2⟩:=hR.step hlen (hok rfl);obtain⟨m2,b2,pr2,k1,k2⟩:=red M hR2.chk;have aqR:=hR.len;simp only[go_sem,i21_l1,h1,h5,h6,bm,b0,hsn,s38];refine IF pa lo1 rfl rfl (qw _) fun cc aao gc hb=>?_;have q0:=hb 1344000000 (by decide);have q1:=hb 1344512000 (by decide);have q2:=hb 1344000064 (by decide);simp only[go_sem,b0,bm,bZ] at q0 q1 q2;have gp1:=gp.of_eq (hb 1344384192 (by decide));simp only[go_sem,h1,h4,h5,q0,q1];refine iN (xs:=[bU.ps m]) (gp1.of_eq (by simp only[aa,Nat.reduceEqDiff,if_false])) (by simp only[aO,aa,if_true];rfl) (.inl rfl) (by simp only[eS,aaz,aaL];omega) fun d2 aal gp2 hb2=>?_
  have r0:=hb2 1344000000 (by decide) (by decide);have r1:=hb2 1344512000 (by decide) (by decide);have r2:=hb2 1344000064 (by decide) (by decide);simp only[go_sem,q0,q1,q2] at r0 r1 r2;have gc2:grown 1344320129 iM 6 (cA M) (.one cc) aal:=(show grown 1344320129 iM 6 (cA M) (.one cc) aao from gc).of_eq ((hb2 1344320129 (by decide) (by decide)).trans (by simp only[aa,Nat.reduceEqDiff,if_false]));obtain⟨rd2,hs2,_⟩:=gc2.xW;simp only[go_sem,h1,h2,h4,h5,h6,r0,r1,r2,hs2,s26,aq pr2 um];have hl2:=hR2.len;rw[aaY] at hl2
  simp only[aaz,aaL] at hl2;refine⟨by omega,M,ms++[m],cc,d2,m2,b2,_,1344512000,.inr rfl,rfl,rfl,rfl,if_pos rfl,rfl,.inr (gc2.of_eq (by simp only[aa,Nat.reduceEqDiff,if_false])),?_,by simp[hmk],hR2,k1,k2⟩;rw[show mP (ms++[m])=mP ms++[bU.ps m] by simp[mP]];exact gp2.of_eq (by simp only[aa,Nat.reduceEqDiff,if_false])
end
end Go.Abs
