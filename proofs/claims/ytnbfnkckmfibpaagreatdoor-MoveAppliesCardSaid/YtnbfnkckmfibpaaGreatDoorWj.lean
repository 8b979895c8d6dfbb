/-
  Walks and faces as lists.
-/
import Derived.Test.YtnbfnkckmfibpaaGreatDoorWh
set_option linter.unusedSimpArgs false
set_option linter.unusedVariables false
set_option linter.unusedSectionVars false
set_option maxRecDepth 100000
set_option maxHeartbeats 16000000
namespace Go.Abs
section
variable{F:Nat}{ls:List ae}
def ij(n v:Nat)(fw:Bool):Nat:=if fw then 2*((v+n - 1)%n) else 2*v+1
def lvV(n e:Nat):Nat:=if e%2=0 then e/2 else (e/2+1)%n
theorem j8{n v:Nat}(hv:v<n):((v+n - 1)%n+1)%n=v:=by
 by_cases h:v=0
 ·subst h;rw[abC,abF (show n - 1<n by omega),show n - 1+1=n by omega,Nat.mod_self]
 ·rw[show v+n - 1=(v - 1)+n by omega,Nat.add_mod_right,abF (show v - 1<n by omega),show v - 1+1=v by omega,abF hv]
theorem vC{n v:Nat}(hv:v<n):((v+1)%n+n - 1)%n=v:=by
 by_cases h:v+1=n
 ·rw[h,Nat.mod_self,abC,abF (show n - 1<n by omega)];omega
 ·rw[abF (show v+1<n by omega),show v+1+n - 1=v+n by omega,Nat.add_mod_right,abF hv]
theorem Ck{n v:Nat}(hv:v<n)(g:Bool):lvV n (cP n v g)=v/\(cP n v g%2==0)=g:=by
 unfold lvV cP;cases g with
 |true=>
  have h1:(2*v)%2=0:=by omega
  simp only[if_true,h1];exact⟨by omega,rfl⟩
 |false=>
  have h1:(2*((v+n - 1)%n)+1)%2=1:=by omega
  have h2:(2*((v+n - 1)%n)+1)/2=(v+n - 1)%n:=by omega
  simp only[aaL,if_false,h1,h2,Nat.one_ne_zero,j8 hv];exact⟨trivial,rfl⟩
def xV(ls:List ae)(ax:List Nat)(e:Nat):Nat:=
 if 2*ls.length<=e then
  if e%2=0 then ij ls.length (ax.getD ((e - 2*ls.length)/2) 0) (dn ls (ax.getD ((e - 2*ls.length)/2) 0))
  else ij ls.length (ax.getD (((e - 2*ls.length)/2+1)%ax.length) 0) (!dn ls (ax.getD (((e - 2*ls.length)/2+1)%ax.length) 0))
 else
  let v:=lvV ls.length e
  let g:=e%2==0
  match ls[v]? with
  |none=>0
  |some l=>if l.kind==2 then
    match ls[dk ls v]? with
    |some u=>ij ls.length (dk ls v) (g==(u.over==(u.sign==1)))
    |none=>0
   else if g==dn ls v then 2*ls.length+2*ax.idxOf v+1 else 2*ls.length+2*((ax.idxOf v+ax.length - 1)%ax.length)
theorem g9(hr:ed ls=true){i:Nat}{l:ae}(hl:ls[i]? =some l)(hc:l.aJ=true):dk ls (dk ls i)=i/\ ∃ m,ls[dk ls i]? =some m/\m.aJ=true/\m.id=l.id/\m.over= !l.over/\m.sign=l.sign:=by
 obtain⟨h1,h2⟩:=oI hr hl hc;obtain⟨_,h3⟩:=iL h1;obtain⟨m,hm,mc,mi,mo⟩:=iD h3;have hp:qO ls:=by
  have:=hr;unfold ed at this;simp only[aan,beq_iff_eq,aaJ,aaE] at this;exact(Bb.1 this.1.2).2
 have TA:i≠dk ls i:=by
  intro e;rw[<- e,hl] at hm;cases hm
  revert mo;cases l.over<;>simp
 obtain⟨h4,h5⟩:=oI hr hm mc;obtain⟨_,h6⟩:=iL h4;obtain⟨x,hx,xc,xi,xo⟩:=iD h6;refine⟨?_,m,hm,mc,mi,mo,((hp i _ l m hl hm hc mc mi.symm TA).2).symm⟩;refine Decidable.byContradiction fun hn=> ?_
 have:=(hp _ i x l hx hl xc hc (by rw[xi,mi]) hn).1;rw[xo,mo] at this;revert this;cases l.over<;>simp
theorem xJ{ax:List Nat}{d v:Nat}{fw:Bool}{l:ae}(h: ¬ 2*ls.length<=d)(hfw:(d%2==0)=fw)(hv:v=if fw then (d/2+1)%ls.length else d/2)(hl:ls[v]? =some l):
  ce ls ax d=if l.kind==2 then cP ls.length (dk ls v) (fw==(l.over==(l.sign==1)))
   else if dn ls v==fw then 2*ls.length+2*ax.idxOf v else 2*ls.length+2*((ax.idxOf v+ax.length - 1)%ax.length)+1:=by
 subst hfw;subst hv;unfold ce;rw[if_neg h];simp only[hl]
theorem xU(ok:eN F ls){d:Nat}(hd:d<2*ls.length+2*(ah ls).length):xV ls (ah ls) (ce ls (ah ls) d)=d:=by
 have nJ: ∀ x∈ah ls,x<ls.length/\ ∃ l,ls[x]? =some l/\l.bq=true:=fun x hx=>by
  obtain⟨l,h1,h2⟩:=eE.1 hx;exact⟨(aag.1 h1).1,l,h1,h2⟩
 have ain: ∀ {p v:Nat},(ah ls)[p]? =some v->(ah ls).idxOf v=p:=fun {p v} hp=>by
  obtain⟨l,hl,hlp,he⟩:=mM ok.ax hp;rw[n9 ok.ax hl hlp,he]
 have along_small: ∀ {v:Nat} (g:Bool),v<ls.length-> ¬ 2*ls.length<=cP ls.length v g:=fun {v} g hv=>by
  have:=ft (n:=ls.length) (fw:=g) hv;omega
 have notC: ∀ {l:ae},l.bq=true->(l.kind==2)=false:=fun {l} h=>jf h
 have fromAxis: ∀ {p v:Nat} (g:Bool),(ah ls)[p]? =some v->xV ls (ah ls) (cP ls.length v g)=if g==dn ls v then 2*ls.length+2*p+1 else 2*ls.length+2*((p+(ah ls).length - 1)%(ah ls).length):=by
  intro p v g hp;obtain⟨hv,l,hl,hlp⟩:=nJ v (aaf hp);obtain⟨e1,e2⟩:=Ck hv g;unfold xV;rw[if_neg (along_small g hv)];simp only[e1,e2,hl,notC hlp,ain hp];rfl
 by_cases h:2*ls.length<=d
 ·unfold ce;rw[if_pos h];have hm:=aax ((d - 2*ls.length)/2+1) (show 0<(ah ls).length by omega);by_cases h2:d%2=0
  ·rw[if_pos h2];obtain⟨v,hv⟩:=ao hm;have YQ:(ah ls).getD (((d - 2*ls.length)/2+1)%(ah ls).length) 0=v:=by rw[aap,hv];rfl
   rw[YQ,fromAxis _ hv];have hb:((!dn ls v)==dn ls v)=false:=by cases dn ls v<;>rfl
   rw[hb,vC (show(d - 2*ls.length)/2<(ah ls).length by omega)];simp only[aaL,if_false];omega
  ·rw[if_neg h2];obtain⟨v,hv⟩:=ao (ls:=ah ls) (k:=(d - 2*ls.length)/2) (by omega);have YQ:(ah ls).getD ((d - 2*ls.length)/2) 0=v:=by rw[aap,hv];rfl
   rw[YQ,fromAxis _ hv];simp only[beq_self_eq_true,if_true];omega
 ·have hn:0<ls.length:=by omega
  have VF:=aax (d/2+1) hn;have key: ∀ (v:Nat) (fw:Bool),v<ls.length->(d%2==0)=fw->v=(if fw then (d/2+1)%ls.length else d/2)->ij ls.length v fw=d:=by
   intro v fw hv hfw Uh;unfold ij;cases fw with
   |true=>
    have hfw:d%2=0:=by simpa using hfw
    simp only[if_true] at Uh ⊢;rw[Uh,vC (show d/2<ls.length by omega)];omega
   |false=>
    have hfw:d%2≠0:=by simpa using hfw
    simp only[aaL,if_false] at Uh ⊢;omega
  generalize hv:(if (d%2==0)=true then (d/2+1)%ls.length else d/2)=v;generalize hfw:(d%2==0)=fw at hv;have Xr:v<ls.length:=by rw[<- hv];split<;>omega
  have XK:=key v fw Xr hfw hv.symm;obtain⟨l,hl⟩:=ao Xr;rw[xJ h hfw hv.symm hl];cases hk:(l.kind==2) with
  |true=>
   have hc:l.aJ=true:=hk;obtain⟨hb,m,hm,mc,mi,mo,ms⟩:=g9 ok.cr hl hc;have hol:=(oI ok.cr hl hc).2;rw[if_pos rfl];obtain⟨e1,e2⟩:=Ck hol (fw==(l.over==(l.sign==1)));unfold xV;rw[if_neg (along_small _ hol)];have mk:(m.kind==2)=true:=mc;simp only[e1,e2,hm,mk,if_true,hb,hl];have hbb:((fw==(l.over==(l.sign==1)))==(l.over==(l.sign==1)))=fw:=by
    cases fw<;>cases (l.over==(l.sign==1))<;>rfl
   rw[hbb];exact XK
  |false=>
   have hp:=ok.GA hl hk;have hix:=n9 ok.ax hl hp;have TD:=mL ok.ax hl hp;have hpT:=(aag.1 TD).1;rw[if_neg (by simp),hix];cases hq:(dn ls v==fw) with
   |true=>
    simp only[if_true];unfold xV;rw[if_pos (by omega),if_pos (by omega)];have e1:(2*ls.length+2*cR ls l - 2*ls.length)/2=cR ls l:=by omega
    have e2:(ah ls).getD (cR ls l) 0=v:=by rw[aap,TD];rfl
    rw[e1,e2,show dn ls v=fw by simpa using hq];exact XK
   |false=>
    have Vi:=aax (cR ls l+(ah ls).length - 1) (show 0<(ah ls).length by omega);simp only[aaL,if_false];unfold xV;rw[if_pos (by omega),if_neg (by omega)];have e1:(2*ls.length+2*((cR ls l+(ah ls).length - 1)%(ah ls).length)+1 - 2*ls.length)/2=(cR ls l+(ah ls).length - 1)%(ah ls).length:=by omega
    have e2:(ah ls).getD (cR ls l) 0=v:=by rw[aap,TD];rfl
    rw[e1,j8 hpT,e2,show(!dn ls v)=fw by revert hq;cases dn ls v<;>cases fw<;>simp];exact XK
theorem Jz(ok:eN F ls){d e:Nat}(hd:d<2*ls.length+2*(ah ls).length)(he:e<2*ls.length+2*(ah ls).length)(h:cM ls d=cM ls e):d=e:=by
 have h1:=xU ok hd;have h2:=xU ok he;rw[<- h1,<- h2];exact congrArg _ h
def Sb(next:Nat->Nat)(n2:Nat):Nat->Nat->List Bool->List Nat × List Bool
 |0,_,sp=>([],sp)
 |k+1,x,sp=>if x<n2 then
   if sp.getD x true then ([],sp) else (x::(Sb next n2 k (next x) (sp.set x true)).1,(Sb next n2 k (next x) (sp.set x true)).2)
  else (x::(Sb next n2 k (next x) sp).1,(Sb next n2 k (next x) sp).2)
abbrev sn(S:List Bool)(x:Nat):Bool:=S.getD x true
theorem u3{S:List Bool}{x y:Nat}(hx:x<S.length):sn (S.set x true) y=if y=x then true else sn S y:=by
 unfold sn;rw[aap,aap,aa3];by_cases h:x=y
 ·subst h;simp[hx]
 ·rw[if_neg h,if_neg (fun e=>h e.symm)]
structure xF (next:Nat->Nat) (n2 N:Nat):Prop where
 le:n2<=N
 lt: ∀ x,x<N->next x<N
 inj: ∀ x y,x<N->y<N->next x=next y->x=y
 ax: ∀ x,x<N->n2<=x->next x<n2
def xf(next:Nat->Nat)(N:Nat)(S:List Bool):Prop:= ∀ y,y<N->sn S y=sn S (next y)
structure Inv (next:Nat->Nat) (N d:Nat) (S:List Bool) (x:Nat):Prop where
 i1: ∀ y,y<N->sn S (next y)=true->sn S y=true\/next y=d
 i2: ∀ y,y<N->sn S y=true->sn S (next y)=true\/next y=x
 i4:sn S x=true->x=d
 pr:(x=d/\sn S x=false)\/ ∃ p,p<N/\next p=x/\sn S p=true
theorem Inv.start{next:Nat->Nat}{N d:Nat}{S:List Bool}(h:xf next N S)(hd:sn S d=false):Inv next N d S d:=
 ⟨fun y hy hs=> .inl (by rw[h y hy];exact hs),fun y hy hs=> .inl (by rw[<- h y hy];exact hs),fun _=>rfl, .inl ⟨rfl,hd⟩⟩
theorem Inv.stop{next:Nat->Nat}{n2 N d:Nat}{S:List Bool}{x:Nat}(m:xF next n2 N)(h:Inv next N d S x)(hx:sn S x=true):xf next N S:=by
 have hxd:=h.i4 hx;subst hxd;intro y hy;cases h1:sn S y with
 |true=>
  rcases h.i2 y hy h1 with h2|h2
  ·rw[h2]
  ·rw[h2,hx]
 |false=>
  cases h2:sn S (next y) with
  |false=>rfl
  |true=>
   rcases h.i1 y hy h2 with h3|h3
   ·rw[h3] at h1;cases h1
   ·rcases h.pr with ⟨_,h4⟩|⟨p,hp,UW,TT⟩
    ·rw[hx] at h4;cases h4
    ·have:=m.inj y p hy hp (by rw[h3,UW]);rw[this,TT] at h1;cases h1
theorem Inv.step{next:Nat->Nat}{n2 N d:Nat}{S:List Bool}{x:Nat}(m:xF next n2 N)(hl:S.length=N)(hxN:x<N)(h:Inv next N d S x)(hx:sn S x=false):Inv next N d (S.set x true) (next x):=by
 have XC:x<S.length:=by omega
 refine⟨fun y hy hs=> ?_,fun y hy hs=> ?_,fun hs=> ?_, .inr ⟨x,hxN,rfl,by rw[u3 XC,if_pos rfl]⟩⟩
 ·rw[u3 XC] at hs ⊢;by_cases e:next y=x
  ·rcases h.pr with ⟨h1,_⟩|⟨p,hp,UW,TT⟩
   ·exact .inr (by rw[e,h1])
   ·have:=m.inj y p hy hp (by rw[e,UW]);left;rw[this];split
    ·rfl
    ·exact TT
  ·rw[if_neg e] at hs;rcases h.i1 y hy hs with h2|h2
   ·left;split
    ·rfl
    ·exact h2
   ·exact .inr h2
 ·rw[u3 XC] at hs ⊢;by_cases e:y=x
  ·subst e;exact .inr rfl
  ·rw[if_neg e] at hs;rcases h.i2 y hy hs with h2|h2
   ·left;split
    ·rfl
    ·exact h2
   ·left;rw[if_pos h2]
 ·rw[u3 XC] at hs;by_cases e:next x=x
  ·rcases h.pr with ⟨h1,_⟩|⟨p,hp,UW,TT⟩
   ·rw[e,h1]
   ·have:=m.inj p x hp hxN (by rw[UW,e]);rw[this,hx] at TT;cases TT
  ·rw[if_neg e] at hs;rcases h.i1 x hxN hs with h2|h2
   ·rw[hx] at h2;cases h2
   ·exact h2
theorem zP{S:List Bool}{n2 x:Nat}(hx:x<n2)(hl:n2<=S.length):(S.take n2).getD x true=sn S x:=by
 unfold sn;rw[aap,aap,abi,if_pos hx]
theorem te{S:List Bool}{n2 x:Nat}:(S.take n2).set x true=(S.set x true).take n2:=by
 rw[<- List.take_set]
theorem tg{S:List Bool}{n2 x:Nat}(hx:n2<=x):(S.set x true).take n2=S.take n2:=by
 rw[List.take_set];exact List.set_eq_of_length_le (by rw[aaB];omega)
theorem Hn{next:Nat->Nat}{n2 N d:Nat}(m:xF next n2 N)(hd:d<n2): ∀ (fuel x:Nat) (S:List Bool),S.length=N->x<N->Inv next N d S x->jw S<fuel->
  xf next N (bQ next fuel x S).2/\Sb next n2 fuel x (S.take n2)=((bQ next fuel x S).1,(bQ next fuel x S).2.take n2):=by
 intro fuel
 induction fuel with
 |zero=>intro x S _ _ _ h;omega
 |succ fuel ih=>
  intro x S hl hx hi hu;have hle:=m.le;unfold bQ Sb;cases hs:S.getD x true with
  |true=>
   have hxd:=hi.i4 hs;have Ti:x<n2:=by omega
   rw[if_pos Ti,zP Ti (by omega),show sn S x=true from hs];exact⟨hi.stop m hs,rfl⟩
  |false=>
   have hsx:S[x]? =some false:=by
    rw[aap] at hs;cases h1:S[x]? with
    |none=>rw[h1] at hs;cases hs
    |some b=>rw[h1] at hs;exact congrArg some hs
   have hun:=jT hsx;obtain⟨c1,c2⟩:=ih (next x) (S.set x true) (by rw[aaD,hl]) (m.lt x hx) (hi.step m hl hx hs) (by omega);simp only[aaL,if_false];refine⟨c1,?_⟩;by_cases Ti:x<n2
   ·rw[if_pos Ti,zP Ti (by omega),show sn S x=false from hs];simp only[aaL,if_false];rw[te,c2]
   ·rw[if_neg Ti];rw[tg (by omega)] at c2;rw[c2]
theorem eN.nJ(_:eN F ls): ∀ x∈ah ls,x<ls.length:=fun _ h=>rM h
theorem eN.hp(ok:eN F ls): ∀ v l,ls[v]? =some l->(l.kind==2)=false->v∈ah ls:=fun _ l hv h2=>eE.2 ⟨l,hv,ok.GA hv h2⟩
abbrev nD(ls:List ae):Nat:=2*ls.length+2*(ah ls).length
theorem maps(ok:eN F ls):xF (cM ls) (2*ls.length) (nD ls):=by
 refine⟨by unfold nD;omega,fun x hx=>qq ok.nJ ok.hp hx,fun x y hx hy h=>Jz ok hx hy h,fun x hx hn=> ?_⟩;have hx:x<2*ls.length+2*(ah ls).length:=hx;have WL: ∀ k,k<(ah ls).length->(ah ls).getD k 0<ls.length:=fun k hk=>by
  obtain⟨v,hv⟩:=ao hk;rw[aap,hv];exact ok.nJ v (aaf hv)
 have hm:=aax ((x - 2*ls.length)/2+1) (show 0<(ah ls).length by omega);show ce ls (ah ls) x<_;unfold ce;rw[if_pos hn];split
 ·exact ft (WL _ hm)
 ·exact ft (WL _ (by omega))
theorem xG(next:Nat->Nat): ∀ (k x:Nat) (S:List Bool) (y:Nat),sn S y=true->sn (bQ next k x S).2 y=true:=by
 intro k
 induction k with
 |zero=>intro x S y h;exact h
 |succ k ih=>
  intro x S y h;unfold bQ;split
  ·exact h
  ·refine ih _ _ _ ?_;unfold sn;rw[aap,aa3];split
   ·split<;>rfl
   ·rw[<- aap];exact h
theorem ta(next:Nat->Nat)(k x:Nat)(S:List Bool)(hk:jw S<k):sn (bQ next k x S).2 x=true:=by
 cases k with
 |zero=>omega
 |succ k=>
  unfold bQ;cases hs:S.getD x true with
  |true=>simpa using hs
  |false=>
   simp only[aaL,if_false];refine xG _ _ _ _ _ ?_;unfold sn;rw[aap,aa3];split
   ·split<;>rfl
   ·rename_i h;exact absurd rfl h
section
variable {next:Nat->Nat} {n2 N:Nat}
theorem Ef{x:Nat}(h:x<N):sn (List.replicate N false) x=false:=by
 unfold sn;rw[aap,List.getElem?_replicate,if_pos h];rfl
theorem jd(m:xF next n2 N): ∀ k,k<=n2->xf next N (aL next N k).2/\ ∀ x,x<k->sn (aL next N k).2 x=true:=by
 intro k
 induction k with
 |zero=>
  intro _;refine⟨fun y hy=> ?_,fun x h=>absurd h (abl x)⟩;show sn (List.replicate N false) y=sn (List.replicate N false) (next y);rw[Ef hy,Ef (m.lt y hy)]
 |succ k ih=>
  intro hk;obtain⟨c,s⟩:=ih (by omega);have hlen:=gH next N k;have hle:=m.le;rw[de];unfold d9;cases hs:(aL next N k).2.getD k true with
  |true=>
   simp only[if_true];refine⟨c,fun x hx=> ?_⟩;rcases aaW.1 hx with h|rfl
   ·exact s x h
   ·exact hs
  |false=>
   simp only[aaL,if_false];have hul:=jN (aL next N k).2;obtain⟨c1,_⟩:=Hn m (show k<n2 by omega) ((aL next N k).2.length+1) k (aL next N k).2 hlen (by omega) (Inv.start c hs) (by omega);refine⟨c1,fun x hx=> ?_⟩;rcases aaW.1 hx with h|rfl
   ·exact xG _ _ _ _ _ (s x h)
   ·exact ta _ _ _ _ (by omega)
theorem pQ(m:xF next n2 N): ∀ k,n2<=k->k<=N->aL next N k=aL next N n2:=by
 intro k
 induction k with
 |zero=>intro h _;rw[show n2=0 by omega]
 |succ k ih=>
  intro h1 h2;by_cases e:n2=k+1
  ·rw[e]
  ·rw[de,ih (by omega) (by omega)];obtain⟨c,s⟩:=jd m n2 (aal _);unfold d9;have:(aL next N n2).2.getD k true=true:=by
    have h3:=c k (by omega);have h4:=s (next k) (m.ax k (by omega) (by omega));show sn (aL next N n2).2 k=true;rw[h3,h4]
   rw[this];rfl
end
theorem Hd(f:Int)(ls:List ae)(e:Nat)(hl:ls.length<=1000000)(he:e<ls.length):aH S 60 [aQ f ls,vi e] (rb (!dn ls (e+1))):=by
 have pd:=wB f ls (e+1) hl (by omega);have w1:=am (n:=e) (by omega);refine aG c60 ?_;simp only[go_sem,i60,w1,s98,aa pd]
theorem HS(w:List Nat)(hw:w.length<=1000000):aH S 88 [.one (.p (jl w))] (.one (aq 3 1 (nP w.reverse))):=by
 have w0:=fd (a:=w.length) (by omega);refine aG c88 ?_;simp only[go_sem,i88,w0];refine be (fun k env Tc=>env 0= .one (.p (jl w))/\env 4=vi ((w.length:Int) - 1 - (k:Int))/\grown 5632320384 3 1 (nP (w.reverse.take k)) (env 3) Tc) 0 w.length (aah _) ?_ ?_
 ·simp only[go_sem];refine⟨by simp, .inl ⟨by simp,rfl⟩⟩
 ·rintro k env Tc hk ⟨h0,h4,ho⟩
  by_cases Ti:k<w.length
  ·have e1:((w.length:Int) - 1 - (k:Int))=((w.length - 1 - k:Nat):Int):=by omega
   rw[e1] at h4;have Va:(0:Int)<=((w.length - 1 - k:Nat):Int):=by omega
   obtain⟨v,hv⟩:=ao (show w.length - 1 - k<w.length by omega);have WH:=cN hv;have w1:IntKind.i64.wrap (((w.length - 1 - k:Nat):Int) - 1)=((w.length:Int) - 1 - ((k+1:Nat):Int)):=by
    rw[fd (by omega)];omega
   have hrv:w.reverse[k]? =some v:=by rw[List.getElem?_reverse Ti];exact hv
   have Uq:nP (w.reverse.take (k+1))=nP (w.reverse.take k)++[[.int .i64 (v:Int)]]:=by
    rw[aaX,hrv];simp
   have WI:(nP (w.reverse.take k)).length=k:=by simp;omega
   rcases ho with ⟨e,h3⟩|⟨TA,g,h3,hC⟩
   ·rw[e] at Uq WI;have hk0:k=0:=by simpa using WI.symm
    simp only[go_sem,i88_l1,h0,h3,h4,Va,WH,w1,Ti,ac];refine .inr ⟨by rw[Uq];simp,(Tc 5632320384).1+1,?_,?_⟩
    ·rw[Uq];rfl
    ·simp only[af,if_true];rw[Uq];rfl
   ·rw[WI] at h3;have ht:List.take k (nP (w.reverse.take k))=nP (w.reverse.take k):=aau (by omega);have hr:(k+1)*8<=140737488355328:=by omega
    have T9:k<=(nP (w.reverse.take k)).length:=by omega
    generalize nP (w.reverse.take k)=es at Uq WI hC ht T9;simp only[go_sem,i88_l1,h0,h3,h4,Va,WH,w1,Ti,hC,ht,hr,T9,ac];refine .inr ⟨by rw[Uq];simp,g+1,?_,?_⟩
    ·rw[Uq];simp[WI]
    ·simp only[af,if_true];rw[Uq]
  ·have:k=w.length:=by omega
   subst this;have Va: ¬ (0:Int)<=((w.length:Int) - 1 - (w.length:Int)):=by omega
   have ht:w.reverse.take w.length=w.reverse:=aau (by simp);rw[ht] at ho;rcases ho with ⟨e,h3⟩|⟨TA,g,h3,hC⟩
   ·simp only[go_sem,i88_l1,i88_r2,h3,h4,Va];rw[aq,if_pos e]
   ·simp only[go_sem,i88_l1,i88_r2,h3,h4,Va];rw[aq,if_neg TA];exact lC hC (by simp)
abbrev fv(o:List (Nat × Nat)):List (List PV):=o.map fun p=>[PV.int .i64 (p.1:Int),PV.int .i64 (p.2:Int)]
theorem ED{o:List (Nat × Nat)}{k:Nat}{p:Nat × Nat}(h:o[k]? =some p):(fv o)[k]? =some [.int .i64 (p.1:Int), .int .i64 (p.2:Int)]:=by simp[h]
theorem Jy(w:List (Nat × Nat))(hw:w.length<=1000000):aH S 87 [.one (.p (.sl (fv w)))] (.one (aq 111 2 (fv w.reverse))):=by
 have w0:=fd (a:=w.length) (by omega);refine aG c87 ?_;simp only[go_sem,i87,w0];refine be (fun k env Tc=>env 0= .one (.p (.sl (fv w)))/\env 4=vi ((w.length:Int) - 1 - (k:Int))/\grown 5568320384 111 2 (fv (w.reverse.take k)) (env 3) Tc) 0 w.length (aah _) ?_ ?_
 ·simp only[go_sem];refine⟨by simp, .inl ⟨by simp,rfl⟩⟩
 ·rintro k env Tc hk ⟨h0,h4,ho⟩
  by_cases Ti:k<w.length
  ·have e1:((w.length:Int) - 1 - (k:Int))=((w.length - 1 - k:Nat):Int):=by omega
   rw[e1] at h4;have Va:(0:Int)<=((w.length - 1 - k:Nat):Int):=by omega
   obtain⟨v,hv⟩:=ao (show w.length - 1 - k<w.length by omega);have WH:=ED hv;have w1:IntKind.i64.wrap (((w.length - 1 - k:Nat):Int) - 1)=((w.length:Int) - 1 - ((k+1:Nat):Int)):=by
    rw[fd (by omega)];omega
   have hrv:w.reverse[k]? =some v:=by rw[List.getElem?_reverse Ti];exact hv
   have Uq:fv (w.reverse.take (k+1))=fv (w.reverse.take k)++[[.int .i64 (v.1:Int), .int .i64 (v.2:Int)]]:=by
    rw[aaX,hrv];simp
   have WI:(fv (w.reverse.take k)).length=k:=by simp;omega
   rcases ho with ⟨e,h3⟩|⟨TA,g,h3,hC⟩
   ·rw[e] at Uq WI;have hk0:k=0:=by simpa using WI.symm
    simp only[go_sem,i87_l1,h0,h3,h4,Va,WH,w1,Ti,ac];refine .inr ⟨by rw[Uq];simp,(Tc 5568320384).1+1,?_,?_⟩
    ·rw[Uq];rfl
    ·simp only[af,if_true];rw[Uq];rfl
   ·rw[WI] at h3;have ht:List.take k (fv (w.reverse.take k))=fv (w.reverse.take k):=aau (by omega);have hr:(k+1)*16<=140737488355328:=by omega
    have T9:k<=(fv (w.reverse.take k)).length:=by omega
    generalize fv (w.reverse.take k)=es at Uq WI hC ht T9;simp only[go_sem,i87_l1,h0,h3,h4,Va,WH,w1,Ti,hC,ht,hr,T9,ac];refine .inr ⟨by rw[Uq];simp,g+1,?_,?_⟩
    ·rw[Uq];simp[WI]
    ·simp only[af,if_true];rw[Uq]
  ·have:k=w.length:=by omega
   subst this;have Va: ¬ (0:Int)<=((w.length:Int) - 1 - (w.length:Int)):=by omega
   have ht:w.reverse.take w.length=w.reverse:=aau (by simp);rw[ht] at ho;rcases ho with ⟨e,h3⟩|⟨TA,g,h3,hC⟩
   ·simp only[go_sem,i87_l1,i87_r2,h3,h4,Va];rw[aq,if_pos e]
   ·simp only[go_sem,i87_l1,i87_r2,h3,h4,Va];rw[aq,if_neg TA];exact lC hC (by simp)
def fG(g r to:Nat):List (Nat × Nat):=(g,r)::(List.range (to - g)).map fun i=>(g+1+i,0)
def iu(g to:Nat):List Nat:=(List.range (to - g)).map fun i=>g+1+i
def dh(g r k:Nat):List (Nat × Nat):=(g,r)::(List.range k).map fun i=>(g+1+i,0)
def eT(g k:Nat):List Nat:=(List.range k).map fun i=>g+1+i
theorem Bs(g r k:Nat):fv (dh g r (k+1))=fv (dh g r k)++[[.int .i64 ((g+1+k:Nat):Int), .int .i64 0]]:=by simp[dh,abE]
theorem Bu(g k:Nat):nP (eT g (k+1))=nP (eT g k)++[[.int .i64 ((g+1+k:Nat):Int)]]:=by simp[eT,abE]
def Sm(g r k:Nat)(v:V)(Tc:aB):Prop:=(k=0/\ ∃ e,v= .one (.hsl 8192064192 e 2 0 1)/\Tc 8192064192=(e,some (.arr 111 2 (fv (dh g r 0)))))\/
 (k≠0/\ ∃ e,v= .one (.hsl 8192384256 e 2 0 (k+1))/\Tc 8192384256=(e,some (.arr 111 2 (fv (dh g r k)))))
theorem Qv(g r to:Nat)(hg:g<=1000)(hr:r<=1000000)(ht:to<=1000):aH S 128 [vi g,vi r,vi to] (.tup [.one (.own 111 2 (fv (fG g r to))), .one (aq 3 1 (nP (iu g to)))]):=by
 have w0:=am (n:=g) (by omega);refine aG c128 ?_;simp only[go_sem,i128,w0];refine be (fun k env Tc=>env 2=vi to/\env 10=vi ((g+1+k:Nat):Int)/\Sm g r k (env 8) Tc/\grown 8192448192 3 1 (nP (eT g k)) (env 9) Tc) 0 (to - g) (aah _) ?_ ?_
 ·simp only[go_sem];exact⟨.inl ⟨rfl,1,rfl,rfl⟩, .inl ⟨rfl,rfl⟩⟩
 ·rintro k env Tc hk ⟨h2,TJ,hs,ho⟩
  by_cases Ti:k<to - g
  ·have hle:((g+1+k:Nat):Int)<=(to:Int):=by omega
   have w1:=am (n:=g+1+k) (by omega);have hp:=Bs g r k;have hf:=Bu g k;rcases hs with ⟨rfl,e,h8,hA⟩|⟨hk0,e,h8,hA⟩
   ·rcases ho with ⟨_,h9⟩|⟨TA,_⟩
    ·have T9:(fv (dh g r 0)).length=1:=by simp[dh]
     have t1:List.take 1 (fv (dh g r 0))=fv (dh g r 0):=aau (by omega);have n1:1<=(fv (dh g r 0)).length:=by omega
     generalize fv (dh g r 0)=ps at hp hA t1 n1;simp only[go_sem,i128_l1,h2,h8,h9,TJ,hA,hle,w1,Ti,t1,n1,ac];refine⟨.inr ⟨by omega,(Tc 8192384256).1+1,rfl,?_⟩, .inr ⟨by simp[eT],(Tc 8192448192).1+1,?_,?_⟩⟩
     ·simp only[af,if_true,reduceIte,Nat.reduceEqDiff];rw[hp]
     ·rfl
     ·simp only[af,if_true];rfl
    ·exact absurd rfl TA
   ·rcases ho with ⟨h0,_⟩|⟨TA,e2,h9,hB⟩
    ·exact absurd h0 (by simp[eT];omega)
    ·have VG:(nP (eT g k)).length=k:=by simp[eT]
     have T9:(fv (dh g r k)).length=k+1:=by simp[dh]
     rw[VG] at h9;have t1:List.take (k+1) (fv (dh g r k))=fv (dh g r k):=aau (by omega);have t2:List.take k (nP (eT g k))=nP (eT g k):=aau (by omega);have r1:(k+1+1)*16<=140737488355328:=by omega
     have r2:(k+1)*8<=140737488355328:=by omega
     have n1:k+1<=(fv (dh g r k)).length:=by omega
     have n2:k<=(nP (eT g k)).length:=by omega
     generalize fv (dh g r k)=ps at hp hA t1 n1;generalize nP (eT g k)=fs at hf hB t2 n2 VG TA;simp only[go_sem,i128_l1,h2,h8,h9,TJ,hA,hB,hle,w1,Ti,t1,t2,r1,r2,n1,n2,ac];refine⟨rfl, .inr ⟨by omega,e+1,rfl,?_⟩, .inr ⟨by rw[hf];simp,e2+1,?_,?_⟩⟩
     ·simp only[af,if_true,reduceIte,Nat.reduceEqDiff];rw[hp]
     ·rw[hf];simp[VG]
     ·simp only[af,if_true];rw[hf]
  ·have:k=to - g:=by omega
   subst this;have hle: ¬ ((g+1+(to - g):Nat):Int)<=(to:Int):=by omega
   have e1:fG g r to=dh g r (to - g):=rfl;have e2:iu g to=eT g (to - g):=rfl;rw[e1,e2];generalize hK:to - g=K at hs ho;have T9:(fv (dh g r K)).length=K+1:=by simp[dh]
   have VG:(nP (eT g K)).length=K:=by simp[eT]
   rw[hK] at hle TJ;rcases hs with ⟨rfl,e,h8,hA⟩|⟨hk0,e,h8,hA⟩
   ·rcases ho with ⟨hz,h9⟩|⟨TA,_⟩
    ·have t1:List.take 1 (fv (dh g r 0))=fv (dh g r 0):=aau (by omega);have n1:1<=(fv (dh g r 0)).length:=by omega
     rw[aq,if_pos hz];generalize fv (dh g r 0)=ps at hA t1 n1;simp only[go_sem,i128_l1,i128_r2,h2,h8,h9,TJ,hle];simp only[go_sem,en,et,iF,cb,dg,eo,hA,t1,n1];rfl
    ·exact absurd rfl TA
   ·rcases ho with ⟨h0,_⟩|⟨TA,e3,h9,hB⟩
    ·exact absurd h0 (by simp[eT];omega)
    ·rw[VG] at h9;have t1:List.take (K+1) (fv (dh g r K))=fv (dh g r K):=aau (by omega);have t2:List.take K (nP (eT g K))=nP (eT g K):=aau (by omega);have n1:K+1<=(fv (dh g r K)).length:=by omega
     have n2:K<=(nP (eT g K)).length:=by omega
     rw[aq,if_neg TA];generalize fv (dh g r K)=ps at hA t1 n1;generalize nP (eT g K)=fs at hB t2 n2;simp only[go_sem,i128_l1,i128_r2,h2,h8,h9,TJ,hle];simp only[go_sem,en,et,iF,cb,dg,eo,hA,hB,t1,t2,n1,n2];rfl
abbrev qI:Nat:=111
def gN (ls:List ae)(i:Nat):Nat:=match ls[i]? with|some l=>l.gate.toNat|none=>0
def rN (ls:List ae)(i:Nat):Nat:=match ls[i]? with|some l=>l.Th.toNat|none=>0
theorem vU{i:Nat}{l:ae}(h:ls[i]? =some l):gN ls i=l.gate.toNat:=by simp[gN,h]
theorem Pv{i:Nat}{l:ae}(h:ls[i]? =some l):rN ls i=l.Th.toNat:=by simp[rN,h]
def gM(F:Nat)(ls:List ae)(j:Nat):List (Nat × Nat):=
 let u:=(ah ls).getD j 0
 let v:=(ah ls).getD ((j+1)%(ah ls).length) 0
 if j+1<(ah ls).length then fG (gN ls u) (rN ls u) (gN ls v) else fG (gN ls u) (rN ls u) F++fG 0 0 (gN ls v)
def jz(F:Nat)(ls:List ae)(j:Nat):List Nat:=
 let u:=(ah ls).getD j 0
 let v:=(ah ls).getD ((j+1)%(ah ls).length) 0
 if j+1<(ah ls).length then iu (gN ls u) (gN ls v) else iu (gN ls u) F++iu 0 (gN ls v)
theorem iw(a b:List (Nat × Nat)):fv (a++b)=fv a++fv b:=by simp
theorem jC(a b:List Nat):nP (a++b)=nP a++nP b:=by simp
theorem gZ(g r to:Nat):(fG g r to).length=to - g+1:=by simp[fG]
theorem lv(g to:Nat):(iu g to).length=to - g:=by simp[iu]
theorem Ec(g r to:Nat)(hg:g<=1000)(hr:r<=1000000)(ht:to<=1000):aH S 128 [vi g,vi r,vi to] (.tup [.one (aq qI 2 (fv (fG g r to))), .one (aq 3 1 (nP (iu g to)))]):=by
 have h:=Qv g r to hg hr ht;have e:aq qI 2 (fv (fG g r to))= .own qI 2 (fv (fG g r to)):=if_neg (by simp[fG]);rw[e];exact h
theorem rK(ok:eN F ls){j:Nat}(hj:j<(ah ls).length): ∃ u l,(ah ls)[j]? =some u/\(ah ls).getD j 0=u/\ls[u]? =some l/\l.bq=true/\jq F ls l:=by
 obtain⟨u,hu⟩:=ao hj;obtain⟨l,h1,h2⟩:=eE.1 (aaf hu);exact⟨u,l,hu,by rw[aap,hu];rfl,h1,h2,ok.ax.good l (aaf h1) h2⟩
theorem NM(ok:eN F ls)(hF:F<=1000){j:Nat}(hj:j<(ah ls).length):
  aH S 86 [aQ F ls, .one (.p (jl (ah ls))),vi j] (.tup [.one (aq qI 2 (fv (gM F ls j))), .one (aq 3 1 (nP (jz F ls j)))]):=by
 have hl:=ok.hl;have UG:(ah ls).length<=1000000:=aa5 (cn ls ls.length) hl;have hm:=aax (j+1) (show 0<(ah ls).length by omega);obtain⟨u,p,hu,du,hp,pp,gp⟩:=rK ok hj;obtain⟨v,q,hv,dv,hq,pq,gq⟩:=rK ok hm;unfold gM jz;simp only[du,dv,vU hp,vU hq,Pv hp];have T1:=cD hp;have hqp:=cD hq;have hnu:=cN hu;have WH:=cN hv;have e1:=dq (j+1) (ah ls).length;have w1:=am (n:=j) (by omega);have w2:=fU (a:=(ah ls).length) (by omega) (by omega);have VF: ¬ (((ah ls).length:Int)=0):=by omega
 have hg0:=gp.g0;have hg1:=gp.g1;have hk0:=gq.g0;have TH:=gq.g1;have hr0:=gp.r0;have T8:=gp.r1;have hcg:cg ls p.gate.toNat<=ls.length:=dS _ _;obtain⟨pg,h1⟩:=aa8 (show 0<=p.gate by omega);obtain⟨pr,h2⟩:=aa8 (show 0<=p.Th by omega);obtain⟨qg,h3⟩:=aa8 (show 0<=q.gate by omega);rw[h1] at hg1 T8 hcg hg0;rw[h2] at T8 hr0;rw[h3] at hk0 TH;rw[h1,h2,h3];simp only[abm] at T8 hcg ⊢;refine aG c86 ?_;have lo1:S.lone 5504192384=false:=by kernel_rfl
 have lo2:S.lone 5504256384=false:=by kernel_rfl
 have lo3:S.lone 5504320128=false:=by kernel_rfl
 by_cases Ti:j+1<(ah ls).length
 ·have Tk:(j:Int)<(((ah ls).length - 1:Nat):Int):=by omega
  have ps:=Ec pg pr qg (by omega) (by omega) (by omega);simp only[if_pos Ti];simp only[go_sem,i86,hnu,WH,T1,hqp,ae.ps,w1,e1,w2,Tk,VF,h1,h2,h3,s128];refine⟨au,?_⟩;refine GM ps lo1 fun c e Td hc he hb=> ?_
  simp only[go_sem];exact km (by decide) hc he
 ·have Tk: ¬ (j:Int)<(((ah ls).length - 1:Nat):Int):=by omega
  have ps:=Ec pg pr F (by omega) (by omega) (by omega);have ps':=Ec 0 0 qg (by omega) (by omega) (by omega);have e0:((0:Nat):Int)=0:=rfl;rw[e0] at ps';simp only[if_neg Ti];simp only[go_sem,i86,hnu,WH,T1,hqp,ae.ps,w1,e1,w2,Tk,VF,h1,h2,h3,s128];refine⟨au,?_⟩;refine GM ps lo2 fun c e Tq hc he Tw=> ?_
  simp only[go_sem,Tw];refine GM ps' lo3 fun c2 e2 Tp VH he2 Tv=> ?_
  simp only[go_sem];obtain⟨r1,VS,_⟩:=VH.elems;refine gk (hc.of_eq (Tv _ (by decide) (by decide))) VS VH.gI (by simp only[aak,gZ];omega) fun c3 Ub hc3 Uz=> ?_
  simp only[go_sem];obtain⟨r2,hx2,_⟩:=(he2.of_eq (Uz _ (by decide) (by decide))).elems;refine gk (he.of_eq ((Uz _ (by decide) (by decide)).trans (Tv _ (by decide) (by decide)))) hx2 he2.gI (by simp only[aak,lv];omega) fun c4 ada hc4 Un=> ?_
  simp only[go_sem];rw[iw,jC];exact km (by decide) (hc3.of_eq (Un _ (by decide) (by decide))) hc4
end
end Go.Abs
