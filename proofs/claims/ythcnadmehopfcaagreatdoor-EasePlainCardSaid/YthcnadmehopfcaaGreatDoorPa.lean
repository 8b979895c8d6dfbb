/-
  Arcs on one side of the axis do not cross.
-/
import Derived.Test.YthcnadmehopfcaaGreatDoorUa
set_option linter.all false
set_option maxHeartbeats 16000000
namespace Go.Abs
section
variable {F:Nat} {ls:List Let}
def mB(ls:List Let):Prop:=∀x∈ls,x.aG=true
theorem mB.at(hP:mB ls){v:Nat}(hv:v<ls.length):∃l,ls[v]?=some l/\l.aG=true:=by obtain⟨l,hl⟩:=aM hv;exact⟨l,hl,hP l (aU hl)⟩
def ps (ls:List Let)(v:Nat):Nat:=(aB ls).idxOf v
theorem Hd(g:cH F ls)(hP:mB ls){v:Nat}(hv:v<ls.length):ps ls v<(aB ls).length/\(aB ls).getD (ps ls v) 0=v:=by obtain⟨l,hl,hp⟩:=hP.at hv;exact Ig g.ok hl hp
theorem Kq(g:cH F ls)(hP:mB ls){v w:Nat}(hv:v<ls.length)(hw:w<ls.length)(h:ps ls v=ps ls w):v=w:=by rw[<- (Hd g hP hv).2,<- (Hd g hP hw).2,h]
theorem N7(g:cH F ls){k:Nat}(hk:k<(aB ls).length):(aB ls).getD k 0<ls.length/\ps ls ((aB ls).getD k 0)=k:=by obtain⟨l,hl,_⟩:=DH (ls:=ls) hk;refine⟨(aW.1 hl).1,?_⟩;unfold ps;rw[di,my hk];exact List.Nodup.idxOf_getElem (ZA g.ok) k hk
def sE (ls:List Let)(e:Nat):Bool:=dn ls (e+1)
theorem agV(hP:mB ls){v:Nat}(hv:v<ls.length):sE ls v= !dn ls v:=by obtain⟨l,hl,hp⟩:=hP.at hv;exact IG hl hp
theorem as0(g:cH F ls){v:Nat}(hv:v<ls.length):sE ls ((v+ls.length-1)%ls.length)=dn ls v:=by
 unfold sE;by_cases h:v=0
 .subst h;rw[show 0+ls.length-1=ls.length-1 by omega,dV aa,show ls.length-1+1=ls.length by omega,LS g];rfl
 rw[show v+ls.length-1=(v-1)+ls.length by omega,qA,dV aa,show v-1+1=v by omega]
theorem Zt{v:Nat}(hv:v<ls.length)(fw:Bool):eE ls.length v fw/2=if fw then (v+ls.length-1)%ls.length else v:=by
 unfold eE;cases fw
 .simp only[dx,if_false];omega
 simp only[if_true];omega
theorem Ic(g:cH F ls)(hP:mB ls){v:Nat}(hv:v<ls.length)(fw:Bool):sE ls (eE ls.length v fw/2)=(dn ls v==fw):=by
 rw[Zt hv];cases fw
 .simp only[dx,if_false];rw[agV hP hv];cases dn ls v<;>rfl
 simp only[if_true];rw[as0 g hv];cases dn ls v<;>rfl
theorem aq3(g:cH F ls){e:Nat}(he:e<ls.length):(e+1)%ls.length<ls.length/\dn ls ((e+1)%ls.length)=sE ls e:=by
 have hp:0<ls.length:=aa;refine⟨dO _ hp,?_⟩;unfold sE;by_cases h:e+1=ls.length
 .rw[h,rh,LS g];rfl
 rw[dV aa]
theorem Tw(g:cH F ls)(hP:mB ls){e v:Nat}(he:e<ls.length)(hv:v<ls.length){fw:Bool}(hs:(dn ls v==fw)=sE ls e):eE ls.length v fw/2=e↔v=e\/v=(e+1)%ls.length:=by
 rw[Zt hv];have h2:=aq3 g he;have hn:0<ls.length:=aa;constructor
 .intro h;cases fw
  .exact .inl h
  right;simp only[if_true] at h;rw[<- h];by_cases h0:v=0
  .subst h0;rw[show 0+ls.length-1=ls.length-1 by omega,dV (show ls.length-1<ls.length by omega),show ls.length-1+1=ls.length by omega,rh]
  rw[show v+ls.length-1=(v-1)+ls.length by omega,qA,dV (show v-1<ls.length by omega),show v-1+1=v by omega,dV hv]
 rintro (rfl|h)
 .cases fw
  .rfl
  exfalso;rw[agV hP hv] at hs;revert hs;cases dn ls v<;>decide
 cases fw
 .exfalso;rw[h,h2.2] at hs;revert hs;cases sE ls e<;>decide
 simp only[if_true];by_cases hl:e+1=ls.length
 .rw[hl,rh] at h;subst h;rw[show 0+ls.length-1=ls.length-1 by omega,dV aa];omega
 rw[dV aa] at h;subst h;rw[show e+1+ls.length-1=e+ls.length by omega,qA,dV he]
section
variable (ls) (e P Q:Nat)
def zC (x:Nat):Bool:=if x<2*ls.length then decide (x/2=e) else decide (P<=(x-2*ls.length)/2/\(x-2*ls.length)/2<Q)
def rK (k:Nat):Bool:=decide (P<=k/\k<Q)
def lK (k:Nat):Bool:=decide (P<k/\k<=Q)
def uK (k:Nat):Bool:=decide (k=P\/k=Q)
def cC (x:Nat):Bool:=
 if 2*ls.length<=x then
  (if x%2=1 then (if sE ls e=true then uK P Q ((x-2*ls.length)/2) else rK P Q ((x-2*ls.length)/2))
  else (if sE ls e=true then lK P Q (((x-2*ls.length)/2+1)%(aB ls).length) else uK P Q (((x-2*ls.length)/2+1)%(aB ls).length)))
 else if sE ls (x/2)=sE ls e then false else (if sE ls e=true then lK P Q (ps ls (sG ls x)) else rK P Q (ps ls (sG ls x)))
end
theorem avE{e P Q:Nat}(x:Nat):zC ls e P Q (rv x)=zC ls e P Q x:=by
 have h1:=agT x;have h2:rv x<2*ls.length↔x<2*ls.length:=by unfold rv;split<;>omega
 unfold zC;rw[h1];by_cases h:x<2*ls.length
 .rw[aF h,aF (h2.2 h)]
 rw[ay h,ay (fun k=>h (h2.1 k))];have:(rv x-2*ls.length)/2=(x-2*ls.length)/2:=by unfold rv;split<;>omega
 rw[this]
theorem kk{P Q k:Nat}(h:P<Q):uK P Q k=(lK P Q k !=rK P Q k):=by
 unfold uK lK rK;by_cases a:k=P
 .subst a;simp[h]
 by_cases b:k=Q
 .subst b;simp[h]
 have:(P<k/\k<=Q)↔(P<=k/\k<Q):=aa;simp[a,b,this]
theorem aj7(g:cH F ls)(hP:mB ls){e P Q:Nat}(he:e<ls.length)(F8:P<Q)(hQ:Q<(aB ls).length)(gE:∀v,v<ls.length->((v=e\/v=(e+1)%ls.length)↔(ps ls v=P\/ps ls v=Q))){x:Nat}(hx:x<nD ls):cC ls e P Q (rv (aS ls x))=(cC ls e P Q x !=zC ls e P Q x):=by
 have hN:=Br ls;have hm:0<(aB ls).length:=aa;rcases Lf x (2*ls.length) with c|c
 .have hv:(if x%2=0 then (x/2+1)%ls.length else x/2)<ls.length:=by
   have:=dO (x/2+1) (show 0<ls.length by omega);split<;>omega
  rw[Lp c];generalize (if x%2=0 then (x/2+1)%ls.length else x/2)=v at hv;generalize (x%2==0)=fw;obtain⟨l,hl,hp⟩:=hP.at hv;obtain⟨h1,h2⟩:=Hd g hP hv;have au:=r8 hv fw;have adu:=Ic g hP hv fw;have hz:zC ls e P Q (eE ls.length v fw)=(decide ((dn ls v==fw)=sE ls e)&&uK P Q (ps ls v)):=by
   unfold zC;rw[aF au];by_cases hs:(dn ls v==fw)=sE ls e
   .rw[xx hs,An];unfold uK;exact decide_eq_decide.2 ((Tw g hP he hv hs).trans (gE v hv))
   rw[u4 hs,HB];refine u4 fun h=>hs ?_;rw[<- adu,h]
  have hc:cC ls e P Q (eE ls.length v fw)=if (dn ls v==fw)=sE ls e then false else (if sE ls e=true then lK P Q (ps ls v) else rK P Q (ps ls v)):=by unfold cC;rw[ay aa,adu,Cy hv]
  rw[hc,hz,BM hl hp];have hu:=kk (k:=ps ls v) F8;cases d:(dn ls v==fw) with
  |true=>
   rw[aF rfl];show cC ls e P Q (rv (2*ls.length+2*ps ls v))=_;rw[show 2*ls.length+2*ps ls v=2*(ls.length+ps ls v) by omega,rW];have e1:cC ls e P Q (2*(ls.length+ps ls v)+1)=if sE ls e=true then uK P Q (ps ls v) else rK P Q (ps ls v):=by unfold cC;rw[aF aa,aF aa,show(2*(ls.length+ps ls v)+1-2*ls.length)/2=ps ls v by omega]
   rw[e1];cases sE ls e<;>simp
  |false=>
   rw[ay ae];show cC ls e P Q (rv (2*ls.length+2*((ps ls v+(aB ls).length-1)%(aB ls).length)+1))=_;rw[show 2*ls.length+2*((ps ls v+(aB ls).length-1)%(aB ls).length)+1=2*(ls.length+(ps ls v+(aB ls).length-1)%(aB ls).length)+1 by omega,xf];have Jt:((ps ls v+(aB ls).length-1)%(aB ls).length+1)%(aB ls).length=ps ls v:=by
    by_cases h0:ps ls v=0
    .rw[h0,show 0+(aB ls).length-1=(aB ls).length-1 by omega,dV (show(aB ls).length-1<(aB ls).length by omega),show(aB ls).length-1+1=(aB ls).length by omega,rh]
    rw[show ps ls v+(aB ls).length-1=(ps ls v-1)+(aB ls).length by omega,qA,dV (show ps ls v-1<(aB ls).length by omega),show ps ls v-1+1=ps ls v by omega,dV h1]
   have e1:cC ls e P Q (2*(ls.length+(ps ls v+(aB ls).length-1)%(aB ls).length))=if sE ls e=true then lK P Q (ps ls v) else uK P Q (ps ls v):=by unfold cC;rw[aF aa,ay aa,show(2*(ls.length+(ps ls v+(aB ls).length-1)%(aB ls).length)-2*ls.length)/2=(ps ls v+(aB ls).length-1)%(aB ls).length by omega,Jt]
   rw[e1];cases sE ls e<;>simp
 rcases wm x with d|d
 .have hk:=dO ((x-2*ls.length)/2+1) hm;obtain⟨hv,fO⟩:=N7 g hk;have hE:x=2*ls.length+2*((x-2*ls.length)/2):=aa;have hc:cC ls e P Q x=if sE ls e=true then lK P Q (((x-2*ls.length)/2+1)%(aB ls).length) else uK P Q (((x-2*ls.length)/2+1)%(aB ls).length):=by
   unfold cC;rw[aF c,ay aa]
  have hz:zC ls e P Q x=lK P Q (((x-2*ls.length)/2+1)%(aB ls).length):=by
   unfold zC lK;rw[ay aa];by_cases hw:(x-2*ls.length)/2+1=(aB ls).length
   .rw[hw,rh];exact decide_eq_decide.2 aa
   rw[dV aa];exact decide_eq_decide.2 aa
  have hn:=Dq (ls:=ls) ((x-2*ls.length)/2);rw[<- hE] at hn;rw[hc,hz];generalize ((x-2*ls.length)/2+1)%(aB ls).length=k at*;rw[hn,tX,Fj];have au:=r8 hv (dn ls ((aB ls).getD k 0));have e1:cC ls e P Q (eE ls.length ((aB ls).getD k 0) (dn ls ((aB ls).getD k 0)))=if true=sE ls e then false else (if sE ls e=true then lK P Q k else rK P Q k):=by unfold cC;rw[ay aa,Ic g hP hv,Cy hv,fO];simp
  rw[e1];have hu:=kk (k:=k) F8;cases sE ls e
  .simp[hu];cases lK P Q k<;>cases rK P Q k<;>rfl
  simp
 have hk:(x-2*ls.length)/2<(aB ls).length:=aa;obtain⟨hv,fO⟩:=N7 g hk;have hE:x=2*ls.length+2*((x-2*ls.length)/2)+1:=aa;have hc:cC ls e P Q x=if sE ls e=true then uK P Q ((x-2*ls.length)/2) else rK P Q ((x-2*ls.length)/2):=by unfold cC;rw[aF c,aF aa]
 have hz:zC ls e P Q x=rK P Q ((x-2*ls.length)/2):=by unfold zC rK;rw[ay aa]
 have hn:=Dp (ls:=ls) ((x-2*ls.length)/2);rw[<- hE] at hn;rw[hc,hz];generalize (x-2*ls.length)/2=k at*;rw[hn,tX];have au:=r8 hv (!dn ls ((aB ls).getD k 0));have e1:cC ls e P Q (eE ls.length ((aB ls).getD k 0) (!dn ls ((aB ls).getD k 0)))=if false=sE ls e then false else (if sE ls e=true then lK P Q k else rK P Q k):=by
  unfold cC;rw[ay aa,Ic g hP hv,Cy hv,fO];have:(dn ls ((aB ls).getD k 0)== !dn ls ((aB ls).getD k 0))=false:=by cases dn ls ((aB ls).getD k 0)<;>rfl
  rw[this]
 rw[e1];have hu:=kk (k:=k) F8;cases sE ls e
 .simp
 simp[hu]
end
section
variable {F:Nat} {ls:List Let}
def uR(ls:List Let)(s:Bool)(v:Nat):Nat:=if (dn ls v !=s)=true then (v+1)%ls.length else (v+ls.length-1)%ls.length
theorem agj(g:cH F ls)(hP:mB ls){v:Nat}(hv:v<ls.length)(s:Bool):uR ls s v<ls.length/\ ∃fw,dr ls.length v (dn ls v !=s)=eE ls.length (uR ls s v) fw/\(dn ls (uR ls s v)==fw)=s/\eE ls.length v (!(dn ls v !=s))/2=eE ls.length (uR ls s v) fw/2:=by
 have hn:0<ls.length:=aa;have hl:uR ls s v<ls.length:=by unfold uR;split<;>exact dO _ hn
 have key:∃fw,dr ls.length v (dn ls v !=s)=eE ls.length (uR ls s v) fw:=by
  unfold uR;cases h:(dn ls v !=s) with
  |true=>
   refine⟨true,?_⟩;rw[aF rfl];unfold dr eE;rw[aF rfl,aF rfl];congr 1;by_cases hw:v+1=ls.length
   .rw[hw,rh,show 0+ls.length-1=v by omega,dV hv]
   rw[dV (show v+1<ls.length by omega),show v+1+ls.length-1=v+ls.length by omega,qA,dV hv]
  |false=>refine⟨false,?_⟩;rw[ay ae];unfold dr eE;rw[ay ae,ay ae]
 obtain⟨fw,hk⟩:=key;have he:eE ls.length v (!(dn ls v !=s))/2=eE ls.length (uR ls s v) fw/2:=by rw[<- hk,<- tX,agT]
 refine⟨hl,fw,hk,?_,he⟩;rw[<- Ic g hP hl fw,<- he,Ic g hP hv];cases dn ls v<;>cases s<;>rfl
theorem nest(g:cH F ls)(hP:mB ls){e P Q:Nat}(he:e<ls.length)(F8:P<Q)(hQ:Q<(aB ls).length)(gE:∀v,v<ls.length->((v=e\/v=(e+1)%ls.length)↔(ps ls v=P\/ps ls v=Q))){v:Nat}(hv:v<ls.length)(h1:P<ps ls v)(h2:ps ls v<Q):P<ps ls (uR ls (sE ls e) v)/\ps ls (uR ls (sE ls e) v)<Q:=by
 have hN:=Br ls;have hm:0<(aB ls).length:=aa;have hp:=avE (ls:=ls) (e:=e) (P:=P) (Q:=Q);have hc:∀x,x<nD ls->cC ls e P Q (rv (aS ls x))=(cC ls e P Q x !=zC ls e P Q x):=fun x hx=>aj7 g hP he F8 hQ gE hx;obtain⟨hw,fw,fi,ym,hed⟩:=agj g hP hv (sE ls e);generalize uR ls (sE ls e) v=w at*;obtain⟨hvk,Nv⟩:=Hd g hP hv;obtain⟨hwk,hwa⟩:=Hd g hP hw;have nw:ps ls w≠P/\ps ls w≠Q:=by
  have key:¬(ps ls w=P\/ps ls w=Q):=fun h=>by have h3:=(gE w hw).2 h;have h4:=(Tw g hP he hw (fw:=fw) ym).2 h3;rw[<- hed] at h4;have h5:=(Tw g hP he hv (fw:= !(dn ls v !=sE ls e)) (by cases dn ls v<;>cases sE ls e<;>rfl)).1 h4;have:=(gE v hv).1 h5;omega
  exact⟨fun h=>key (.inl h),fun h=>key (.inr h)⟩
 apply Classical.byContradiction;intro dk;have nU:ps ls w<P\/Q<ps ls w:=aa;have zR:∀k,zC ls e P Q (2*(ls.length+k))=decide (P<=k/\k<Q):=fun k=>by unfold zC;rw[ay aa,show(2*(ls.length+k)-2*ls.length)/2=k by omega]
 have zL:∀k,zC ls e P Q (2*(ls.length+k)+1)=decide (P<=k/\k<Q):=fun k=>by unfold zC;rw[ay aa,show(2*(ls.length+k)+1-2*ls.length)/2=k by omega]
 have zO:∀(u:Nat) (b:Bool),u<ls.length->(dn ls u==b)≠sE ls e->zC ls e P Q (eE ls.length u b)=false:=fun u b hu hb=>by have au:=r8 hu b;unfold zC;rw[aF au];exact u4 fun h=>hb (by rw[<- Ic g hP hu b,h])
 have prev:∀k,1<=k->k<(aB ls).length->(k+(aB ls).length-1)%(aB ls).length=k-1:=fun k a b=>by rw[show k+(aB ls).length-1=(k-1)+(aB ls).length by omega,qA,dV aa]
 cases hs:sE ls e with
 |true=>
  rw[hs] at fi ym zO
  -- the other side of the Lq
  have chain:∀k,k<(aB ls).length->∀t,t<2->aZ (xG ls (zC ls e P Q)) (2*(2*(ls.length+k)+1)+t) (2*(2*(ls.length+0)+1)+t):=by
   intro k
   induction k with
   |zero=>intro _ t _;exact .refl _
   |succ k ih=>
    intro hk t ht;obtain⟨hu,hpu⟩:=N7 g hk;obtain⟨l,hl,bU⟩:=hP.at hu;have hx:2*(ls.length+(k+1))+1<nD ls:=aa;have n1:=Dp (ls:=ls) (k+1);rw[show 2*ls.length+2*(k+1)+1=2*(ls.length+(k+1))+1 by omega] at n1;have a1:=AN hp hx ht;rw[n1] at a1;have hy:dr ls.length ((aB ls).getD (k+1) 0) (dn ls ((aB ls).getD (k+1) 0))<nD ls:=by rw[<- n1];exact(maps g.ok).lt _ hx
    have a2:=DQ hp hy ht;rw[tX] at a2;have hz:zC ls e P Q (dr ls.length ((aB ls).getD (k+1) 0) (dn ls ((aB ls).getD (k+1) 0)))=false:=by rw[<- hp,tX];exact zO _ _ hu (by cases dn ls ((aB ls).getD (k+1) 0)<;>decide)
    rw[hz] at a2;have Nz:eE ls.length ((aB ls).getD (k+1) 0) (!dn ls ((aB ls).getD (k+1) 0))<nD ls:=by have:=r8 hu (!dn ls ((aB ls).getD (k+1) 0));omega
    have a3:=AN hp Nz ht;rw[BM hl bU,ay (by cases dn ls ((aB ls).getD (k+1) 0)<;>decide)] at a3;have Wq:(aB ls).idxOf ((aB ls).getD (k+1) 0)=k+1:=hpu;rw[Wq,prev (k+1) aa hk,show k+1-1=k by omega,show 2*ls.length+2*k+1=2*(ls.length+k)+1 by omega] at a3;exact a1.trans ((a2.trans a3).trans (ih aa t ht))
  have hx:2*(ls.length+(ps ls v-1))<nD ls:=aa;have n1:=Dq (ls:=ls) (ps ls v-1);rw[show 2*ls.length+2*(ps ls v-1)=2*(ls.length+(ps ls v-1)) by omega,show ps ls v-1+1=ps ls v by omega,dV hvk,Nv] at n1;have hg:(dn ls v !=true)= !dn ls v:=by cases dn ls v<;>rfl
  rw[hg] at fi;rw[fi] at n1;have hy:eE ls.length w fw<nD ls:=by have:=r8 hw fw;omega
  obtain⟨l,hl,bU⟩:=hP.at hw;have b1:=AN hp hx (s:=0) ae;rw[n1] at b1;have b2:=AN hp hy (s:=0) ae;rw[BM hl bU,aF (by rw[ym]),show 2*ls.length+2*(aB ls).idxOf w=2*(ls.length+ps ls w) by unfold ps;omega] at b2;have b3:=DQ hp hx (s:=0) ae;rw[zR,xx (show P<=ps ls v-1/\ps ls v-1<Q by omega),rW] at b3;have b4:=chain (ps ls v-1) aa 1 ae;have b5:=chain (ps ls w) hwk 1 ae;have b6:=DQ (ls:=ls) hp (x:=2*(ls.length+ps ls w)+1) aa (s:=1) ae;rw[zL,u4 (show ¬(P<=ps ls w/\ps ls w<Q) by omega),xf] at b6;exact aat g hp hc (x:=2*(ls.length+ps ls w)) aa ((b1.trans b2).symm.trans (b3.trans (b4.trans (b5.symm.trans b6))))
 |false=>
  rw[hs] at fi ym zO;have chain:∀k,k<(aB ls).length->∀t,t<2->aZ (xG ls (zC ls e P Q)) (2*(2*(ls.length+k))+t) (2*(2*(ls.length+0))+t):=by
   intro k
   induction k with
   |zero=>intro _ t _;exact .refl _
   |succ k ih=>
    intro hk t ht;obtain⟨hu,hpu⟩:=N7 g hk;obtain⟨l,hl,bU⟩:=hP.at hu;have hx:2*(ls.length+k)<nD ls:=aa;have n1:=Dq (ls:=ls) k;rw[show 2*ls.length+2*k=2*(ls.length+k) by omega,dV hk] at n1;have a1:=AN hp hx ht;rw[n1] at a1;have hy:dr ls.length ((aB ls).getD (k+1) 0) (!dn ls ((aB ls).getD (k+1) 0))<nD ls:=by rw[<- n1];exact(maps g.ok).lt _ hx
    have a2:=DQ hp hy ht;rw[tX,Fj] at a2;have hz:zC ls e P Q (dr ls.length ((aB ls).getD (k+1) 0) (!dn ls ((aB ls).getD (k+1) 0)))=false:=by rw[<- hp,tX,Fj];exact zO _ _ hu (by cases dn ls ((aB ls).getD (k+1) 0)<;>decide)
    rw[hz] at a2;have Nz:eE ls.length ((aB ls).getD (k+1) 0) (dn ls ((aB ls).getD (k+1) 0))<nD ls:=by have:=r8 hu (dn ls ((aB ls).getD (k+1) 0));omega
    have a3:=AN hp Nz ht;have Wq:(aB ls).idxOf ((aB ls).getD (k+1) 0)=k+1:=hpu;rw[BM hl bU,aF af,Wq,show 2*ls.length+2*(k+1)=2*(ls.length+(k+1)) by omega] at a3;exact(a1.trans (a2.trans a3)).symm.trans (ih aa t ht)
  have hx:2*(ls.length+ps ls v)+1<nD ls:=aa;have n1:=Dp (ls:=ls) (ps ls v);rw[show 2*ls.length+2*ps ls v+1=2*(ls.length+ps ls v)+1 by omega,Nv] at n1;have hg:(dn ls v !=false)=dn ls v:=by cases dn ls v<;>rfl
  rw[hg] at fi;rw[fi] at n1;have hy:eE ls.length w fw<nD ls:=by have:=r8 hw fw;omega
  obtain⟨l,hl,bU⟩:=hP.at hw;have b1:=AN hp hx (s:=0) ae;rw[n1] at b1;have b2:=AN hp hy (s:=0) ae;rw[BM hl bU,ay (by rw[ym];decide)] at b2;have l5:((aB ls).idxOf w+(aB ls).length-1)%(aB ls).length<(aB ls).length:=dO _ hm;have hzk:¬(P<=((aB ls).idxOf w+(aB ls).length-1)%(aB ls).length/\((aB ls).idxOf w+(aB ls).length-1)%(aB ls).length<Q):=by
   show ¬(P<=(ps ls w+(aB ls).length-1)%(aB ls).length/\(ps ls w+(aB ls).length-1)%(aB ls).length<Q);by_cases h0:ps ls w=0
   .rw[h0,show 0+(aB ls).length-1=(aB ls).length-1 by omega,dV aa];omega
   rw[prev _ aa hwk];omega
  generalize ((aB ls).idxOf w+(aB ls).length-1)%(aB ls).length=k' at*;rw[show 2*ls.length+2*k'+1=2*(ls.length+k')+1 by omega] at b2;have b3:=DQ hp hx (s:=0) ae;rw[zL,xx (show P<=ps ls v/\ps ls v<Q by omega),xf] at b3;have b4:=chain (ps ls v) hvk 1 ae;have b5:=chain k' l5 1 ae;have b6:=DQ (ls:=ls) hp (x:=2*(ls.length+k')) aa (s:=1) ae;rw[zR,u4 hzk,rW] at b6;exact aat g hp hc (x:=2*(ls.length+k')+1) aa ((b1.trans b2).symm.trans (b3.trans (b4.trans (b5.symm.trans b6))))
end
section
variable {F:Nat} {ls:List Let}
theorem XB(g:cH F ls){v:Nat}{l:Let}(hl:ls[v]?=some l)(hp:l.aG=true):ps ls v=dC ls l:=Ij g.ok.ax hl hp
theorem acF(g:cH F ls){x y z:Let}(hx:x∈ls)(hy:y∈ls)(hz:z∈ls)(px:x.aG=true)(py:y.aG=true)(pz:z.aG=true)(he:x.gate=y.gate)(h1:dC ls x<dC ls z)(h2:dC ls z<dC ls y):z.gate=x.gate:=by
 have gx:=g.ok.ax.eF x hx px;have gy:=g.ok.ax.eF y hy py;have gz:=g.ok.ax.eF z hz pz;obtain⟨a0,a1,a2,a3⟩:=gx;obtain⟨b0,b1,b2,b3⟩:=gy;obtain⟨c0,c1,c2,c3⟩:=gz;have s1:=rB ls z.gate.toNat;have s2:=rB ls y.gate.toNat;unfold dC at h1 h2;have hg:x.gate.toNat=y.gate.toNat:=by rw[he]
 rw[hg] at h1 a3;rcases Lg z.gate.toNat y.gate.toNat with h|h|h
 .have:=xJ (ls:=ls) (show z.gate.toNat+1<=y.gate.toNat by omega);omega
 .omega
 have:=xJ (ls:=ls) (show y.gate.toNat+1<=z.gate.toNat by omega);omega
theorem au8(g:cH F ls)(hP:mB ls):2<=ls.length:=by have h:=LS g;unfold dn at h;rw[jQ] at h;have hc:aw Let.aG ls=ls.length:=List.countP_eq_length.2 hP;rw[hc,dI] at h;have:=jf.2 g.ne;omega
theorem QO(g:cH F ls)(hP:mB ls){v:Nat}(hv:v<ls.length):(v+1)%ls.length<ls.length/\(v+1)%ls.length≠v:=by
 have h2:=au8 g hP;refine⟨dO _ aa,fun h=>?_⟩;by_cases hw:v+1=ls.length
 .rw[hw,rh] at h;omega
 rw[dV aa] at h;omega
theorem aaI(g:cH F ls)(hP:mB ls){e a b:Nat}(he:e<ls.length)(eH:(a=ps ls e/\b=ps ls ((e+1)%ls.length))\/(b=ps ls e/\a=ps ls ((e+1)%ls.length))):∀v,v<ls.length->((v=e\/v=(e+1)%ls.length)↔(ps ls v=a\/ps ls v=b)):=by
 intro v hv;have h2:=(QO g hP he).1;constructor
 .rintro (rfl|rfl)
  .rcases eH with ⟨h,_⟩|⟨h,_⟩<;>simp[h]
  rcases eH with ⟨_,h⟩|⟨_,h⟩<;>simp[h]
 intro h;rcases eH with ⟨h3,h4⟩|⟨h3,h4⟩<;>rcases h with h|h
 .exact .inl (Kq g hP hv he aa)
 .exact .inr (Kq g hP hv h2 aa)
 .exact .inr (Kq g hP hv h2 aa)
 exact .inl (Kq g hP hv he aa)
theorem inner(g:cH F ls)(hP:mB ls)(hN:∀v,v<ls.length->∀l m,ls[v]?=some l->ls[(v+1)%ls.length]?=some m->l.gate=m.gate->(l.aE=m.aE+1\/m.aE=l.aE+1)->False):∀(d v:Nat) (l m:Let),v<ls.length->ls[v]?=some l->ls[(v+1)%ls.length]?=some m->l.gate=m.gate->max (ps ls v) (ps ls ((v+1)%ls.length))-min (ps ls v) (ps ls ((v+1)%ls.length))<=d->False:=by
 intro d
 induction d with
 |zero=>intro v l m hv _ _ _ hd;obtain⟨h1,h2⟩:=QO g hP hv;exact h2 (Kq g hP h1 hv aa)
 |succ d ih=>
  intro v l m hv hl hm hg hd;obtain⟨h1,h2⟩:=QO g hP hv;have pl:=hP l (aU hl);have pm:=hP m (aU hm);have ql:=XB g hl pl;have qm:=XB g hm pm;have aI:ps ls v≠ps ls ((v+1)%ls.length):=fun h=>h2 (Kq g hP h1 hv h.symm);have kl:=(Hd g hP hv).1;have km:=(Hd g hP h1).1;by_cases h1d:max (ps ls v) (ps ls ((v+1)%ls.length))-min (ps ls v) (ps ls ((v+1)%ls.length))=1
  .refine hN v hv l m hl hm hg ?_;have gl:=g.ok.ax.eF l (aU hl) pl;have gm:=g.ok.ax.eF m (aU hm) pm;have a:=gl.r0;have b:=gm.r0;have nM:l.gate.toNat=m.gate.toNat:=by rw[hg]
   unfold dC at ql qm;rw[nM] at ql;omega
  · -- the pass behind the first one
   have key:∀P Q:Nat,P<Q->Q<(aB ls).length->P+1<Q->Q-P<=d+1->(∀u,u<ls.length->((u=v\/u=(v+1)%ls.length)↔(ps ls u=P\/ps ls u=Q)))->(∀z∈ls,z.aG=true->P<dC ls z->dC ls z<Q->z.gate=l.gate)->False:=by
    intro P Q F8 hQ h3 h4 gE hgate;obtain⟨hx,jl⟩:=N7 (ls:=ls) g (k:=P+1) aa;generalize (aB ls).getD (P+1) 0=x at*;obtain⟨n1,n2⟩:=nest g hP hv F8 hQ gE hx aa aa;obtain⟨hw,fw,fi,ym,hed⟩:=agj g hP hx (sE ls v);have zU:∀u,u<ls.length->∀z,ls[u]?=some z->P<ps ls u->ps ls u<Q->z.gate=l.gate:=fun u hu z hz a b=>by have pz:=hP z (aU hz);have qz:=XB g hz pz;exact hgate z (aU hz) pz aa aa
    obtain⟨lx,Js⟩:=aM hx;obtain⟨lw,hlw⟩:=aM hw;have gx:=zU x hx lx Js aa aa;have gw:=zU _ hw lw hlw n1 n2;have hpt:uR ls (sE ls v) x=(x+1)%ls.length\/uR ls (sE ls v) x=(x+ls.length-1)%ls.length:=by
     unfold uR;split
     .exact .inl rfl
     exact .inr rfl
    clear fi ym hed;rcases hpt with hpt|hpt<;>rw[hpt] at n1 n2 hw hlw
    .exact ih x lx lw hx Js hlw (by rw[gx,gw]) aa
    have hb:(((x+ls.length-1)%ls.length)+1)%ls.length=x:=by
     by_cases h0:x=0
     .subst h0;rw[show 0+ls.length-1=ls.length-1 by omega,dV (show ls.length-1<ls.length by omega),show ls.length-1+1=ls.length by omega,rh]
     rw[show x+ls.length-1=(x-1)+ls.length by omega,qA,dV (show x-1<ls.length by omega),show x-1+1=x by omega,dV hx]
    generalize (x+ls.length-1)%ls.length=y at*;exact ih y lw lx hw hlw (by rw[hb];exact Js) (by rw[gx,gw]) (by rw[hb];omega)
   have iH:=aU hl;have CN:=aU hm;rcases YH aI with au|au
   .exact key _ _ au km aa aa (aaI g hP hv (.inl ⟨rfl,rfl⟩)) fun z hz pz a b=>acF g iH CN hz pl pm pz hg aa aa
   exact key _ _ au kl aa aa (aaI g hP hv (.inr ⟨rfl,rfl⟩)) fun z hz pz a b=>(acF g CN iH hz pm pl pz hg.symm aa aa).trans hg.symm
end
end Go.Abs
