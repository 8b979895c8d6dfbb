/-
  Words around a circle, reduced.
-/
import Derived.Test.YtniibcmpbldbcaaGreatDoorMa
set_option linter.all false
set_option maxHeartbeats 16000000
namespace Go.Abs
abbrev DL:=Int×Bool
def inv(x:DL):DL:=(x.1,!x.2)
theorem inv_inv(x:DL):inv (inv x)=x:=by simp[inv]
theorem abE{x y:DL}(h:inv x=inv y):x=y:=by rw[<- inv_inv x,h,inv_inv]
def oD(s:List DL)(x:DL):List DL:=if s.getLast?=some (inv x) then s.dropLast else s++[x]
def vw(x:DL):List DL->List DL
 |[]=>[x]
 |y::s=>if y=inv x then s else x::y::s
def lH(w:List DL):List DL:=w.foldl oD []
theorem PX(w:List DL)(x:DL):lH (w++[x])=oD (lH w) x:=by simp[lH,Bq]
def mE:List DL->Prop
 |[]=>True
 |[_]=>True
 |x::y::s=>y≠inv x/\mE (y::s)
theorem mE.tail{x:DL}{s:List DL}(h:mE (x::s)):mE s:=by
 cases s with
 |nil=>trivial
 |cons y s=>exact h.2
theorem mE.head{x y:DL}{s:List DL}(h:mE (x::y::s)):y≠inv x:=h.1
theorem afF:∀ {s:List DL} {x y:DL} {t:List DL},mE (s++[x])->mE (y::t)->y≠inv x->mE (s++[x]++y::t):=by
 intro s
 induction s with
 |nil=>intro x y t _ h2 h3;exact⟨h3,h2⟩
 |cons a s ih=>
  intro x y t h1 h2 h3;cases s with
  |nil=>exact⟨h1.1,ih trivial h2 h3⟩
  |cons b s=>exact⟨h1.1,ih h1.2 h2 h3⟩
theorem afG:∀ {s t:List DL},mE (s++t)->mE s:=by
 intro s
 induction s with
 |nil=>intro t _;trivial
 |cons a s ih=>
  intro t h;cases s with
  |nil=>trivial
  |cons b s=>exact⟨h.1,ih h.2⟩
theorem afH:∀ {s t:List DL},mE (s++t)->mE t:=by
 intro s
 induction s with
 |nil=>intro t h;exact h
 |cons a s ih=>intro t h;exact ih (mE.tail h)
theorem WY{s t:List DL}{x y:DL}(h:mE (s++x::y::t)):y≠inv x:=(afH h).1
theorem Gx(s:List DL):s=[]\/ ∃t z,s=t++[z]:=by
 rcases List.eq_nil_or_concat s with h|⟨t,z,h⟩
 .exact .inl h
 exact .inr ⟨t,z,by rw[h,List.concat_eq_append]⟩
theorem ud(s:List DL)(x:DL):oD (s++[inv x]) x=s:=by simp[oD]
theorem uN{s:List DL}{x z:DL}(h:z≠inv x):oD (s++[z]) x=s++[z]++[x]:=by
 unfold oD;rw[if_neg]
 simpa using h
theorem aoh(x:DL):oD [] x=[x]:=rfl
theorem aoj{s:List DL}{x:DL}(h:mE s):mE (oD s x):=by
 rcases Gx s with rfl|⟨t,z,rfl⟩
 .trivial
 by_cases e:z=inv x
 .subst e;rw[ud];exact afG h
 rw[uN e];exact afF h trivial (fun hh=>e (by rw[hh,inv_inv]))
theorem VK(w:List DL):mE (lH w):=by
 suffices h:∀(w s:List DL),mE s->mE (w.foldl oD s) from h w [] trivial
 intro w
 induction w with
 |nil=>intro s h;exact h
 |cons x w ih=>intro s h;exact ih _ (aoj h)
theorem aoi{s:List DL}(h:mE s)(x:DL):oD (oD s x) (inv x)=s:=by
 rcases Gx s with rfl|⟨t,z,rfl⟩
 .rw[aoh];have:=ud [] (inv x);rw[inv_inv] at this;exact this
 by_cases e:z=inv x
 .subst e;rw[ud];rcases Gx t with rfl|⟨t2,z2,rfl⟩
  .rfl
  rw[uN];intro e2;rw[inv_inv] at e2;subst e2;rw[qG] at h;exact WY h rfl
 rw[uN e];have:=ud (t++[z]) (inv x);rw[inv_inv] at this;exact this
theorem aov(u v:List DL)(x:DL):lH (u++x::inv x::v)=lH (u++v):=by unfold lH;rw[Bq,Bq];show List.foldl oD (oD (oD (lH u) x) (inv x)) v=_;rw[aoi (VK u)];rfl
theorem EI(x:DL)(s:List DL):vw x (inv x::s)=s:=by simp[vw]
theorem EH{x y:DL}{s:List DL}(h:y≠inv x):vw x (y::s)=x::y::s:=by simp[vw,h]
theorem amB{s:List DL}(h:mE s)(x y:DL):oD (vw x s) y=vw x (oD s y):=by
 rcases Gx s with rfl|⟨t,z,rfl⟩
 .show oD [x] y=vw x [y];by_cases e:y=inv x
  .subst e;rw[EI];have:=ud [] (inv x);rw[inv_inv] at this;exact this
  rw[EH e];exact uN (s:=[]) (fun hh=>e (by rw[hh,inv_inv]))
 cases t with
 |nil=>
  show oD (vw x [z]) y=vw x (oD ([]++[z]) y);by_cases e1:z=inv x
  .subst e1;rw[EI];by_cases e2:inv x=inv y
   .have:=abE e2;subst this;rw[ud];rfl
   rw[uN e2];exact(EI x [y]).symm
  rw[EH e1];by_cases e2:z=inv y
  .subst e2;rw[ud];exact ud [x] y
  rw[uN e2];have:=uN (s:=[x]) e2;exact this.trans (EH (s:=[y]) e1).symm
 |cons a t=>
  by_cases e1:a=inv x
  .subst e1;rw[mq,EI];by_cases e2:z=inv y
   .subst e2;rw[ud,<- mq,ud,EI]
   rw[uN e2,<- mq,uN e2];exact(EI x _).symm
  rw[mq,EH e1];by_cases e2:z=inv y
  .subst e2;have h1:=ud (x::a::t) y;have h2:=ud (a::t) y;simp only[mq] at h1 h2;rw[h1,h2,EH e1]
  have h1:=uN (s:=x::a::t) e2;have h2:=uN (s:=a::t) e2;simp only[mq] at h1 h2;rw[h1,h2,EH e1]
theorem aow(x:DL)(t:List DL):lH (x::t)=vw x (lH t):=by
 suffices h:∀(n:Nat) (t:List DL),t.length=n->lH (x::t)=vw x (lH t) from h _ t rfl
 intro n
 induction n with
 |zero=>intro t ht;obtain rfl:=Hg.1 ht;rfl
 |succ n ih=>
  intro t ht;rcases Gx t with rfl|⟨t,z,rfl⟩
  .cases ht
  rw[PX,<- mq,PX,ih t (by simpa using ht),amB (VK t)]
def core:Nat->List DL->List DL
 |0,s=>s
 |n+1,s=>match s with
  |[]=>[]
  |x::t=>if t.getLast?=some (inv x) then core n t.dropLast else x::t
def ll(s:List DL):List DL:=core s.length s
theorem ahZ:∀(n m:Nat) (s:List DL),s.length<=n->s.length<=m->core n s=core m s:=by
 intro n
 induction n with
 |zero=>intro m s h _;obtain rfl:=Hg.1 (Nat.le_zero.1 h);cases m<;>rfl
 |succ n ih=>
  intro m s h1 h2;cases s with
  |nil=>cases m<;>rfl
  |cons x t=>
   cases m with
   |zero=>simp at h2
   |succ m=>simp only[cE] at h1 h2;show(if t.getLast?=some (inv x) then core n t.dropLast else x::t)=(if t.getLast?=some (inv x) then core m t.dropLast else x::t);rw[ih m t.dropLast (by rw[vL];omega) (by rw[vL];omega)]
theorem Rk(x:DL)(t:List DL):ll (x::t++[inv x])=ll t:=by unfold ll;show(if (t++[inv x]).getLast?=some (inv x) then core (t++[inv x]).length (t++[inv x]).dropLast else _)=_;rw[if_pos af,List.dropLast_concat];exact ahZ _ _ _ af (aZ _)
theorem FH{x z:DL}{t:List DL}(h:z≠inv x):ll (x::t++[z])=x::t++[z]:=by unfold ll;show(if (t++[z]).getLast?=some (inv x) then core (t++[z]).length (t++[z]).dropLast else _)=_;rw[if_neg (by simpa using h)];rfl
def dR(a b:List DL):Prop:= ∃u v,a=u++v/\b=v++u
theorem dR.refl(a:List DL):dR a a:=⟨a,[],af,af⟩
theorem dR.symm{a b:List DL}(h:dR a b):dR b a:=by obtain⟨u,v,h1,h2⟩:=h;exact⟨v,u,h2,h1⟩
theorem dR.trans{a b c:List DL}(h:dR a b)(k:dR b c):dR a c:=by
 obtain⟨u,v,rfl,rfl⟩:=h;obtain⟨p,q,h1,rfl⟩:=k;rcases List.append_eq_append_iff.1 h1 with ⟨e,rfl,rfl⟩|⟨e,rfl,rfl⟩
 .exact⟨e,q++v,af,af⟩
 exact⟨u++p,e,af,af⟩
theorem ahY{s:List DL}(h:mE s)(aK:s≠[])(x:DL):dR (ll (vw x s)) (ll (oD s x)):=by
 rcases Gx s with rfl|⟨t,z,rfl⟩
 .exact(aK rfl).elim
 cases t with
 |nil=>
  by_cases e:z=inv x
  .subst e;rw[ud];show dR (ll (vw x [inv x])) _;rw[EI];exact dR.refl _
  rw[uN e];show dR (ll (vw x [z])) (ll (z::[]++[x]));rw[EH e];show dR (ll (x::[]++[z])) _;rw[FH e,FH (fun hh=>e (by rw[hh,inv_inv]))];exact⟨[x],[z],rfl,rfl⟩
 |cons a t=>
  by_cases e1:a=inv x
  .subst e1;rw[mq,EI];by_cases e2:z=inv x
   .subst e2;rw[<- mq,ud];rcases Gx t with rfl|⟨t2,y,h2⟩
    .exact dR.refl _
    have hy:y≠inv (inv x):=fun hh=>by subst hh;rw[inv_inv] at h2;rw[h2,show inv x::(t2++[x])++[inv x]=(inv x::t2)++x::inv x::[] by simp] at h;exact WY h rfl
    have k2:ll (inv x::t)=inv x::t:=by rw[h2];exact FH (t:=t2) hy
    rw[k2];cases t with
    |nil=>simp at h2
    |cons b t=>
     have hb:inv x≠inv b:=fun hh=>by have:=abE hh;subst this;exact mE.head h (inv_inv x).symm
     rw[FH hb];exact⟨b::t,[inv x],rfl,rfl⟩
   rw[<- mq,uN e2];have:=Rk (inv x) (t++[z]);rw[inv_inv] at this;rw[show inv x::t++[z]++[x]=inv x::(t++[z])++[x] by simp,this];exact dR.refl _
  rw[mq,EH e1];by_cases e2:z=inv x
  .subst e2;rw[<- mq,ud,show x::(a::t++[inv x])=x::(a::t)++[inv x] by simp,Rk];exact dR.refl _
  rw[<- mq,uN e2,show x::(a::t++[z])=x::(a::t)++[z] by simp,FH e2];have e3:x≠inv a:=fun hh=>e1 (by rw[hh,inv_inv]);rw[show a::t++[z]++[x]=a::(t++[z])++[x] by simp,FH e3];exact⟨[x],a::t++[z],af,af⟩
theorem aox(w:List DL):(lH w).length%2=w.length%2:=by
 suffices h:∀(w s:List DL),(w.foldl oD s).length%2=(s.length+w.length)%2 by
  have:=h w []
  simpa [lH] using this
 intro w
 induction w with
 |nil=>intro s;simp
 |cons x w ih=>
  intro s;rw[uW,ih,cE];unfold oD;split
  .rename_i h;have:s≠[]:=fun e=>by subst e;cases h
   have:=iR.2 this;rw[vL];omega
  rw[fc,List.length_singleton];omega
theorem ah5{x:DL}{t:List DL}(he:(x::t).length%2=0):dR (ll (lH (x::t))) (ll (lH (t++[x]))):=by rw[aow,PX];refine ahY (VK t) (fun e=>?_) x;have h:=aox t;rw[e] at h;simp only[cE,dQ] at he h;omega
theorem ah4:∀(u v:List DL),(u++v).length%2=0->dR (ll (lH (u++v))) (ll (lH (v++u))):=by
 intro u
 induction u with
 |nil=>intro v _;rw[gZ,oN];exact dR.refl _
 |cons x u ih=>intro v he;have h1:=ah5 (x:=x) (t:=u++v) he;have h2:=ih (v++[x]) (by simp only[fc,cE,dQ] at he ⊢;omega);rw[<- qG] at h2;rw[mq,show v++x::u=v++[x]++u by simp];exact h1.trans h2
theorem dR.cr{a b:List DL}(h:dR a b)(he:a.length%2=0):dR (ll (lH a)) (ll (lH b)):=by obtain⟨u,v,rfl,rfl⟩:=h;exact ah4 u v he
def cV:Bool->List Int->List DL
 |_,[]=>[]
 |p,g::t=>(g,p)::cV (!p) t
def iQ(p:Bool)(k:Nat):Bool:=if k%2=0 then p else !p
theorem Vt(p:Bool)(k:Nat):iQ p (k+1)= !iQ p k:=by
 unfold iQ;by_cases h:k%2=0
 .rw[if_pos h,if_neg aa]
 rw[if_neg h,if_pos aa];simp
theorem adu(p:Bool)(k:Nat):iQ (!p) k= !iQ p k:=by unfold iQ;split<;>rfl
theorem PK{p:Bool}{k:Nat}(h:k%2=0):iQ p k=p:=if_pos h
theorem vT:∀(p:Bool) (w:List Int),(cV p w).length=w.length:=by
 intro p w
 induction w generalizing p with
 |nil=>rfl
 |cons g t ih=>simp[cV,ih]
theorem QT:∀(p:Bool) (u v:List Int),cV p (u++v)=cV p u++cV (iQ p u.length) v:=by
 intro p u
 induction u generalizing p with
 |nil=>intro v;rfl
 |cons g u ih=>intro v;show(g,p)::cV (!p) (u++v)=(g,p)::(cV (!p) u++cV (iQ p (u.length+1)) v);rw[ih,Vt,adu]
theorem Fw:∀(p:Bool) (w:List Int),(cV p w).map (·.1)=w:=by
 intro p w
 induction w generalizing p with
 |nil=>rfl
 |cons g t ih=>simp[cV,ih]
theorem Xg{p:Bool}{u v:List Int}(h:cV p u=cV p v):u=v:=by rw[<- Fw p u,h,Fw]
theorem aga{p:Bool}{w:List Int}{k:Nat}{g:Int}(h:w[k]?=some g):(cV p w)[k]?=some (g,iQ p k):=by
 induction w generalizing p k with
 |nil=>simp at h
 |cons a t ih=>
  cases k with
  |zero=>simp at h;subst h;rfl
  |succ k=>simp only[List.getElem?_cons_succ] at h;show(cV (!p) t)[k]?=_;rw[ih h,Vt,adu]
theorem NS{p:Bool}{w:List Int}{a b:List DL}(h:cV p w=a++b):∃u v,w=u++v/\a=cV p u/\b=cV (iQ p u.length) v:=by
 have hw:w=w.take a.length++w.drop a.length:=(lX _ _).symm;have hl:w.length=a.length+b.length:=by rw[<- vT p w,h,fc]
 refine⟨w.take a.length,w.drop a.length,hw,?_⟩;rw[hw,QT] at h;exact List.append_inj h.symm (by rw[vT,fJ];omega)
def uc(s:List DL)(x:DL):List DL:=if (s.getLast?.map fun y=>y.1)=some x.1 then s.dropLast else s++[x]
def ru(l:List DL):List DL:=l.foldl uc []
theorem aeH(l:List DL)(x:DL):ru (l++[x])=uc (ru l) x:=by simp[ru,Bq]
theorem aaG{p:Bool}{g:List Int}{z:Int}:(cV p (g++[z])).getLast?=some (z,iQ p g.length):=by rw[QT];exact List.getLast?_concat ..
theorem UX(s:List Int):s=[]\/ ∃t z,s=t++[z]:=by
 rcases List.eq_nil_or_concat s with h|⟨t,z,h⟩
 .exact .inl h
 exact .inr ⟨t,z,by rw[h,List.concat_eq_append]⟩
theorem xE(p:Bool)(u:List Int)(g:Int):cV p (u++[g])=cV p u++[(g,iQ p u.length)]:=QT p u [g]
theorem aeO:∀(n:Nat) (w:List Int),w.length=n->∃gs,ru (cV true w)=cV true gs/\lH (cV true w)=cV true gs/\gs.length%2=w.length%2:=by
 intro n
 induction n with
 |zero=>intro w h;obtain rfl:=Hg.1 h;exact⟨[],rfl,rfl,rfl⟩
 |succ n ih=>
  intro w h;rcases UX w with rfl|⟨w,g,rfl⟩
  .cases h
  have hw:w.length=n:=by simpa using h
  obtain⟨gs,h1,h2,h3⟩:=ih w hw;rw[xE,aeH,PX,h1,h2];have hp:iQ true w.length=iQ true gs.length:=by unfold iQ;rw[h3]
  rcases UX gs with rfl|⟨gs,z,rfl⟩
  .refine⟨[g],?_,?_,by simp at h3 ⊢;omega⟩
   .rw[hp];rfl
   rw[hp];rfl
  have hl:(cV true (gs++[z])).getLast?=some (z,iQ true gs.length):=aaG;have hd:iQ true w.length= !iQ true gs.length:=by rw[hp,fc,List.length_singleton,Vt]
  by_cases e:z=g
  .subst e;refine⟨gs,?_,?_,by simp at h3 ⊢;omega⟩
   .unfold uc;rw[hl,kX,if_pos rfl,xE,List.dropLast_concat]
   rw[xE];have:((z,iQ true gs.length):DL)=inv (z,iQ true w.length):=by simp[inv,hd]
   rw[this,ud]
  refine⟨gs++[z]++[g],?_,?_,by simp at h3 ⊢;omega⟩
  .unfold uc;rw[hl,if_neg (by simpa using e),xE true (gs++[z]),hp]
  rw[xE true gs,uN (fun hh=>e (congrArg Prod.fst hh)),xE true (gs++[z]),xE true gs,hp]
def nU:Nat->List DL->List DL
 |0,s=>s
 |n+1,s=>match s with
  |[]=>[]
  |x::t=>if (t.getLast?.map fun y=>y.1)=some x.1 then nU n t.dropLast else x::t
theorem aq9:∀(n:Nat) (p:Bool) (gs:List Int),gs.length%2=0->gs.length<=n->∃q hs,nU n (cV p gs)=cV q hs/\ll (cV p gs)=cV q hs/\hs.length%2=0:=by
 intro n
 induction n with
 |zero=>intro p gs _ h;obtain rfl:=Hg.1 (Nat.le_zero.1 h);exact⟨p,[],rfl,rfl,rfl⟩
 |succ n ih=>
  intro p gs he hn;cases gs with
  |nil=>exact⟨p,[],rfl,rfl,rfl⟩
  |cons g t=>
   rcases UX t with rfl|⟨t,z,rfl⟩
   .simp at he
   have hl:(cV (!p) (t++[z])).getLast?=some (z,iQ (!p) t.length):=aaG;have ht:t.length%2=0:=by simp at he;omega
   rw[PK ht] at hl;by_cases e:z=g
   .subst e;obtain⟨q,hs,h1,h2,h3⟩:=ih (!p) t ht (by simp at hn;omega);refine⟨q,hs,?_,?_,h3⟩
    .show(if ((cV (!p) (t++[z])).getLast?.map fun y=>y.1)=some z then nU n (cV (!p) (t++[z])).dropLast else _)=_;rw[hl,kX,if_pos rfl,xE,List.dropLast_concat];exact h1
    show ll ((z,p)::cV (!p) (t++[z]))=_;rw[xE,PK ht,<- mq,show((z,!p):DL)=inv (z,p) from rfl,Rk];exact h2
   refine⟨p,g::(t++[z]),?_,?_,by simp;omega⟩
   .show(if ((cV (!p) (t++[z])).getLast?.map fun y=>y.1)=some g then nU n (cV (!p) (t++[z])).dropLast else _)=_;rw[hl,if_neg (by simpa using e)];rfl
   show ll ((g,p)::cV (!p) (t++[z]))=(g,p)::cV (!p) (t++[z]);rw[xE,PK ht,<- mq,FH (fun hh=>e (congrArg Prod.fst hh))]
def GM:List DL->List DL
 |[]=>[]
 |x::t=>if x.2 then x::t else t++[x]
def rn(w:List Int):List DL:=GM (nU (ru (cV true w)).length (ru (cV true w)))
theorem adG{w:List Int}(he:w.length%2=0):∃r,rn w=cV true r/\r.length%2=0/\dR (ll (lH (cV true w))) (cV true r):=by
 obtain⟨gs,h1,h2,h3⟩:=aeO _ w rfl;obtain⟨q,hs,h4,h5,h6⟩:=aq9 (cV true gs).length true gs aa (by rw[vT];exact aZ _);unfold rn;rw[h1,h4,h2,h5];cases hs with
 |nil=>exact⟨[],rfl,rfl,dR.refl _⟩
 |cons g t=>
  cases q with
  |true=>exact⟨g::t,rfl,h6,dR.refl _⟩
  |false=>
   have ht:t.length%2=1:=by simp at h6;omega
   have e:cV true (t++[g])=cV true t++[(g,false)]:=by rw[xE];unfold iQ;rw[if_neg aa];rfl
   refine⟨t++[g],?_,by simp;omega,?_⟩
   .rw[e];rfl
   rw[e];exact⟨[(g,false)],cV true t,rfl,rfl⟩
theorem aoP{r s:List Int}(h:dR (cV true r) (cV true s)):∃u v,r=u++v/\s=v++u/\u.length%2=0:=by
 obtain⟨a,b,h1,h2⟩:=h;obtain⟨u,v,rfl,rfl,rfl⟩:=NS h1;by_cases hu:u.length%2=0
 .rw[PK hu] at h2;have h3:cV true s=cV true v++cV true u:=h2;obtain⟨v2,u2,rfl,h4,h5⟩:=NS h3;have e1:=Xg h4;subst e1;have:u=u2:=by
   rw[<- Fw true u,h5,Fw]
  subst this;exact⟨u,v,rfl,rfl,hu⟩
 cases v with
 |nil=>
  have h3:cV true s=cV true u:=by rw[h2];rfl
  have:=Xg h3;subst this;exact⟨[],s,af,af,rfl⟩
 |cons g v=>
  exfalso;have:iQ true u.length=false:=by unfold iQ;rw[if_neg hu];rfl
  rw[this] at h2;cases s with
  |nil=>cases h2
  |cons a s=>have:=(Hd h2).1;have:=congrArg Prod.snd this;cases this
def ib:List Int->List Int->Int
 |x::a,y::b=>if x=y then ib a b else x-y
 |_,_=>0
def AS(a b:List Int):Prop:=ib a b<=0
theorem Ra:∀a:List Int,ib a a=0:=by
 intro a
 induction a with
 |nil=>rfl
 |cons x a ih=>simp[ib,ih]
theorem ahH:∀ {a b:List Int},a.length=b.length->ib a b=0->a=b:=by
 intro a
 induction a with
 |nil=>intro b h _;cases b with|nil=>rfl|cons _ _=>cases h
 |cons x a ih=>
  intro b h h0;cases b with
  |nil=>cases h
  |cons y b=>
   unfold ib at h0;split at h0
   .rename_i e;subst e;rw[ih (by simpa using h) h0]
   omega
theorem Q9:∀(a b:List Int),a.length=b.length->(ib a b<0↔0<ib b a):=by
 intro a
 induction a with
 |nil=>intro b h;cases b with|nil=>simp[ib]|cons _ _=>cases h
 |cons x a ih=>
  intro b h;cases b with
  |nil=>cases h
  |cons y b=>
   unfold ib;by_cases e:x=y
   .rw[if_pos e,if_pos e.symm];exact ih b (by simpa using h)
   rw[if_neg e,if_neg (fun h=>e h.symm)];omega
theorem al8:∀ {a b c:List Int},a.length=b.length->b.length=c.length->AS a b->AS b c->AS a c:=by
 intro a
 induction a with
 |nil=>intro b c _ _ _ _;simp[AS,ib]
 |cons x a ih=>
  intro b c h1 h2;cases b with
  |nil=>cases h1
  |cons y b=>
   cases c with
   |nil=>cases h2
   |cons z c=>
    unfold AS ib;intro k1 k2;by_cases e1:x=y
    .subst e1;rw[if_pos rfl] at k1;by_cases e2:x=z
     .rw[if_pos e2] at k2 ⊢;exact ih (by simpa using h1) (by simpa using h2) k1 k2
     rw[if_neg e2] at k2 ⊢;exact k2
    rw[if_neg e1] at k1;by_cases e2:y=z
    .subst e2;rw[if_neg e1];exact k1
    rw[if_neg e2] at k2;rw[if_neg aa];omega
theorem al7{a b:List Int}(h:a.length=b.length)(h1:AS a b)(h2:AS b a):a=b:=by refine ahH h ?_;have h3:=Q9 a b h;unfold AS at h1 h2;omega
def gi(w:List Int)(k:Nat):List Int:=w.drop k++w.take k
theorem yC(w:List Int)(k:Nat):(gi w k).length=w.length:=by simp[gi];omega
def jY(w:List Int):Nat->Nat
 |0=>0
 |i+1=>if 2*(i+1)<w.length/\ib (gi w (2*(i+1))) (gi w (jY w i))<0 then 2*(i+1) else jY w i
def ji(w:List Int):List Int:=gi w (jY w (w.length/2))
theorem ab4(w:List Int)(i:Nat):jY w i%2=0/\(jY w i=0\/jY w i<w.length):=by
 induction i with
 |zero=>exact⟨rfl,.inl rfl⟩
 |succ i ih=>
  unfold jY;split
  .rename_i h;exact⟨aa,.inr h.1⟩
  exact ih
theorem ams(w:List Int):∀(n j:Nat),j<=n->2*j<w.length\/j=0->AS (gi w (jY w n)) (gi w (2*j)):=by
 intro n
 induction n with
 |zero=>intro j h _;obtain rfl:=Nat.le_zero.1 h;show ib _ _<=0;rw[show jY w 0=2*0 from rfl,Ra];exact Int.le_refl _
 |succ n ih=>
  intro j h hj;have hl:∀a b,(gi w a).length=(gi w b).length:=fun a b=>by rw[yC,yC]
  unfold jY;by_cases hc:2*(n+1)<w.length/\ib (gi w (2*(n+1))) (gi w (jY w n))<0
  .rw[if_pos hc];by_cases e:j=n+1
   .subst e;show ib _ _<=0;rw[Ra];exact Int.le_refl _
   exact al8 (hl _ _) (hl _ _) (show ib _ _<=0 by omega) (ih j aa hj)
  rw[if_neg hc];by_cases e:j=n+1
  .subst e;have h1:¬ib (gi w (2*(n+1))) (gi w (jY w n))<0:=fun h2=>hc ⟨aa,h2⟩;have:=Q9 (gi w (jY w n)) (gi w (2*(n+1))) (hl _ _);have h3:=Q9 (gi w (2*(n+1))) (gi w (jY w n)) (hl _ _);show ib _ _<=0;omega
  exact ih j aa hj
theorem aoK{w:List Int}{a b:Nat}(ha:a<=w.length)(hb:b<=w.length):gi (gi w a) b=gi w ((a+b)%w.length)\/w=[]:=by
 by_cases hw:w=[]
 .exact .inr hw
 left;have ff:=iR.2 hw;apply xx;intro k;have at_:∀(v:List Int) (c:Nat),c<=v.length->∀k,(gi v c)[k]?=if k<v.length then v[(c+k)%v.length]? else none:=by
  intro v c hc k;unfold gi;by_cases h1:k<v.length-c
  .rw[oO (by rw[nW];exact h1),ur,if_pos aa,fK aa]
  rw[nV (by rw[nW];omega),nW,jm];by_cases h2:k<v.length
  .rw[if_pos aa,if_pos h2];congr 1;rw[show c+k=v.length+(k-(v.length-c)) by omega,Nat.add_mod_left,fK aa]
  rw[if_neg h2,if_neg aa]
 have hm:=dw (a+b) ff;rw[at_ (gi w a) b (by rw[yC];exact hb),yC,at_ w ((a+b)%w.length) aa];by_cases hk:k<w.length
 .rw[if_pos hk,if_pos hk,at_ w a ha,if_pos (dw _ ff)];congr 1;rw[Nat.add_mod_mod,<- Bt,Nat.mod_add_mod]
 rw[if_neg hk,if_neg hk]
theorem abX{u v:List Int}(he:(u++v).length%2=0)(hu:u.length%2=0):ji (v++u)=ji (u++v):=by
 suffices h:∀(u v:List Int),(u++v).length%2=0->u.length%2=0->AS (ji (u++v)) (ji (v++u)) by have h1:=h u v he hu;have h2:=h v u (by rw[fc] at he ⊢;omega) (by rw[fc] at he;omega);refine al7 ?_ h2 h1;unfold ji;rw[yC,yC,fc,fc,Nat.add_comm]
 intro u v he hu;by_cases hw:u++v=[]
 .obtain⟨rfl,rfl⟩:=List.append_eq_nil_iff.1 hw;show ib _ _<=0;rw[Ra];exact Int.le_refl _
 have ff:=iR.2 hw;have e:v++u=gi (u++v) u.length:=by simp[gi]
 have Ey:u.length<=(u++v).length:=af;obtain⟨h1,h2⟩:=ab4 (v++u) ((v++u).length/2);generalize hf:jY (v++u) ((v++u).length/2)=f at h1 h2;have hl:(v++u).length=(u++v).length:=by rw[fc,fc,Nat.add_comm]
 have qu:f<=(u++v).length:=aa;have e2:ji (v++u)=gi (u++v) ((u.length+f)%(u++v).length):=by unfold ji;rw[hf,e];exact(aoK Ey qu).resolve_right hw
 rw[e2];have hm:=dw (u.length+f) ff;generalize hj:(u.length+f)%(u++v).length=j at hm;have hje:j%2=0:=by rw[<- hj];have:(u.length+f)%(u++v).length%2=(u.length+f)%2:=Nat.mod_mod_of_dvd _ aa;rw[this];omega
 obtain⟨i,rfl⟩:∃i,j=2*i:=⟨j/2,aa⟩;exact ams (u++v) ((u++v).length/2) i aa (.inl hm)
def xh(w:List Int):List Int:=
 let r:=(rn w).map (·.1)
 if r=[] then [] else if ib (ji r.reverse) (ji r)<0 then ji r.reverse else ji r
theorem acU{v w:List Int}(hv:v.length%2=0)(hw:w.length%2=0)(h:dR (ll (lH (cV true v))) (ll (lH (cV true w)))):xh v=xh w:=by
 obtain⟨r,h1,h2,h3⟩:=adG hv;obtain⟨s,k1,k2,k3⟩:=adG hw;obtain⟨a,b,rfl,rfl,ha⟩:=aoP ((h3.symm.trans h).trans k3);unfold xh;rw[h1,k1,Fw,Fw];have e1:=abX h2 ha;have e2:ji (b++a).reverse=ji (a++b).reverse:=by rw[List.reverse_append,List.reverse_append];exact(abX (u:=b.reverse) (v:=a.reverse) (by simp at h2 ⊢;omega) (by simp at h2 ⊢;omega)).symm▸rfl
 simp only[e1,e2];have:(b++a=[])↔(a++b=[]):=by rw[List.append_eq_nil_iff,List.append_eq_nil_iff];exact And.comm
 by_cases hn:a++b=[]
 .rw[if_pos hn,if_pos (this.2 hn)]
 rw[if_neg hn,if_neg (fun h=>hn (this.1 h))]
end Go.Abs
