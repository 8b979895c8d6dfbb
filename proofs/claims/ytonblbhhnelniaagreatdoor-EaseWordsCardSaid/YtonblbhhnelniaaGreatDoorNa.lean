/-
  Words around a circle, reduced.
-/
import Derived.Test.YtonblbhhnelniaaGreatDoorMa
set_option linter.all false
set_option maxHeartbeats 16000000
namespace Go.Abs
abbrev DL:=Int×Bool
def inv(x:DL):DL:=(x.1,!x.2)
theorem inv_inv(x:DL):inv (inv x)=x:=by simp[inv]
theorem VV{x y:DL}(h:inv x=inv y):x=y:=by rw[<- inv_inv x,h,inv_inv]
def nz(s:List DL)(x:DL):List DL:=if s.getLast?=some (inv x) then s.dropLast else s++[x]
def uE(x:DL):List DL->List DL
 |[]=>[x]
 |y::s=>if y=inv x then s else x::y::s
def jW(w:List DL):List DL:=w.foldl nz []
theorem Nx(w:List DL)(x:DL):jW (w++[x])=nz (jW w) x:=by simp[jW,BA]
def mq:List DL->Prop
 |[]=>True
 |[_]=>True
 |x::y::s=>y≠inv x/\mq (y::s)
theorem mq.tail{x:DL}{s:List DL}(h:mq (x::s)):mq s:=by
 cases s with
 |nil=>trivial
 |cons y s=>exact h.2
theorem mq.head{x y:DL}{s:List DL}(h:mq (x::y::s)):y≠inv x:=h.1
theorem ahG:∀ {s:List DL} {x y:DL} {t:List DL},mq (s++[x])->mq (y::t)->y≠inv x->mq (s++[x]++y::t):=by
 intro s
 induction s with
 |nil=>intro x y t _ h2 h3;exact⟨h3,h2⟩
 |cons a s ih=>
  intro x y t h1 h2 h3;cases s with
  |nil=>exact⟨h1.1,ih trivial h2 h3⟩
  |cons b s=>exact⟨h1.1,ih h1.2 h2 h3⟩
theorem ahH:∀ {s t:List DL},mq (s++t)->mq s:=by
 intro s
 induction s with
 |nil=>intro t _;trivial
 |cons a s ih=>
  intro t h;cases s with
  |nil=>trivial
  |cons b s=>exact⟨h.1,ih h.2⟩
theorem ahI:∀ {s t:List DL},mq (s++t)->mq t:=by
 intro s
 induction s with
 |nil=>intro t h;exact h
 |cons a s ih=>intro t h;exact ih (mq.tail h)
theorem XV{s t:List DL}{x y:DL}(h:mq (s++x::y::t)):y≠inv x:=(ahI h).1
theorem EK(s:List DL):s=[]\/ ∃t z,s=t++[z]:=by
 rcases List.eq_nil_or_concat s with h|⟨t,z,h⟩
 .exact .inl h
 exact .inr ⟨t,z,by rw[h,List.concat_eq_append]⟩
theorem sT(s:List DL)(x:DL):nz (s++[inv x]) x=s:=by simp[nz]
theorem ua{s:List DL}{x z:DL}(h:z≠inv x):nz (s++[z]) x=s++[z]++[x]:=by
 unfold nz;rw[if_neg]
 simpa using h
theorem aq8(x:DL):nz [] x=[x]:=rfl
theorem ara{s:List DL}{x:DL}(h:mq s):mq (nz s x):=by
 rcases EK s with rfl|⟨t,z,rfl⟩
 .trivial
 by_cases e:z=inv x
 .subst e;rw[sT];exact ahH h
 rw[ua e];exact ahG h trivial (fun hh=>e (by rw[hh,inv_inv]))
theorem WM(w:List DL):mq (jW w):=by
 suffices h:∀(w s:List DL),mq s->mq (w.foldl nz s) from h w [] trivial
 intro w
 induction w with
 |nil=>intro s h;exact h
 |cons x w ih=>intro s h;exact ih _ (ara h)
theorem aq9{s:List DL}(h:mq s)(x:DL):nz (nz s x) (inv x)=s:=by
 rcases EK s with rfl|⟨t,z,rfl⟩
 .rw[aq8];have:=sT [] (inv x);rw[inv_inv] at this;exact this
 by_cases e:z=inv x
 .subst e;rw[sT];rcases EK t with rfl|⟨t2,z2,rfl⟩
  .rfl
  rw[ua];intro e2;rw[inv_inv] at e2;subst e2;rw[tc] at h;exact XV h rfl
 rw[ua e];have:=sT (t++[z]) (inv x);rw[inv_inv] at this;exact this
theorem ars(u v:List DL)(x:DL):jW (u++x::inv x::v)=jW (u++v):=by unfold jW;rw[BA,BA];show List.foldl nz (nz (nz (jW u) x) (inv x)) v=_;rw[aq9 (WM u)];rfl
theorem CU(x:DL)(s:List DL):uE x (inv x::s)=s:=by simp[uE]
theorem CT{x y:DL}{s:List DL}(h:y≠inv x):uE x (y::s)=x::y::s:=by simp[uE,h]
theorem aoZ{s:List DL}(h:mq s)(x y:DL):nz (uE x s) y=uE x (nz s y):=by
 rcases EK s with rfl|⟨t,z,rfl⟩
 .show nz [x] y=uE x [y];by_cases e:y=inv x
  .subst e;rw[CU];have:=sT [] (inv x);rw[inv_inv] at this;exact this
  rw[CT e];exact ua (s:=[]) (fun hh=>e (by rw[hh,inv_inv]))
 cases t with
 |nil=>
  show nz (uE x [z]) y=uE x (nz ([]++[z]) y);by_cases e1:z=inv x
  .subst e1;rw[CU];by_cases e2:inv x=inv y
   .have:=VV e2;subst this;rw[sT];rfl
   rw[ua e2];exact(CU x [y]).symm
  rw[CT e1];by_cases e2:z=inv y
  .subst e2;rw[sT];exact sT [x] y
  rw[ua e2];have:=ua (s:=[x]) e2;exact this.trans (CT (s:=[y]) e1).symm
 |cons a t=>
  by_cases e1:a=inv x
  .subst e1;rw[jg,CU];by_cases e2:z=inv y
   .subst e2;rw[sT,<- jg,sT,CU]
   rw[ua e2,<- jg,ua e2];exact(CU x _).symm
  rw[jg,CT e1];by_cases e2:z=inv y
  .subst e2;have h1:=sT (x::a::t) y;have h2:=sT (a::t) y;simp only[jg] at h1 h2;rw[h1,h2,CT e1]
  have h1:=ua (s:=x::a::t) e2;have h2:=ua (s:=a::t) e2;simp only[jg] at h1 h2;rw[h1,h2,CT e1]
theorem afK(x:DL)(t:List DL):jW (x::t)=uE x (jW t):=by
 suffices h:∀(n:Nat) (t:List DL),t.length=n->jW (x::t)=uE x (jW t) from h _ t rfl
 intro n
 induction n with
 |zero=>intro t ht;obtain rfl:=uL.1 ht;rfl
 |succ n ih=>
  intro t ht;rcases EK t with rfl|⟨t,z,rfl⟩
  .cases ht
  rw[Nx,<- jg,Nx,ih t (by simpa using ht),aoZ (WM t)]
def core:Nat->List DL->List DL
 |0,s=>s
 |n+1,s=>match s with
  |[]=>[]
  |x::t=>if t.getLast?=some (inv x) then core n t.dropLast else x::t
def jT(s:List DL):List DL:=core s.length s
theorem ajW:∀(n m:Nat) (s:List DL),s.length<=n->s.length<=m->core n s=core m s:=by
 intro n
 induction n with
 |zero=>intro m s h _;obtain rfl:=uL.1 (Nat.le_zero.1 h);cases m<;>rfl
 |succ n ih=>
  intro m s h1 h2;cases s with
  |nil=>cases m<;>rfl
  |cons x t=>
   cases m with
   |zero=>simp at h2
   |succ m=>simp only[cq] at h1 h2;show(if t.getLast?=some (inv x) then core n t.dropLast else x::t)=(if t.getLast?=some (inv x) then core m t.dropLast else x::t);rw[ih m t.dropLast (by rw[vG];omega) (by rw[vG];omega)]
theorem KS(x:DL)(t:List DL):jT (x::t++[inv x])=jT t:=by unfold jT;show(if (t++[inv x]).getLast?=some (inv x) then core (t++[inv x]).length (t++[inv x]).dropLast else _)=_;rw[if_pos af,List.dropLast_concat];exact ajW _ _ _ af (aX _)
theorem Cb{x z:DL}{t:List DL}(h:z≠inv x):jT (x::t++[z])=x::t++[z]:=by unfold jT;show(if (t++[z]).getLast?=some (inv x) then core (t++[z]).length (t++[z]).dropLast else _)=_;rw[if_neg (by simpa using h)];rfl
def dY(a b:List DL):Prop:= ∃u v,a=u++v/\b=v++u
theorem dY.refl(a:List DL):dY a a:=⟨a,[],af,af⟩
theorem dY.symm{a b:List DL}(h:dY a b):dY b a:=by obtain⟨u,v,h1,h2⟩:=h;exact⟨v,u,h2,h1⟩
theorem dY.trans{a b c:List DL}(h:dY a b)(k:dY b c):dY a c:=by
 obtain⟨u,v,rfl,rfl⟩:=h;obtain⟨p,q,h1,rfl⟩:=k;rcases List.append_eq_append_iff.1 h1 with ⟨e,rfl,rfl⟩|⟨e,rfl,rfl⟩
 .exact⟨e,q++v,af,af⟩
 exact⟨u++p,e,af,af⟩
theorem ajV{s:List DL}(h:mq s)(aF:s≠[])(x:DL):dY (jT (uE x s)) (jT (nz s x)):=by
 rcases EK s with rfl|⟨t,z,rfl⟩
 .exact(aF rfl).elim
 cases t with
 |nil=>
  by_cases e:z=inv x
  .subst e;rw[sT];show dY (jT (uE x [inv x])) _;rw[CU];exact dY.refl _
  rw[ua e];show dY (jT (uE x [z])) (jT (z::[]++[x]));rw[CT e];show dY (jT (x::[]++[z])) _;rw[Cb e,Cb (fun hh=>e (by rw[hh,inv_inv]))];exact⟨[x],[z],rfl,rfl⟩
 |cons a t=>
  by_cases e1:a=inv x
  .subst e1;rw[jg,CU];by_cases e2:z=inv x
   .subst e2;rw[<- jg,sT];rcases EK t with rfl|⟨t2,y,h2⟩
    .exact dY.refl _
    have hy:y≠inv (inv x):=fun hh=>by subst hh;rw[inv_inv] at h2;rw[h2,show inv x::(t2++[x])++[inv x]=(inv x::t2)++x::inv x::[] by simp] at h;exact XV h rfl
    have k2:jT (inv x::t)=inv x::t:=by rw[h2];exact Cb (t:=t2) hy
    rw[k2];cases t with
    |nil=>simp at h2
    |cons b t=>
     have hb:inv x≠inv b:=fun hh=>by have:=VV hh;subst this;exact mq.head h (inv_inv x).symm
     rw[Cb hb];exact⟨b::t,[inv x],rfl,rfl⟩
   rw[<- jg,ua e2];have:=KS (inv x) (t++[z]);rw[inv_inv] at this;rw[show inv x::t++[z]++[x]=inv x::(t++[z])++[x] by simp,this];exact dY.refl _
  rw[jg,CT e1];by_cases e2:z=inv x
  .subst e2;rw[<- jg,sT,show x::(a::t++[inv x])=x::(a::t)++[inv x] by simp,KS];exact dY.refl _
  rw[<- jg,ua e2,show x::(a::t++[z])=x::(a::t)++[z] by simp,Cb e2];have e3:x≠inv a:=fun hh=>e1 (by rw[hh,inv_inv]);rw[show a::t++[z]++[x]=a::(t++[z])++[x] by simp,Cb e3];exact⟨[x],a::t++[z],af,af⟩
theorem art(w:List DL):(jW w).length%2=w.length%2:=by
 suffices h:∀(w s:List DL),(w.foldl nz s).length%2=(s.length+w.length)%2 by
  have:=h w []
  simpa [jW] using this
 intro w
 induction w with
 |nil=>intro s;simp
 |cons x w ih=>
  intro s;rw[zZ,ih,cq];unfold nz;split
  .rename_i h;have:s≠[]:=fun e=>by subst e;cases h
   have:=gV.2 this;rw[vG];omega
  rw[dX,List.length_singleton];omega
theorem aj2{x:DL}{t:List DL}(he:(x::t).length%2=0):dY (jT (jW (x::t))) (jT (jW (t++[x]))):=by rw[afK,Nx];refine ajV (WM t) (fun e=>?_) x;have h:=art t;rw[e] at h;simp only[cq,dN] at he h;omega
theorem aj1:∀(u v:List DL),(u++v).length%2=0->dY (jT (jW (u++v))) (jT (jW (v++u))):=by
 intro u
 induction u with
 |nil=>intro v _;rw[fp,jR];exact dY.refl _
 |cons x u ih=>intro v he;have h1:=aj2 (x:=x) (t:=u++v) he;have h2:=ih (v++[x]) (by simp only[dX,cq,dN] at he ⊢;omega);rw[<- tc] at h2;rw[jg,show v++x::u=v++[x]++u by simp];exact h1.trans h2
theorem dY.cr{a b:List DL}(h:dY a b)(he:a.length%2=0):dY (jT (jW a)) (jT (jW b)):=by obtain⟨u,v,rfl,rfl⟩:=h;exact aj1 u v he
def cJ:Bool->List Int->List DL
 |_,[]=>[]
 |p,g::t=>(g,p)::cJ (!p) t
def fN(p:Bool)(k:Nat):Bool:=if k%2=0 then p else !p
theorem Qv(p:Bool)(k:Nat):fN p (k+1)= !fN p k:=by
 unfold fN;by_cases h:k%2=0
 .rw[if_pos h,if_neg aa]
 rw[if_neg h,if_pos aa];simp
theorem WE(p:Bool)(k:Nat):fN (!p) k= !fN p k:=by unfold fN;split<;>rfl
theorem JB{p:Bool}{k:Nat}(h:k%2=0):fN p k=p:=if_pos h
theorem yM:∀(p:Bool) (w:List Int),(cJ p w).length=w.length:=by
 intro p w
 induction w generalizing p with
 |nil=>rfl
 |cons g t ih=>simp[cJ,ih]
theorem Kx:∀(p:Bool) (u v:List Int),cJ p (u++v)=cJ p u++cJ (fN p u.length) v:=by
 intro p u
 induction u generalizing p with
 |nil=>intro v;rfl
 |cons g u ih=>intro v;show(g,p)::cJ (!p) (u++v)=(g,p)::(cJ (!p) u++cJ (fN p (u.length+1)) v);rw[ih,Qv,WE]
theorem BI:∀(p:Bool) (w:List Int),(cJ p w).map (·.1)=w:=by
 intro p w
 induction w generalizing p with
 |nil=>rfl
 |cons g t ih=>simp[cJ,ih]
theorem Ya{p:Bool}{u v:List Int}(h:cJ p u=cJ p v):u=v:=by rw[<- BI p u,h,BI]
theorem aib{p:Bool}{w:List Int}{k:Nat}{g:Int}(h:w[k]?=some g):(cJ p w)[k]?=some (g,fN p k):=by
 induction w generalizing p k with
 |nil=>simp at h
 |cons a t ih=>
  cases k with
  |zero=>simp at h;subst h;rfl
  |succ k=>simp only[List.getElem?_cons_succ] at h;show(cJ (!p) t)[k]?=_;rw[ih h,Qv,WE]
theorem N9{p:Bool}{w:List Int}{a b:List DL}(h:cJ p w=a++b):∃u v,w=u++v/\a=cJ p u/\b=cJ (fN p u.length) v:=by
 have hw:w=w.take a.length++w.drop a.length:=(kG _ _).symm;have hl:w.length=a.length+b.length:=by rw[<- yM p w,h,dX]
 refine⟨w.take a.length,w.drop a.length,hw,?_⟩;rw[hw,Kx] at h;exact List.append_inj h.symm (by rw[yM,eQ];omega)
def tZ(s:List DL)(x:DL):List DL:=if (s.getLast?.map fun y=>y.1)=some x.1 then s.dropLast else s++[x]
def rB(l:List DL):List DL:=l.foldl tZ []
theorem agJ(l:List DL)(x:DL):rB (l++[x])=tZ (rB l) x:=by simp[rB,BA]
theorem abR{p:Bool}{g:List Int}{z:Int}:(cJ p (g++[z])).getLast?=some (z,fN p g.length):=by rw[Kx];exact List.getLast?_concat ..
theorem V7(s:List Int):s=[]\/ ∃t z,s=t++[z]:=by
 rcases List.eq_nil_or_concat s with h|⟨t,z,h⟩
 .exact .inl h
 exact .inr ⟨t,z,by rw[h,List.concat_eq_append]⟩
theorem vP(p:Bool)(u:List Int)(g:Int):cJ p (u++[g])=cJ p u++[(g,fN p u.length)]:=Kx p u [g]
theorem agP:∀(n:Nat) (w:List Int),w.length=n->∃gs,rB (cJ true w)=cJ true gs/\jW (cJ true w)=cJ true gs/\gs.length%2=w.length%2:=by
 intro n
 induction n with
 |zero=>intro w h;obtain rfl:=uL.1 h;exact⟨[],rfl,rfl,rfl⟩
 |succ n ih=>
  intro w h;rcases V7 w with rfl|⟨w,g,rfl⟩
  .cases h
  have hw:w.length=n:=by simpa using h
  obtain⟨gs,h1,h2,h3⟩:=ih w hw;rw[vP,agJ,Nx,h1,h2];have hp:fN true w.length=fN true gs.length:=by unfold fN;rw[h3]
  rcases V7 gs with rfl|⟨gs,z,rfl⟩
  .refine⟨[g],?_,?_,by simp at h3 ⊢;omega⟩
   .rw[hp];rfl
   rw[hp];rfl
  have hl:(cJ true (gs++[z])).getLast?=some (z,fN true gs.length):=abR;have hd:fN true w.length= !fN true gs.length:=by rw[hp,dX,List.length_singleton,Qv]
  by_cases e:z=g
  .subst e;refine⟨gs,?_,?_,by simp at h3 ⊢;omega⟩
   .unfold tZ;rw[hl,jZ,if_pos rfl,vP,List.dropLast_concat]
   rw[vP];have:((z,fN true gs.length):DL)=inv (z,fN true w.length):=by simp[inv,hd]
   rw[this,sT]
  refine⟨gs++[z]++[g],?_,?_,by simp at h3 ⊢;omega⟩
  .unfold tZ;rw[hl,if_neg (by simpa using e),vP true (gs++[z]),hp]
  rw[vP true gs,ua (fun hh=>e (congrArg Prod.fst hh)),vP true (gs++[z]),vP true gs,hp]
def nC:Nat->List DL->List DL
 |0,s=>s
 |n+1,s=>match s with
  |[]=>[]
  |x::t=>if (t.getLast?.map fun y=>y.1)=some x.1 then nC n t.dropLast else x::t
theorem at7:∀(n:Nat) (p:Bool) (gs:List Int),gs.length%2=0->gs.length<=n->∃q hs,nC n (cJ p gs)=cJ q hs/\jT (cJ p gs)=cJ q hs/\hs.length%2=0:=by
 intro n
 induction n with
 |zero=>intro p gs _ h;obtain rfl:=uL.1 (Nat.le_zero.1 h);exact⟨p,[],rfl,rfl,rfl⟩
 |succ n ih=>
  intro p gs he hn;cases gs with
  |nil=>exact⟨p,[],rfl,rfl,rfl⟩
  |cons g t=>
   rcases V7 t with rfl|⟨t,z,rfl⟩
   .simp at he
   have hl:(cJ (!p) (t++[z])).getLast?=some (z,fN (!p) t.length):=abR;have ht:t.length%2=0:=by simp at he;omega
   rw[JB ht] at hl;by_cases e:z=g
   .subst e;obtain⟨q,hs,h1,h2,h3⟩:=ih (!p) t ht (by simp at hn;omega);refine⟨q,hs,?_,?_,h3⟩
    .show(if ((cJ (!p) (t++[z])).getLast?.map fun y=>y.1)=some z then nC n (cJ (!p) (t++[z])).dropLast else _)=_;rw[hl,jZ,if_pos rfl,vP,List.dropLast_concat];exact h1
    show jT ((z,p)::cJ (!p) (t++[z]))=_;rw[vP,JB ht,<- jg,show((z,!p):DL)=inv (z,p) from rfl,KS];exact h2
   refine⟨p,g::(t++[z]),?_,?_,by simp;omega⟩
   .show(if ((cJ (!p) (t++[z])).getLast?.map fun y=>y.1)=some g then nC n (cJ (!p) (t++[z])).dropLast else _)=_;rw[hl,if_neg (by simpa using e)];rfl
   show jT ((g,p)::cJ (!p) (t++[z]))=(g,p)::cJ (!p) (t++[z]);rw[vP,JB ht,<- jg,Cb (fun hh=>e (congrArg Prod.fst hh))]
def GS:List DL->List DL
 |[]=>[]
 |x::t=>if x.2 then x::t else t++[x]
def rm(w:List Int):List DL:=GS (nC (rB (cJ true w)).length (rB (cJ true w)))
theorem QD{w:List Int}(he:w.length%2=0):∃r,rm w=cJ true r/\r.length%2=0/\dY (jT (jW (cJ true w))) (cJ true r):=by
 obtain⟨gs,h1,h2,h3⟩:=agP _ w rfl;obtain⟨q,hs,h4,h5,h6⟩:=at7 (cJ true gs).length true gs aa (by rw[yM];exact aX _);unfold rm;rw[h1,h4,h2,h5];cases hs with
 |nil=>exact⟨[],rfl,rfl,dY.refl _⟩
 |cons g t=>
  cases q with
  |true=>exact⟨g::t,rfl,h6,dY.refl _⟩
  |false=>
   have ht:t.length%2=1:=by simp at h6;omega
   have e:cJ true (t++[g])=cJ true t++[(g,false)]:=by rw[vP];unfold fN;rw[if_neg aa];rfl
   refine⟨t++[g],?_,by simp;omega,?_⟩
   .rw[e];rfl
   rw[e];exact⟨[(g,false)],cJ true t,rfl,rfl⟩
theorem afW{r s:List Int}(h:dY (cJ true r) (cJ true s)):∃u v,r=u++v/\s=v++u/\u.length%2=0:=by
 obtain⟨a,b,h1,h2⟩:=h;obtain⟨u,v,rfl,rfl,rfl⟩:=N9 h1;by_cases hu:u.length%2=0
 .rw[JB hu] at h2;have h3:cJ true s=cJ true v++cJ true u:=h2;obtain⟨v2,u2,rfl,h4,h5⟩:=N9 h3;have e1:=Ya h4;subst e1;have:u=u2:=by
   rw[<- BI true u,h5,BI]
  subst this;exact⟨u,v,rfl,rfl,hu⟩
 cases v with
 |nil=>
  have h3:cJ true s=cJ true u:=by rw[h2];rfl
  have:=Ya h3;subst this;exact⟨[],s,af,af,rfl⟩
 |cons g v=>
  exfalso;have:fN true u.length=false:=by unfold fN;rw[if_neg hu];rfl
  rw[this] at h2;cases s with
  |nil=>cases h2
  |cons a s=>have:=(He h2).1;have:=congrArg Prod.snd this;cases this
def gE:List Int->List Int->Int
 |x::a,y::b=>if x=y then gE a b else x-y
 |_,_=>0
def A2(a b:List Int):Prop:=gE a b<=0
theorem Su:∀a:List Int,gE a a=0:=by
 intro a
 induction a with
 |nil=>rfl
 |cons x a ih=>simp[gE,ih]
theorem YZ:∀ {a b:List Int},a.length=b.length->gE a b=0->a=b:=by
 intro a
 induction a with
 |nil=>intro b h _;cases b with|nil=>rfl|cons _ _=>cases h
 |cons x a ih=>
  intro b h h0;cases b with
  |nil=>cases h
  |cons y b=>
   unfold gE at h0;split at h0
   .rename_i e;subst e;rw[ih (by simpa using h) h0]
   omega
theorem HM:∀(a b:List Int),a.length=b.length->(gE a b<0↔0<gE b a):=by
 intro a
 induction a with
 |nil=>intro b h;cases b with|nil=>simp[gE]|cons _ _=>cases h
 |cons x a ih=>
  intro b h;cases b with
  |nil=>cases h
  |cons y b=>
   unfold gE;by_cases e:x=y
   .rw[if_pos e,if_pos e.symm];exact ih b (by simpa using h)
   rw[if_neg e,if_neg (fun h=>e h.symm)];omega
theorem aow:∀ {a b c:List Int},a.length=b.length->b.length=c.length->A2 a b->A2 b c->A2 a c:=by
 intro a
 induction a with
 |nil=>intro b c _ _ _ _;simp[A2,gE]
 |cons x a ih=>
  intro b c h1 h2;cases b with
  |nil=>cases h1
  |cons y b=>
   cases c with
   |nil=>cases h2
   |cons z c=>
    unfold A2 gE;intro k1 k2;by_cases e1:x=y
    .subst e1;rw[if_pos rfl] at k1;by_cases e2:x=z
     .rw[if_pos e2] at k2 ⊢;exact ih (by simpa using h1) (by simpa using h2) k1 k2
     rw[if_neg e2] at k2 ⊢;exact k2
    rw[if_neg e1] at k1;by_cases e2:y=z
    .subst e2;rw[if_neg e1];exact k1
    rw[if_neg e2] at k2;rw[if_neg aa];omega
theorem aov{a b:List Int}(h:a.length=b.length)(h1:A2 a b)(h2:A2 b a):a=b:=by refine YZ h ?_;have h3:=HM a b h;unfold A2 at h1 h2;omega
def fU(w:List Int)(k:Nat):List Int:=w.drop k++w.take k
theorem wT(w:List Int)(k:Nat):(fU w k).length=w.length:=by simp[fU];omega
def jL(w:List Int):Nat->Nat
 |0=>0
 |i+1=>if 2*(i+1)<w.length/\gE (fU w (2*(i+1))) (fU w (jL w i))<0 then 2*(i+1) else jL w i
def fD(w:List Int):List Int:=fU w (jL w (w.length/2))
theorem ad7(w:List Int)(i:Nat):jL w i%2=0/\(jL w i=0\/jL w i<w.length):=by
 induction i with
 |zero=>exact⟨rfl,.inl rfl⟩
 |succ i ih=>
  unfold jL;split
  .rename_i h;exact⟨aa,.inr h.1⟩
  exact ih
theorem aoS(w:List Int):∀(n j:Nat),j<=n->2*j<w.length\/j=0->A2 (fU w (jL w n)) (fU w (2*j)):=by
 intro n
 induction n with
 |zero=>intro j h _;obtain rfl:=Nat.le_zero.1 h;show gE _ _<=0;rw[show jL w 0=2*0 from rfl,Su];exact Int.le_refl _
 |succ n ih=>
  intro j h hj;have hl:∀a b,(fU w a).length=(fU w b).length:=fun a b=>by rw[wT,wT]
  unfold jL;by_cases hc:2*(n+1)<w.length/\gE (fU w (2*(n+1))) (fU w (jL w n))<0
  .rw[if_pos hc];by_cases e:j=n+1
   .subst e;show gE _ _<=0;rw[Su];exact Int.le_refl _
   exact aow (hl _ _) (hl _ _) (show gE _ _<=0 by omega) (ih j aa hj)
  rw[if_neg hc];by_cases e:j=n+1
  .subst e;have h1:¬gE (fU w (2*(n+1))) (fU w (jL w n))<0:=fun h2=>hc ⟨aa,h2⟩;have:=HM (fU w (jL w n)) (fU w (2*(n+1))) (hl _ _);have h3:=HM (fU w (2*(n+1))) (fU w (jL w n)) (hl _ _);show gE _ _<=0;omega
  exact ih j aa hj
theorem arR{w:List Int}{a b:Nat}(ha:a<=w.length)(hb:b<=w.length):fU (fU w a) b=fU w ((a+b)%w.length)\/w=[]:=by
 by_cases hw:w=[]
 .exact .inr hw
 left;have fA:=gV.2 hw;apply vF;intro k;have at_:∀(v:List Int) (c:Nat),c<=v.length->∀k,(fU v c)[k]?=if k<v.length then v[(c+k)%v.length]? else none:=by
  intro v c hc k;unfold fU;by_cases h1:k<v.length-c
  .rw[pS (by rw[iC];exact h1),r9,if_pos aa,gD aa]
  rw[mQ (by rw[iC];omega),iC,jt];by_cases h2:k<v.length
  .rw[if_pos aa,if_pos h2];congr 1;rw[show c+k=v.length+(k-(v.length-c)) by omega,Nat.add_mod_left,gD aa]
  rw[if_neg h2,if_neg aa]
 have hm:=dQ (a+b) fA;rw[at_ (fU w a) b (by rw[wT];exact hb),wT,at_ w ((a+b)%w.length) aa];by_cases hk:k<w.length
 .rw[if_pos hk,if_pos hk,at_ w a ha,if_pos (dQ _ fA)];congr 1;rw[Nat.add_mod_mod,<- BB,Nat.mod_add_mod]
 rw[if_neg hk,if_neg hk]
theorem PT{u v:List Int}(he:(u++v).length%2=0)(hu:u.length%2=0):fD (v++u)=fD (u++v):=by
 suffices h:∀(u v:List Int),(u++v).length%2=0->u.length%2=0->A2 (fD (u++v)) (fD (v++u)) by have h1:=h u v he hu;have h2:=h v u (by rw[dX] at he ⊢;omega) (by rw[dX] at he;omega);refine aov ?_ h2 h1;unfold fD;rw[wT,wT,dX,dX,Fk]
 intro u v he hu;by_cases hw:u++v=[]
 .obtain⟨rfl,rfl⟩:=List.append_eq_nil_iff.1 hw;show gE _ _<=0;rw[Su];exact Int.le_refl _
 have fA:=gV.2 hw;have e:v++u=fU (u++v) u.length:=by simp[fU]
 have Gp:u.length<=(u++v).length:=af;obtain⟨h1,h2⟩:=ad7 (v++u) ((v++u).length/2);generalize hf:jL (v++u) ((v++u).length/2)=f at h1 h2;have hl:(v++u).length=(u++v).length:=by rw[dX,dX,Fk]
 have rR:f<=(u++v).length:=aa;have e2:fD (v++u)=fU (u++v) ((u.length+f)%(u++v).length):=by unfold fD;rw[hf,e];exact(arR Gp rR).resolve_right hw
 rw[e2];have hm:=dQ (u.length+f) fA;generalize hj:(u.length+f)%(u++v).length=j at hm;have hje:j%2=0:=by rw[<- hj];have:(u.length+f)%(u++v).length%2=(u.length+f)%2:=Nat.mod_mod_of_dvd _ aa;rw[this];omega
 obtain⟨i,rfl⟩:∃i,j=2*i:=⟨j/2,aa⟩;exact aoS (u++v) ((u++v).length/2) i aa (.inl hm)
def vp(w:List Int):List Int:=
 let r:=(rm w).map (·.1)
 if r=[] then [] else if gE (fD r.reverse) (fD r)<0 then fD r.reverse else fD r
theorem apM{v w:List Int}(hv:v.length%2=0)(hw:w.length%2=0)(h:dY (jT (jW (cJ true v))) (jT (jW (cJ true w)))):vp v=vp w:=by
 obtain⟨r,h1,h2,h3⟩:=QD hv;obtain⟨s,k1,k2,k3⟩:=QD hw;obtain⟨a,b,rfl,rfl,ha⟩:=afW ((h3.symm.trans h).trans k3);unfold vp;rw[h1,k1,BI,BI];have e1:=PT h2 ha;have e2:fD (b++a).reverse=fD (a++b).reverse:=by rw[List.reverse_append,List.reverse_append];exact(PT (u:=b.reverse) (v:=a.reverse) (by simp at h2 ⊢;omega) (by simp at h2 ⊢;omega)).symm▸rfl
 simp only[e1,e2];have:(b++a=[])↔(a++b=[]):=by rw[List.append_eq_nil_iff,List.append_eq_nil_iff];exact And.comm
 by_cases hn:a++b=[]
 .rw[if_pos hn,if_pos (this.2 hn)]
 rw[if_neg hn,if_neg (fun h=>hn (this.1 h))]
def mN(w:List DL):List DL:=(w.map inv).reverse
theorem GV(x:DL)(t:List DL):mN (x::t)=mN t++[inv x]:=by simp[mN]
theorem WW(a b:List DL):mN (a++b)=mN b++mN a:=by simp[mN]
theorem arb(x:DL)(s:List DL):nz (mN s) (inv x)=mN (uE x s):=by
 cases s with
 |nil=>rfl
 |cons z s=>
  rw[GV];by_cases h:z=inv x
  .subst h;rw[CU,sT]
  rw[CT h,ua (fun e=>h (by have:=VV e;exact this)),GV,GV]
theorem aru(w:List DL):jW (mN w)=mN (jW w):=by
 induction w with
 |nil=>rfl
 |cons x t ih=>rw[GV,Nx,ih,arb,afK]
theorem ajU:∀(n:Nat) (s:List DL),s.length<=n->jT (mN s)=mN (jT s):=by
 intro n
 induction n with
 |zero=>intro s h;obtain rfl:=uL.1 (Nat.le_zero.1 h);rfl
 |succ n ih=>
  intro s h;cases s with
  |nil=>rfl
  |cons x t=>
   rcases EK t with rfl|⟨t,z,rfl⟩
   .rfl
   have e:mN (x::(t++[z]))=inv z::mN t++[inv x]:=by rw[GV,WW];rfl
   rw[e,<- jg];by_cases hz:z=inv x
   .subst hz;rw[KS,inv_inv,KS];exact ih t (by simp at h;omega)
   rw[Cb hz,Cb (fun e=>hz (by rw[inv_inv] at e;rw[<- e]))];rw[jg,jg,e];rfl
theorem dY.rv{a b:List DL}(h:dY a b):dY (mN a) (mN b):=by obtain⟨u,v,rfl,rfl⟩:=h;exact⟨mN v,mN u,WW u v,WW v u⟩
theorem aic:∀(w:List Int) (p:Bool),mN (cJ p w)=cJ (fN (!p) (w.length+1)) w.reverse:=by
 intro w
 induction w with
 |nil=>intro p;rfl
 |cons g t ih=>
  intro p;show mN ((g,p)::cJ (!p) t)=_;rw[GV,ih,List.reverse_cons,vP,qD,cq];have e1:fN (!!p) (t.length+1)=fN (!p) (t.length+1+1):=by simp[Qv,WE]
  have e2:fN (fN (!!p) (t.length+1)) t.length= !p:=by
   unfold fN;by_cases h:t.length%2=0
   .rw[if_pos h,if_neg aa];simp
   rw[if_neg h,if_pos aa];simp
  rw[<- e1,e2];rfl
theorem Sa{w:List Int}(h:w.length%2=0):mN (cJ true w)=cJ true w.reverse:=by rw[aic];unfold fN;rw[if_neg aa];rfl
theorem adY(w:List Int):(fD w).length=w.length:=wT _ _
theorem apO{w:List Int}(hw:w.length%2=0):vp w.reverse=vp w:=by
 have hw':w.reverse.length%2=0:=by simpa using hw
 obtain⟨r,h1,h2,h3⟩:=QD hw;obtain⟨s,k1,k2,k3⟩:=QD hw';rw[<- Sa hw,aru,ajU _ _ (aX _)] at k3;have h4:dY (mN (jT (jW (cJ true w)))) (cJ true r.reverse):=by rw[<- Sa h2];exact h3.rv
 obtain⟨a,b,e1,e2,ha⟩:=afW (k3.symm.trans h4);have q1:fD s=fD r.reverse:=by rw[e1,e2];exact(PT (u:=a) (v:=b) (by rw[<- e1];exact k2) ha).symm
 have q2:fD s.reverse=fD r:=by
  have hr:r=a.reverse++b.reverse:=by rw[<- List.reverse_append,<- e2,List.reverse_reverse]
  have hl:(a++b).length%2=0:=by rw[<- e1];exact k2
  rw[e1,hr,List.reverse_append];exact(PT (u:=b.reverse) (v:=a.reverse) (by simp at hl ⊢;omega) (by simp at hl ⊢;omega)).symm
 have q3:s=[]↔r=[]:=by
  have:s.length=r.length:=by have:=congrArg List.length e2;rw[e1];simp at this ⊢;omega
  rw[<- uL,<- uL,this]
 unfold vp;rw[h1,k1,BI,BI];simp only[q1,q2];by_cases hn:r=[]
 .rw[if_pos hn,if_pos (q3.2 hn)]
 rw[if_neg hn,if_neg (fun h=>hn (q3.1 h))];have hl:(fD r.reverse).length=(fD r).length:=by rw[adY,adY,qD]
 by_cases c1:gE (fD r.reverse) (fD r)<0
 .rw[if_pos c1,if_neg];have:=(HM _ _ hl).1 c1;omega
 rw[if_neg c1];by_cases c2:gE (fD r) (fD r.reverse)<0
 .rw[if_pos c2]
 rw[if_neg c2];have:=HM _ _ hl.symm;refine YZ hl ?_;have:=HM _ _ hl;omega
end Go.Abs
