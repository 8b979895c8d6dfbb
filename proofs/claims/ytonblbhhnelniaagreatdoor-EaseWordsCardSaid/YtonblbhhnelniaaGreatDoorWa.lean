/- A part. -/
import Derived.Test.YtonblbhhnelniaaGreatDoorSa
set_option linter.all false
set_option maxRecDepth 100000
set_option maxHeartbeats 16000000
namespace Go.Abs
section
variable{f:Int}{F:Nat}
structure Let where
 kind:Int
 gate:Int
 aB:Int
 id:Int
 sign:Int
 over:Bool
 deriving DecidableEq
def Let.ps(l:Let):List PV:=[.int .i64 l.kind,.int .i64 l.gate,.int .i64 l.aB,.int .i64 l.id,.int .i64 l.sign,.bool l.over]
def Let.aA(l:Let):Bool:=l.kind==1
def Let.aC(l:Let):Bool:=l.kind==2
abbrev cP(ls:List Let):PV:=.sl (ls.map Let.ps)
abbrev eY(f:Int)(ls:List Let):V:=.agg [.p (.int .i64 f),.p (cP ls)]
abbrev vi(k:Int):V:=.one (.p (.int .i64 k))
abbrev vb(b:Bool):V:=.one (.p (.bool b))
abbrev ri(k:Int):RV:=.one (.p (.int .i64 k))
abbrev rb(k:Bool):RV:=.one (.p (.bool k))
abbrev ay(p:Let->Bool)(ls:List Let):Nat:=ls.countP p
theorem aK{α:Type}{ls:List α}{k:Nat}(h:k<ls.length):∃l,ls[k]?=some l:=⟨ls[k],by simp[h]⟩
theorem KP{p:Let->Bool}{ls:List Let}{k:Nat}{l:Let}(h:ls[k]?=some l)(hp:p l=true):ay p (ls.take (k+1))=ay p (ls.take k)+1:=by unfold ay;obtain⟨hk,rfl⟩:=aS.1 h;rw[List.take_succ_eq_append_getElem hk,vE,List.countP_singleton,if_pos hp]
theorem HN{p:Let->Bool}{ls:List Let}{k:Nat}{l:Let}(h:ls[k]?=some l)(hp:p l=false):ay p (ls.take (k+1))=ay p (ls.take k):=by unfold ay;obtain⟨hk,rfl⟩:=aS.1 h;rw[List.take_succ_eq_append_getElem hk,vE,List.countP_singleton,hp];rfl
theorem Oo(p:Let->Bool)(ls:List Let)(k:Nat):ay p (ls.take k)<=k:=ll Kq (by rw[eQ];exact Nat.min_le_left _ _)
theorem xx(p:Let->Bool)(ls:List Let):ay p ls<=ls.length:=Kq
theorem mL{ls:List Let}{k:Nat}{l:Let}(h:ls[k]?=some l):(ls.map Let.ps)[k]?=some l.ps:=by simp[h]
theorem wrap_add{a b:Nat}(h:a+b<=9223372036854775807):IntKind.i64.wrap ((a:Int)+(b:Int))=((a+b:Nat):Int):=wrap_small (n:=a+b) h
theorem yF{a:Nat}(h:2*a<=9223372036854775807):IntKind.i64.wrap (2*(a:Int))=((2*a:Nat):Int):=wrap_small (n:=2*a) h
theorem XB{a b:Nat}(h:b<=a)(h2:a<=9223372036854775807):IntKind.i64.wrap ((a:Int)-(b:Int))=((a-b:Nat):Int):=by have:((a:Int)-(b:Int))=((a-b:Nat):Int):=aa;rw[this];exact wrap_small aa
theorem Kj{a:Nat}(h:1<=a)(h2:a<=9223372036854775807):IntKind.i64.wrap ((a:Int)-1)=((a-1:Nat):Int):=XB (b:=1) h h2
def W6(x y:Option (List PV×List Nat))(f:Nat):Option (PV×List Nat):=match x,y with
 |some (x,r),some (y,s)=>some (.fn f x y,r++s)
 |_,_=>none
theorem as7{x y:List PV}{r s:List Nat}{f:Nat}:W6 (some (x,r)) (some (y,s)) f=some (.fn f x y,r++s):=rfl
theorem atb{aj:aq}{f:Nat}{a b:List C}:snap aj eL (.hfn f a b)=W6 (collect (snap aj 5) a) (collect (snap aj 5) b) f:=by unfold eL;rw[snap];unfold W6;rfl
theorem atc{aj:aq}{n id g off:Nat}:snap aj (n+1) (.bk id g off)=QY (aj id) (collect (snap aj n)) id g off:=by rw[snap];rfl
theorem atd{aj:aq}{n id g z off len:Nat}:snap aj (n+1) (.hsl id g z off len)=QZ (aj id) (collect (collect (snap aj n))) id g off len:=by rw[snap];rfl
theorem aH{b:Bool}(h:b=true:=by kernel_rfl):b=true:=h
theorem aY{f:Nat}{fn:aW}{args:List V}{r:RV}(hf:S.fns f=some fn)(h:W S .all fn.body (lE .all fn.results fun v aj=>iA aj v=some r) (rX args) zO)(hp:S.prim f args=none:=by rfl)(hl:args.length<=fn.ntmps:=by exact gY rfl):aI S f args r:=ahD hp hf hl h
theorem iI:¬((2:Int)=0):=ae
theorem yC(a b:Nat):(a:Int).tmod b=((a%b:Nat):Int):=by rw[Int.tmod_eq_emod_of_nonneg aa];rfl
theorem pQ(a:Nat):(a:Int).tmod 2=((a%2:Nat):Int):=yC a 2
theorem jC(a:Nat):(a:Int).tdiv 2=((a/2:Nat):Int):=by rw[Int.tdiv_eq_ediv_of_nonneg aa];rfl
theorem eK{n:Nat}:¬((n:Int)<(n:Int)):=aa
theorem ps_len(l:Let):l.ps.length=6:=rfl
theorem alP{aj:aq}{all:List Nat}:rL aj all []=some []:=rfl
attribute [go_sem] atb as7 atc atd alP
def ED(g:Int)(l:Let):Bool:=l.aA&&l.gate==g
def uC(g:Int)(l:Let):Bool:=l.aC&&l.id==g
theorem Wv(f:Int)(ls:List Let)(hl:ls.length<=1000000):aI S 87 [eY f ls] (ri (ay Let.aA ls)):=by
 refine aY c87 ?_;simp only[go_sem,i87];refine cV (fun k ak _=>ak 7=.one (.p (cP ls))/\ak 8=vi ls.length/\ak 9=vi k/\ak 3=vi (ay Let.aA (ls.take k))) 0 ls.length (bd _) ?_ ?_
 .simp only[go_sem];exact⟨rfl,rfl⟩
 rintro k ak aj hk ⟨h7,h8,h9,h3⟩
 by_cases aw:k<ls.length
 .obtain⟨l,dV⟩:=aK aw;have hi:=mL dV;have aL:((k:Int)<(ls.length:Int)):=aa;have hb:=Oo (Let.aA) ls k;have w1:=cK (n:=k) aa;have w2:=cK (n:=ay (Let.aA) (ls.take k)) aa;cases hp:(l.kind==1) with
  |true=>have hc:=KP (p:=Let.aA) dV hp;simp only[go_sem,i87_l1,h3,h7,h8,h9,hi,Let.ps,aL,w1,w2,hp,hc];first|exact aw|exact⟨aw,rfl⟩
  |false=>have hc:=HN (p:=Let.aA) dV hp;simp only[go_sem,i87_l1,h3,h7,h8,h9,hi,Let.ps,aL,w1,hp,hc];first|exact aw|exact⟨aw,rfl⟩
 have:k=ls.length:=aa;subst this;rw[jh] at h3;simp only[go_sem,i87_l1,i87_r2,h3,h8,h9,eK]
theorem SR(f:Int)(ls:List Let)(hl:ls.length<=1000000):aI S 38 [eY f ls] (ri (ay Let.aC ls)):=by
 refine aY c38 ?_;simp only[go_sem,i38];refine cV (fun k ak _=>ak 7=.one (.p (cP ls))/\ak 8=vi ls.length/\ak 9=vi k/\ak 3=vi (ay Let.aC (ls.take k))) 0 ls.length (bd _) ?_ ?_
 .simp only[go_sem];exact⟨rfl,rfl⟩
 rintro k ak aj hk ⟨h7,h8,h9,h3⟩
 by_cases aw:k<ls.length
 .obtain⟨l,dV⟩:=aK aw;have hi:=mL dV;have aL:((k:Int)<(ls.length:Int)):=aa;have hb:=Oo (Let.aC) ls k;have w1:=cK (n:=k) aa;have w2:=cK (n:=ay (Let.aC) (ls.take k)) aa;cases hp:(l.kind==2) with
  |true=>have hc:=KP (p:=Let.aC) dV hp;simp only[go_sem,i38_l1,h3,h7,h8,h9,hi,Let.ps,aL,w1,w2,hp,hc];first|exact aw|exact⟨aw,rfl⟩
  |false=>have hc:=HN (p:=Let.aC) dV hp;simp only[go_sem,i38_l1,h3,h7,h8,h9,hi,Let.ps,aL,w1,hp,hc];first|exact aw|exact⟨aw,rfl⟩
 have:k=ls.length:=aa;subst this;rw[jh] at h3;simp only[go_sem,i38_l1,i38_r2,h3,h8,h9,eK]
theorem Zv(f:Int)(ls:List Let)(hl:ls.length<=1000000):aI S 92 [eY f ls] (ri ((ay Let.aC ls/2:Nat))):=by
 have hb:=xx Let.aC ls;have e1:IntKind.i64.wrap ((ay Let.aC ls:Int).tdiv 2)=((ay Let.aC ls/2:Nat):Int):=by
  have:(ay Let.aC ls:Int).tdiv 2=((ay Let.aC ls/2:Nat):Int):=by rw[Int.tdiv_eq_ediv_of_nonneg aa];omega
  rw[this];exact wrap_small aa
 refine aY c92 ?_;simp only[go_sem,i92,s38,eH (SR f ls hl),e1,(by decide:¬(2:Int)=0)]
def dn (ls:List Let)(i:Nat):Bool:=ay Let.aA (ls.take i)%2==0
def dD(n i:Nat)(fw:Bool):Nat:=if fw then 2*i else 2*((i+n-1)%n)+1
def Jw(ls:List Let)(i j:Nat):Bool:=j !=i&&(match ls[j]? with|some l=>l.aC&&l.id==((ls[i]?).map Let.id).getD 0|none=>false)
def ib(ls:List Let)(i:Nat):Nat:=((List.range ls.length).find? (Jw ls i)).getD i
theorem DT{p:Nat->Bool}:∀ {n k:Nat},k<n->(∀j,j<k->p j=false)->p k=true->(List.range n).find? p=some k:=by intro n k hk hn hp;exact List.find?_range_eq_some.2 ⟨hp,by simpa using hk,fun j hj=>by simp[hn j hj]⟩
theorem Lg{p:Nat->Bool}{n:Nat}(hn:∀j,j<n->p j=false):(List.range n).find? p=none:=by rw[Hh];intro x hx;simp[hn x (by simpa using hx)]
abbrev PY(l:Let):V:=.agg [.p (.int .i64 l.kind),.p (.int .i64 l.gate),.p (.int .i64 l.aB),.p (.int .i64 l.id),.p (.int .i64 l.sign),.p (.bool l.over)]
def PU(a b:Let):Bool:=decide (a.gate<b.gate)||(a.gate==b.gate&&decide (a.aB<b.aB))
abbrev nP(o:List Nat):List (List PV):=o.map fun n:Nat=>[PV.int .i64 (n:Int)]
theorem kQ{o:List Nat}{k n:Nat}(h:o[k]?=some n):(nP o)[k]?=some [.int .i64 (n:Int)]:=by simp[h]
def M5(ls:List Let)(i j:Nat):Bool:=match ls[j]?,ls[i]? with
 |some a,some b=>PU a b
 |_,_=>false
def EE(ls:List Let)(o:List Nat)(i:Nat):List Nat:=o.take (o.takeWhile (M5 ls i)).length++i::o.drop (o.takeWhile (M5 ls i)).length
def BP(ls:List Let)(o:List Nat)(i:Nat):List Nat:=match ls[i]? with
 |some l=>if l.aA then EE ls o i else o
 |none=>o
def aE(ls:List Let):List Nat:=(List.range ls.length).foldl (BP ls) []
def um(ls:List Let)(k:Nat):List Nat:=(List.range k).foldl (BP ls) []
theorem KC(ls:List Let)(k:Nat):um ls (k+1)=BP ls (um ls k) k:=by unfold um;rw[w8,BA];rfl
theorem aiI{ls:List Let}{o:List Nat}{i:Nat}{x:Nat}(h:x∈BP ls o i):x∈o\/x=i:=by
 unfold BP at h;split at h
 .split at h
  .unfold EE at h;rcases eF.1 h with h|h
   .exact .inl (vJ h)
   rcases cM.1 h with h|h
   .exact .inr h
   exact .inl (vI h)
  exact .inl h
 exact .inl h
theorem Yk{ls:List Let}:∀ {k x:Nat},x∈um ls k->x<k:=by
 intro k
 induction k with
 |zero=>intro x h;simp[um] at h
 |succ k ih=>
  intro x h;rw[KC] at h;rcases aiI h with h|h
  .have:=ih h;omega
  omega
theorem yP(ls:List Let):∀k,(um ls k).length<=k:=by
 intro k
 induction k with
 |zero=>simp[um]
 |succ k ih=>
  rw[KC];unfold BP;split
  .split
   .unfold EE;simp only[dX,cq,eQ,iC];omega
   omega
  omega
theorem anS(ls:List Let)(o:List Nat)(i:Nat):(EE ls o i).length=o.length+1:=by unfold EE;simp only[dX,cq,eQ,iC];have:=(List.takeWhile_sublist (M5 ls i) (l:=o)).length_le;omega
theorem Nl{aj:aq}{id g z len ty:Nat}{es:List (List PV)}(h:aj id=(g,some (.arr ty z es)))(hl:len=es.length):iA aj (.one (.hsl id g z 0 len))=some (.one (.own ty z es)):=by subst hl;simp only[iA,rK,my,lM,jc,h,aX,and_self,if_true,jh];rfl
def nE(ls:List Let)(ax:List Nat)(d:Nat):Nat:=
 if 2*ls.length<=d then
  if d%2=0 then dD ls.length (ax.getD (((d-2*ls.length)/2+1)%ax.length) 0) (!dn ls (ax.getD (((d-2*ls.length)/2+1)%ax.length) 0))
  else dD ls.length (ax.getD ((d-2*ls.length)/2) 0) (dn ls (ax.getD ((d-2*ls.length)/2) 0))
 else
  let fw:=d%2==0
  let v:=if fw then (d/2+1)%ls.length else d/2
  match ls[v]? with
  |none=>0
  |some l=>if l.kind==2 then dD ls.length (ib ls v) (fw==(l.over==(l.sign==1)))
   else if dn ls v==fw then 2*ls.length+2*ax.idxOf v else 2*ls.length+2*((ax.idxOf v+ax.length-1)%ax.length)+1
theorem ap0{ls:List Let}{i:Nat}(hi:i<ls.length):ib ls i<ls.length:=by
 unfold ib;cases h:(List.range ls.length).find? (Jw ls i) with
 |none=>exact hi
 |some k=>
  have:=Fi h
  simpa using this
theorem Hy{n i:Nat}{fw:Bool}(hi:i<n):dD n i fw<2*n:=by unfold dD;have:=dQ (i+n-1) (show 0<n by omega);split<;>omega
theorem Xm{ls:List Let}{ax:List Nat}{d:Nat}(nL:∀x∈ax,x<ls.length)(hp:∀v l,ls[v]?=some l->(l.kind==2)=false->v∈ax)(hd:d<2*ls.length+2*ax.length):nE ls ax d<2*ls.length+2*ax.length:=by
 have Cy:∀k,k<ax.length->ax.getD k 0<ls.length:=fun k hk=>by obtain⟨x,hx⟩:=aK hk;rw[de,hx];exact nL x (aU hx)
 unfold nE;by_cases h:2*ls.length<=d
 .rw[if_pos h];have hm:=dQ ((d-2*ls.length)/2+1) (show 0<ax.length by omega);by_cases h2:d%2=0
  .rw[if_pos h2];exact Dy (Hy (Cy _ hm)) aa
  rw[if_neg h2];exact Dy (Hy (Cy _ aa)) aa
 rw[if_neg h];have hn:0<ls.length:=aa;have hv:(if (d%2==0)=true then (d/2+1)%ls.length else d/2)<ls.length:=by
  split
  .exact dQ _ hn
  omega
 simp only;generalize (if (d%2==0)=true then (d/2+1)%ls.length else d/2)=v at hv;obtain⟨l,hl⟩:=aK hv;rw[hl];simp only;by_cases hk:(l.kind==2)=true
 .rw[if_pos hk];exact Dy (Hy (ap0 hv)) aa
 rw[if_neg hk];have nh:=hp v l hl (by simpa using hk);have IL:ax.idxOf v<ax.length:=Rr.2 nh;have hm:=dQ (ax.idxOf v+ax.length-1) (show 0<ax.length by omega);split<;>omega
theorem anG{ax:List Nat}{v:Nat}(h:v∈ax):ax[ax.idxOf v]?=some v:=by have hl:ax.idxOf v<ax.length:=Rr.2 h;rw[nG hl,List.getElem_idxOf hl]
abbrev bP(o:List Bool):List (List PV):=o.map fun b:Bool=>[PV.bool b]
theorem uq{o:List Bool}{k:Nat}{b:Bool}(h:o[k]?=some b):(bP o)[k]?=some [.bool b]:=by simp[h]
theorem KH(o:List Bool)(k:Nat)(b:Bool):(bP o).set k [.bool b]=bP (o.set k b):=by simp[List.map_set]
def fQ(next:Nat->Nat):Nat->Nat->List Bool->List Nat×List Bool
 |0,_,seen=>([],seen)
 |k+1,x,seen=>if seen.getD x true then ([],seen) else (x::(fQ next k (next x) (seen.set x true)).1,(fQ next k (next x) (seen.set x true)).2)
def Bs(s:List Bool):Nat:=s.countP (fun b=> !b)
theorem Re{s:List Bool}{x:Nat}(h:s[x]?=some false):Bs (s.set x true)+1=Bs s:=by
 induction s generalizing x with
 |nil=>simp at h
 |cons b s ih=>
  cases x with
  |zero=>simp at h;subst h;simp[Bs]
  |succ x=>have:=ih (x:=x) (by simpa using h);unfold Bs at this ⊢;simp only[List.set_cons_succ,wZ];omega
theorem auw(next:Nat->Nat):∀(k x:Nat) (s:List Bool),(fQ next k x s).2.length=s.length:=by
 intro k
 induction k with
 |zero=>intro x s;rfl
 |succ k ih=>
  intro x s;unfold fQ;split
  .rfl
  simp[ih]
def yD(next:Nat->Nat)(st:List (List Nat)×List Bool)(d:Nat):List (List Nat)×List Bool:=if st.2.getD d true then st else (st.1++[(fQ next (st.2.length+1) d st.2).1],(fQ next (st.2.length+1) d st.2).2)
def dR(next:Nat->Nat)(N k:Nat):List (List Nat)×List Bool:=(List.range k).foldl (yD next) ([],List.replicate N false)
def js(next:Nat->Nat)(N:Nat):List (List Nat):=(dR next N N).1
theorem Bv(next:Nat->Nat)(N k:Nat):dR next N (k+1)=yD next (dR next N k) k:=by unfold dR;rw[w8,BA];rfl
theorem Kg(next:Nat->Nat)(N:Nat):∀k,(dR next N k).2.length=N:=by
 intro k
 induction k with
 |zero=>simp[dR]
 |succ k ih=>
  rw[Bv];unfold yD;split
  .exact ih
  simp[auw,ih]
theorem Xv(next:Nat->Nat)(N:Nat):∀k,(dR next N k).1.length<=k:=by
 intro k
 induction k with
 |zero=>simp[dR]
 |succ k ih=>
  rw[Bv];unfold yD;split
  .omega
  simp;exact ih
theorem NK(s:List Bool):Bs s<=s.length:=Kq
def QM(l o:Let):Bool:=(o.kind==l.kind&&o.gate==l.gate)&&o.aB==l.aB
def Jy(l o:Let):Bool:=((o.kind==l.kind&&o.id==l.id)&&o.sign==l.sign)&& !(o.over==l.over)
def okP(f:Int)(ls:List Let)(l:Let):Bool:= !(((((((l.id !=0||l.sign !=0)||l.over)||decide (l.gate<0))||decide (f<l.gate))||decide (l.aB<1))||decide ((ay (ED l.gate) ls:Int)<l.aB))||(((ay (QM l) ls:Nat):Int)!=1))
def wR(ls:List Let)(l:Let):Bool:= !((((((l.gate !=0||l.aB !=0)||(l.sign !=1&&l.sign != -1))||decide (l.id<1))||decide (((ay Let.aC ls/2:Nat):Int)<l.id))||(((ay (Jy l) ls:Nat):Int)!=1))||(((ay (uC l.id) ls:Nat):Int)!=2))
def okL(f:Int)(ls:List Let)(l:Let):Bool:=if l.kind==1 then okP f ls l else if l.kind==2 then wR ls l else false
def EL(f:Int)(ls:List Let):Bool:=ls.all (okL f ls)
theorem anT{ls:List Let}{o:List Nat}{i x:Nat}:x∈EE ls o i↔x∈o\/x=i:=by
 unfold EE;generalize (o.takeWhile (M5 ls i)).length=K;constructor
 .intro h;rcases eF.1 h with h|h
  .exact .inl (vJ h)
  rcases cM.1 h with h|h
  .exact .inr h
  exact .inl (vI h)
 rintro (h|rfl)
 .rw[<- kG K o] at h;rcases eF.1 h with h|h
  .exact eF.2 (.inl h)
  exact eF.2 (.inr (cM.2 (.inr h)))
 simp
theorem Yl{ls:List Let}:∀ {k x:Nat},k<=ls.length->(x∈um ls k↔x<k/\ ∃l,ls[x]?=some l/\l.aA=true):=by
 intro k
 induction k with
 |zero=>intro x _;simp[um]
 |succ k ih=>
  intro x hk;rw[KC];obtain⟨l,hl⟩:=aK (ls:=ls) (k:=k) aa;have ih:=ih (x:=x) aa;unfold BP;rw[hl];simp only;by_cases hp:l.aA=true
  .rw[if_pos hp,anT,ih];constructor
   .rintro (⟨h1,h2⟩|rfl)
    .exact⟨aa,h2⟩
    exact⟨aa,l,hl,hp⟩
   rintro ⟨h1,h2⟩
   rcases pV.1 h1 with h|rfl
   .exact .inl ⟨h,h2⟩
   exact .inr rfl
  rw[if_neg hp,ih];constructor
  .rintro ⟨h1,h2⟩;exact⟨aa,h2⟩
  rintro ⟨h1,m,hm,tM⟩
  rcases pV.1 h1 with h|rfl
  .exact⟨h,m,hm,tM⟩
  rw[hl] at hm;cases hm;exact(hp tM).elim
theorem uS{ls:List Let}{x:Nat}:x∈aE ls↔ ∃l,ls[x]?=some l/\l.aA=true:=by
 have:=Yl (ls:=ls) (k:=ls.length) (x:=x) (aX _);have e:aE ls=um ls ls.length:=rfl;rw[e,this];constructor
 .rintro ⟨_,h⟩;exact h
 rintro ⟨l,h,h2⟩;exact⟨(aS.1 h).1,l,h,h2⟩
theorem aoQ{ls:List Let}(h:EL f ls=true){v:Nat}{l:Let}(hv:ls[v]?=some l):l.aA=true\/l.aC=true:=by
 have:=(jf.1 h) l (aU hv);unfold okL at this;unfold Let.aA Let.aC;cases h1:(l.kind==1) with
 |true=>exact .inl rfl
 |false=>
  cases h2:(l.kind==2) with
  |true=>exact .inr rfl
  |false=>rw[h1,h2] at this;simp at this
def mh(ls:List Let):Nat:=(js (nE ls (aE ls)) (2*ls.length+2*(aE ls).length)).length
def uh(f:Int)(ls:List Let):Bool:=(match ls[0]? with|some l=>l.kind==1|none=>true)&&(ay Let.aA ls%2==0)&&EL f ls&&(mh ls==ay Let.aA ls+ay Let.aC ls/2+2)
def cN(f:Int)(ls:List Let):Int:=if 400<ls.length\/200<ay Let.aC ls then 7 else if f<0\/40<f then 2 else if ls=[] then 0 else if uh f ls then 0 else 3
def dj(f:Int)(l:Let):Bool:=if l.kind==1 then (((decide (l.gate<0)||decide (f<l.gate))||l.id !=0)||l.sign !=0)||l.over else if l.kind==2 then (l.gate !=0||l.aB !=0)||(l.sign !=1&&l.sign != -1) else true
theorem aiV(f:Int)(l:Let)(x1 x2 x3 x4 x5 x6:PV):aI S 86 [PY l,.one (.p (.box [.box [.int .i64 f,x1,x2,x3,x4,x5,x6]]))] (rb (dj f l)):=by
 refine aY c86 ?_;cases k1:(l.kind==1) with
 |true=>
  cases a1:(decide (l.gate<0)) with
  |true=>
   have yK:(l.gate<0):=of_decide_eq_true a1;have hb:dj f l=true:=by simp only[dj,k1,a1];rfl
   simp only[go_sem,i86,k1,yK,hb];exact aH
  |false=>
   cases a2:(decide (f<l.gate)) with
   |true=>
    have yK:¬(l.gate<0):=of_decide_eq_false a1;have BH:(f<l.gate):=of_decide_eq_true a2;have hb:dj f l=true:=by simp only[dj,k1,a1,a2];rfl
    simp only[go_sem,i86,k1,yK,BH,hb];exact aH
   |false=>
    cases a3:(l.id !=0) with
    |true=>
     have yK:¬(l.gate<0):=of_decide_eq_false a1;have BH:¬(f<l.gate):=of_decide_eq_false a2;have hb:dj f l=true:=by simp only[dj,k1,a1,a2,a3];rfl
     simp only[go_sem,i86,k1,yK,BH,a3,hb];exact aH
    |false=>
     cases a4:(l.sign !=0) with
     |true=>
      have yK:¬(l.gate<0):=of_decide_eq_false a1;have BH:¬(f<l.gate):=of_decide_eq_false a2;have hb:dj f l=true:=by simp only[dj,k1,a1,a2,a3,a4];rfl
      simp only[go_sem,i86,k1,yK,BH,a3,a4,hb];exact aH
     |false=>
      cases a5:(l.over) with
      |true=>
       have yK:¬(l.gate<0):=of_decide_eq_false a1;have BH:¬(f<l.gate):=of_decide_eq_false a2;have hb:dj f l=true:=by simp only[dj,k1,a1,a2,a3,a4,a5];rfl
       simp only[go_sem,i86,k1,yK,BH,a3,a4,a5,hb];exact aH
      |false=>
       have yK:¬(l.gate<0):=of_decide_eq_false a1;have BH:¬(f<l.gate):=of_decide_eq_false a2;have hb:dj f l=false:=by simp only[dj,k1,a1,a2,a3,a4,a5];rfl
       simp only[go_sem,i86,k1,yK,BH,a3,a4,a5,hb];exact aH
 |false=>
  cases k2:(l.kind==2) with
  |true=>
   cases a1:(l.gate !=0) with
   |true=>
    have hb:dj f l=true:=by simp only[dj,k1,k2,a1];rfl
    simp only[go_sem,i86,k1,k2,a1,hb]
   |false=>
    cases a2:(l.aB !=0) with
    |true=>
     have hb:dj f l=true:=by simp only[dj,k1,k2,a1,a2];rfl
     simp only[go_sem,i86,k1,k2,a1,a2,hb]
    |false=>
     cases a3:(l.sign !=1) with
     |true=>
      cases a4:(l.sign != -1) with
      |true=>
       have hb:dj f l=true:=by simp only[dj,k1,k2,a1,a2,a3,a4];rfl
       simp only[go_sem,i86,k1,k2,a1,a2,a3,a4,hb]
      |false=>
       have hb:dj f l=false:=by simp only[dj,k1,k2,a1,a2,a3,a4];rfl
       simp only[go_sem,i86,k1,k2,a1,a2,a3,a4,hb]
     |false=>
      have hb:dj f l=false:=by simp only[dj,k1,k2,a1,a2,a3];rfl
      simp only[go_sem,i86,k1,k2,a1,a2,a3,hb]
  |false=>
   have hb:dj f l=true:=by simp only[dj,k1,k2];rfl
   simp only[go_sem,i86,k1,k2,hb]
abbrev dfn(f:Int)(x1 x2 x3 x4 x5 x6:PV):PV:=.fn 86 [] [.box [.box [.int .i64 f,x1,x2,x3,x4,x5,x6]]]
theorem aiW(f:Int)(ls:List Let)(x1 x2 x3 x4 x5 x6:PV)(hl:ls.length<=1000000)(hn:x1.norm=x1/\x2.norm=x2/\x3.norm=x3/\x4.norm=x4/\x5.norm=x5/\x6.norm=x6):
  ∃k:Int,(0<=k↔ls.any (dj f)=true)/\aI S 102 [.one (.p (cP ls)),.one (.p (dfn f x1 x2 x3 x4 x5 x6))] (ri k):=by
 have main:∀r:Int,(∀(k:Nat) l,ls[k]?=some l->dj f l=true->(∀(j:Nat) m,j<k->ls[j]?=some m->dj f m=false)->r=k)->((∀(j:Nat) m,ls[j]?=some m->dj f m=false)->r= -1)->
   aI S 102 [.one (.p (cP ls)),.one (.p (dfn f x1 x2 x3 x4 x5 x6))] (ri r):=by
  intro r ky sN;refine aY c102 ?_;simp only[go_sem,i102];refine cV (fun k ak aj=>ak 0=.one (.p (cP ls))/\ak 1=.one (.p (dfn f x1 x2 x3 x4 x5 x6))/\ak 7=vi ls.length/\ak 8=vi k/\ ∀j m,j<k->ls[j]?=some m->dj f m=false) 0 ls.length (bd _) ?_ ?_
  .simp only[go_sem];exact⟨rfl,fun j m h=>absurd h (qE j)⟩
  rintro k ak aj hk ⟨h0,h1,h7,h8,hn⟩
  by_cases aw:k<ls.length
  .obtain⟨l,dO⟩:=aK aw;have hi:=mL dO;have aL:((k:Int)<(ls.length:Int)):=aa;have w1:=cK (n:=k) aa;have pb:=aiV f l x1 x2 x3 x4 x5 x6;cases hb:dj f l with
   |true=>rw[hb] at pb;have hr:=ky k l dO hb hn;subst hr;simp only[go_sem,i102_l1,h0,h1,h7,h8,hi,Let.ps,aL,s86,cS pb]
   |false=>
    rw[hb] at pb;simp only[go_sem,i102_l1,h0,h1,h7,h8,hi,Let.ps,aL,w1,s86,cS pb];refine⟨aw,fun j m hj hm=>?_⟩;rcases pV.1 hj with hj|rfl
    .exact hn j m hj hm
    rw[dO] at hm;cases hm;exact hb
  have:k=ls.length:=aa;subst this;have hr:=sN fun j m hm=>hn j m (aS.1 hm).1 hm;subst hr;simp only[go_sem,i102_l1,i102_r2,h7,h8,eK]
 cases ha:ls.any (dj f) with
 |true=>
  have hx:ls.findIdx (dj f)<ls.length:=List.findIdx_lt_length_of_exists (by simpa using ha);refine⟨(ls.findIdx (dj f):Nat),⟨fun _=>rfl,fun _=>aa⟩,main _ ?_ ?_⟩
  .intro k l dO hb hn;have hk:=(aS.1 dO).1;have h1:dj f ls[ls.findIdx (dj f)]=true:=List.findIdx_getElem;rcases Nat.lt_trichotomy (ls.findIdx (dj f)) k with h|h|h
   .have:=hn _ _ h (nG hx);rw[h1] at this;cases this
   .rw[h]
   have:=List.not_of_lt_findIdx h;have e:ls[k]=l:=by rw[nG hk] at dO;exact qF dO
   rw[e,hb] at this;simp at this
  intro hn;have h1:dj f ls[ls.findIdx (dj f)]=true:=List.findIdx_getElem;have:=hn _ _ (nG hx);rw[h1] at this;cases this
 |false=>refine⟨-1,⟨fun h=>aa,fun h=>by cases h⟩,main _ ?_ (fun _=>rfl)⟩;intro k l dO hb _;have:=Dt.1 ha l (aU dO);exact(this hb).elim
theorem ajR(f:Int)(ls:List Let)(x1 x2 x3 x4 x5 x6:PV)(hl:ls.length<=1000000)(hn:x1.norm=x1/\x2.norm=x2/\x3.norm=x3/\x4.norm=x4/\x5.norm=x5/\x6.norm=x6):
  aI S 85 [.one (.p (cP ls)),.one (.p (dfn f x1 x2 x3 x4 x5 x6))] (rb (ls.any (dj f))):=by
 obtain⟨k,hk,pk⟩:=aiW f ls x1 x2 x3 x4 x5 x6 hl hn;refine aY c85 ?_;cases ha:ls.any (dj f) with
 |true=>have h0:=hk.2 ha;simp only[go_sem,i85,s102,eH pk,h0]
 |false=>
  have h0:¬0<=k:=fun h=>by rw[hk.1 h] at ha;cases ha
  simp only[go_sem,i85,s102,eH pk,h0]
abbrev dgP(f:Int)(ls:List Let)(x2 x3 x4 x5 x6:PV):PV:=.box [.int .i64 f,cP ls,x2,x3,x4,x5,x6]
theorem akn(f:Int)(ls:List Let)(x2 x3 x4 x5 x6:PV)(hl:ls.length<=1000000)(hn:x2.norm=x2/\x3.norm=x3/\x4.norm=x4/\x5.norm=x5/\x6.norm=x6):
  aI S 61 [.one (.p (dgP f ls x2 x3 x4 x5 x6))] (rb (!ls.any (dj f))):=by
 have pc:=ajR f ls (cP ls) x2 x3 x4 x5 x6 hl ⟨rfl,hn.1,hn.2.1,hn.2.2.1,hn.2.2.2.1,hn.2.2.2.2⟩;refine aY c61 ?_;simp only[go_sem,i61,s85,cS pc]
theorem akh(f:Int)(ls:List Let)(l0:Let)(x2 x3 x4 x5 x6:PV)(hl:ls.length<=1000000)(h0:ls[0]?=some l0):
  aI S 62 [.one (.p (dgP f ls x2 x3 x4 x5 x6))] (rb (l0.kind==1&&ay Let.aA ls%2==0)):=by
 have pp:=Wv f ls hl;have hi0:=mL h0;refine aY c62 ?_;have e2:((((ay Let.aA ls)%2:Nat):Int)==0)=(ay Let.aA ls%2==0):=by
  cases h:(ay Let.aA ls%2==0) with
  |true=>simp at h ⊢;omega
  |false=>simp at h ⊢;omega
 cases hk:(l0.kind==1) with
 |true=>simp only[go_sem,i62,hi0,Let.ps,hk,s87,eH pp,pQ,iI,e2]
 |false=>simp only[go_sem,i62,hi0,Let.ps,hk]
def mU(g:Nat)(l:Let):Bool:=l.aA&&l.gate==(g:Int)
abbrev cg(ls:List Let)(g:Nat):Nat:=ay (mU g) ls
def rH(ls:List Let)(F k:Nat):List Nat:=(List.range (F+1)).map fun g=>cg (ls.take k) g
def counts(ls:List Let)(F:Nat):List Nat:=(List.range (F+1)).map (cg ls)
theorem Zp{ls:List Let}{k G:Nat}(h:G<=F):(rH ls F k)[G]?=some (cg (ls.take k) G):=by simp[rH,te (show G<F+1 by omega)]
theorem SL(ls:List Let)(F:Nat):rH ls F ls.length=counts ls F:=by simp[rH,counts]
theorem SM(ls:List Let)(F:Nat):rH ls F 0=List.replicate (F+1) 0:=by apply w5<;>simp[rH]
theorem Zr{ls:List Let}{k:Nat}{l:Let}(h:ls[k]?=some l)(hp:l.aA=false):rH ls F (k+1)=rH ls F k:=by unfold rH;congr 1;funext g;exact HN h (by simp[mU,hp])
theorem Zq{ls:List Let}{k G:Nat}{l:Let}(h:ls[k]?=some l)(hp:l.aA=true)(hg:l.gate=(G:Int)):
  rH ls F (k+1)=(rH ls F k).set G (cg (ls.take k) G+1):=by
 apply w5
 .simp[rH]
 intro i h1 h2;rw[Kt];simp only[rH,Dw,Ks];split
 .rename_i e;subst e;exact KP h (by simp[mU,hp,hg])
 exact HN h (by simp[mU,hg];intro _ e;omega)
theorem Jl(o:List Nat)(k n:Nat):(nP o).set k [.int .i64 (n:Int)]=nP (o.set k n):=by simp[List.map_set]
theorem Wn(o:List Nat):(nP o).length=o.length:=af
theorem Wo(n m:Nat):nP (List.replicate n m)=List.replicate n [.int .i64 (m:Int)]:=af
theorem Yq(n:Nat)(b:Bool):bP (List.replicate n b)=List.replicate n [.bool b]:=af
theorem KV{ls:List Let}{k:Nat}{l:Let}(h:ls[k]?=some l)(hp:l.aA=true):dn ls (k+1)= !dn ls k:=by
 unfold dn;rw[KP h hp];cases hc:(ay Let.aA (ls.take k)%2==0) with
 |true=>simp at hc ⊢;omega
 |false=>simp at hc ⊢;omega
theorem KW{ls:List Let}{k:Nat}{l:Let}(h:ls[k]?=some l)(hp:l.aA=false):dn ls (k+1)=dn ls k:=by unfold dn;rw[HN h hp]
def im(ls:List Let)(i:Nat):Bool:=match ls[i]? with|some l=>l.aA&&dn ls i|none=>false
def tv(ls:List Let)(k:Nat):List Bool:=(List.range ls.length).map fun i=>decide (i<k)&&im ls i
def j5(ls:List Let):List Bool:=(List.range ls.length).map (im ls)
theorem aku(ls:List Let):tv ls 0=List.replicate ls.length false:=by apply w5<;>simp[tv]
theorem akq(ls:List Let):tv ls ls.length=j5 ls:=by unfold tv j5;apply vH;intro i hi;simp[fm.1 hi]
theorem aks(ls:List Let)(k:Nat):(tv ls k).length=ls.length:=by simp[tv]
theorem akt{ls:List Let}{k:Nat}{l:Let}(h:ls[k]?=some l)(hp:l.aA=false):tv ls (k+1)=tv ls k:=by
 unfold tv;apply vH;intro i hi;by_cases e:i=k
 .subst e;simp[im,h,hp]
 have:(i<k+1)↔(i<k):=aa;simp[this]
theorem akr{ls:List Let}{k:Nat}{l:Let}(h:ls[k]?=some l)(hp:l.aA=true):tv ls (k+1)=(tv ls k).set k (dn ls k):=by
 apply w5
 .simp[tv]
 intro i h1 h2;rw[Kt];simp only[tv,Dw,Ks];split
 .rename_i e;subst e;simp[im,h,hp]
 have:(i<k+1)↔(i<k):=aa;simp[this]
def fv(ls:List Let)(g:Nat):Nat:=((List.range g).map (cg ls)).sum
theorem tC(ls:List Let)(g:Nat):fv ls (g+1)=fv ls g+cg ls g:=by simp[fv,w8]
def vZ(ls:List Let)(F k:Nat):List Nat:=(List.range (F+1)).map fun g=>if g<k then fv ls g else 0
def Ii(ls:List Let)(F:Nat):List Nat:=(List.range (F+1)).map (fv ls)
theorem alv(ls:List Let)(F:Nat):vZ ls F 0=List.replicate (F+1) 0:=by apply w5<;>simp[vZ]
theorem alr(ls:List Let)(F:Nat):vZ ls F (F+1)=Ii ls F:=by unfold vZ Ii;apply vH;intro i hi;simp[fm.1 hi]
theorem als(ls:List Let)(F k:Nat):(vZ ls F k).length=F+1:=by simp[vZ]
theorem alu(ls:List Let)(F k:Nat):vZ ls F (k+1)=(vZ ls F k).set k (fv ls k):=by
 apply w5
 .simp[vZ]
 intro i h1 h2;rw[Kt];simp only[vZ,Dw,Ks];by_cases e:k=i
 .subst e;simp
 have:(i<k+1)↔(i<k):=aa;simp only[this,if_neg e]
theorem Oq{ls:List Let}{G:Nat}(h:G<=F):(counts ls F)[G]?=some (cg ls G):=by simp[counts,te (show G<F+1 by omega)]
theorem alw{ls:List Let}{G:Nat}(h:G<=F):(Ii ls F)[G]?=some (fv ls G):=by simp[Ii,te (show G<F+1 by omega)]
theorem Aj{ls:List Let}{a b:Nat}(h:a<=b):fv ls a<=fv ls b:=by
 induction h with
 |refl=>exact aX _
 |step _ ih=>rw[tC];omega
theorem aiE(g:Nat)(a:Let):((a.aA&&(decide (0<=a.gate)&&decide (a.gate<((g+1:Nat):Int))))=true)↔((a.aA&&(decide (0<=a.gate)&&decide (a.gate<(g:Int))))=true\/mU g a=true):=by
 simp only[mU,cH,decide_eq_true_eq,beq_iff_eq];constructor
 .rintro ⟨h1,h2,h3⟩
  by_cases h:a.gate=(g:Int)
  .exact Or.inr ⟨h1,h⟩
  exact Or.inl ⟨h1,h2,aa⟩
 rintro (⟨h1,h2,h3⟩|⟨h1,h2⟩)
 .exact⟨h1,h2,aa⟩
 exact⟨h1,aa,aa⟩
theorem aiD(g:Nat)(a:Let):(a.aA&&(decide (0<=a.gate)&&decide (a.gate<(g:Int))))=true->mU g a=true->False:=by simp only[mU,cH,decide_eq_true_eq,beq_iff_eq];omega
theorem SK{p q r:Let->Bool}(h:∀a,r a=true↔(p a=true\/q a=true))(hn:∀a,p a=true->q a=true->False):∀ls:List Let,ls.countP r=ls.countP p+ls.countP q:=by
 intro ls
 induction ls with
 |nil=>rfl
 |cons a ls ih=>rw[wZ,wZ,wZ,ih];have h1:=h a;have h2:=hn a;cases ep:p a<;>cases eq:q a<;>cases er:r a<;>simp_all<;>omega
theorem abh(ls:List Let):∀g,fv ls g=ay (fun l=>l.aA&&(decide (0<=l.gate)&&decide (l.gate<((g:Nat):Int)))) ls:=by
 intro g
 induction g with
 |zero=>symm;show ls.countP _=0;rw[Hf];intro a _;simp only[cH,decide_eq_true_eq];omega
 |succ g ih=>rw[tC,ih];exact(SK (aiE g) (aiD g) ls).symm
theorem UQ(ls:List Let)(g:Nat):fv ls g<=ls.length:=by rw[abh];exact xx _ _
def dM(ls:List Let)(l:Let):Nat:=fv ls l.gate.toNat+l.aB.toNat-1
def sI(ls:List Let)(p i:Nat):Bool:=match ls[i]? with|some l=>l.aA&&dM ls l==p|none=>false
def wW(ls:List Let)(T k:Nat):List Bool:=(List.range T).map fun p=>(List.range k).any (sI ls p)
def axP(ls:List Let)(k p:Nat):Nat:=((List.range k).find? (sI ls p)).getD 0
def sC(ls:List Let)(T k:Nat):List Nat:=(List.range T).map (axP ls k)
def Bb(ls:List Let)(i:Nat):Nat:=match ls[i]? with|some l=>if l.aA then dM ls l else 0|none=>0
def jB(ls:List Let)(k:Nat):List Nat:=(List.range ls.length).map fun i=>if i<k then Bb ls i else 0
def sY(ls:List Let)(i:Nat):Bool:=match ls[i]? with
 |some l=> !l.aA||(decide (1<=l.aB)&&decide (l.aB<=(cg ls l.gate.toNat:Int)))&& !(List.range i).any (sI ls (dM ls l))
 |none=>true
def yv(ls:List Let):Bool:=(List.range ls.length).all (sY ls)
theorem atW(ls:List Let)(T:Nat):wW ls T 0=List.replicate T false:=by apply w5<;>simp[wW]
theorem aiH(ls:List Let)(T:Nat):sC ls T 0=List.replicate T 0:=by apply w5<;>simp[sC,axP]
theorem aqq(ls:List Let):jB ls 0=List.replicate ls.length 0:=by apply w5<;>simp[jB]
theorem Yj(ls:List Let)(T k:Nat):(sC ls T k).length=T:=by simp[sC]
theorem aqo(ls:List Let)(k:Nat):(jB ls k).length=ls.length:=by simp[jB]
theorem atT{ls:List Let}{T k p:Nat}(h:p<T):(wW ls T k)[p]?=some ((List.range k).any (sI ls p)):=by simp[wW,h]
theorem aca{ls:List Let}{k p:Nat}{l:Let}(h:ls[k]?=some l)(hp:l.aA=false):sI ls p k=false:=by simp[sI,h,hp]
theorem atV{ls:List Let}{T k:Nat}{l:Let}(h:ls[k]?=some l)(hp:l.aA=false):wW ls T (k+1)=wW ls T k:=by unfold wW;congr 1;funext p;simp[w8,List.any_append,aca h hp]
theorem aiG{ls:List Let}{T k:Nat}{l:Let}(h:ls[k]?=some l)(hp:l.aA=false):sC ls T (k+1)=sC ls T k:=by unfold sC;congr 1;funext p;simp[axP,w8,List.find?_append,aca h hp]
theorem aqp{ls:List Let}{k:Nat}{l:Let}(h:ls[k]?=some l)(hp:l.aA=false):jB ls (k+1)=jB ls k:=by
 unfold jB;apply vH;intro i hi;by_cases e:i=k
 .subst e;simp[Bb,h,hp]
 have:(i<k+1)↔(i<k):=aa;simp[this]
theorem Me{ls:List Let}{k p:Nat}{l:Let}(h:ls[k]?=some l)(hp:l.aA=true):sI ls p k=(dM ls l==p):=by simp[sI,h,hp]
theorem atU{ls:List Let}{T k:Nat}{l:Let}(h:ls[k]?=some l)(hp:l.aA=true):wW ls T (k+1)=(wW ls T k).set (dM ls l) true:=by
 apply w5
 .simp[wW]
 intro i h1 h2;rw[Kt];simp only[wW,Dw,Ks,w8,List.any_append,List.any_cons,List.any_nil,Bool.or_false,Me h hp];split
 .rename_i e;simp[e]
 rename_i e;simp[e]
theorem aiF{ls:List Let}{T k:Nat}{l:Let}(h:ls[k]?=some l)(hp:l.aA=true)(hn:(List.range k).any (sI ls (dM ls l))=false):sC ls T (k+1)=(sC ls T k).set (dM ls l) k:=by
 apply w5
 .simp[sC]
 intro i h1 h2;rw[Kt];simp only[sC,Dw,Ks,axP,w8,List.find?_append];by_cases e:dM ls l=i
 .have h3:(List.range k).find? (sI ls i)=none:=by
   rw[<- e,Hh];intro x hx hq;rw[Dt] at hn;exact hn x hx hq
  have h4:sI ls i k=true:=by rw[Me h hp];simp[e]
  rw[h3,if_pos e,List.find?_cons,h4];rfl
 have h4:sI ls i k=false:=by rw[Me h hp];simp[e]
 rw[if_neg e,List.find?_cons,h4];simp
theorem aqn{ls:List Let}{k:Nat}{l:Let}(h:ls[k]?=some l)(hp:l.aA=true):jB ls (k+1)=(jB ls k).set k (dM ls l):=by
 apply w5
 .simp[jB]
 intro i h1 h2;rw[Kt];simp only[jB,Dw,Ks];by_cases e:k=i
 .subst e;simp[Bb,h,hp]
 have:(i<k+1)↔(i<k):=aa;simp only[this,if_neg e]
theorem WJ{ls:List Let}{k:Nat}(hk:k<ls.length)(h:sY ls k=false):yv ls=false:=by unfold yv;rw[List.all_eq_false];exact⟨k,fm.2 hk,by simp[h]⟩
theorem arl{ls:List Let}(h:∀i,i<ls.length->sY ls i=true):yv ls=true:=by unfold yv;rw[jf];exact fun i hi=>h i (fm.1 hi)
abbrev Hr(id:Nat):Prop:=id=1344320128\/je id=63
abbrev uW(F:Nat)(ls:List Let)(c2 c3 c4 c5 c6:C):List C:=[.p (.int .i64 (F:Int)),.p (cP ls),c2,c3,c4,c5,c6]
abbrev hs(id g n:Nat):C:=.hsl id g 1 0 n
abbrev qe(F:Nat)(ls:List Let):Prop:=∀l∈ls,l.aA=true->0<=l.gate/\l.gate<=(F:Int)
def JJ(F:Nat)(ls:List Let)(g:Nat)(c5:C)(kI:aq)(v:V)(ao:aq):Prop:=
 v=vb (yv ls)/\Kept Hr kI ao/\(yv ls=true->∃g1 g2 g3 g5,ao 1344320128=(g,some (.var (uW F ls (hs 4032128448 g2 ls.length) (hs 4033344128 g5 (fv ls (F+1))) (hs 4032192448 g3 ls.length) c5 (hs 4032064448 g1 (F+1)))))/\
  ao 4032064448=(g1,some (.arr 3 1 (nP (counts ls F))))/\ao 4032128448=(g2,some (.arr 4 1 (bP (j5 ls))))/\ao 4032192448=(g3,some (.arr 3 1 (nP (jB ls ls.length))))/\
  ao 4033344128=(g5,some (.arr 3 1 (nP (sC ls (fv ls (F+1)) ls.length)))))
theorem rk3{al:Al}(okD:al.ok 1344320128=true)(ok:∀id,je id=63->al.ok id=true){kI aj:aq}{ak:Env}{g g1 g2 g3 g4 F:Nat}{ls:List Let}{c3 c5:C}(hl:ls.length<=1000000)(hF:F<=1000000)(hg:qe F ls)
  (h0:ak 0=.one (.bk 1344320128 g 0)) (h6:ak 6=.one (hs 4032832384 g4 (F+1))) (h7:ak 7=vi (fv ls (F+1)))
  (bD:aj 1344320128=(g,some (.var (uW F ls (hs 4032128448 g2 ls.length) c3 (hs 4032192448 g3 ls.length) c5 (hs 4032064448 g1 (F+1))))))
  (bC:aj 4032064448=(g1,some (.arr 3 1 (nP (counts ls F))))) (bW:aj 4032128448=(g2,some (.arr 4 1 (bP (j5 ls))))) (oO:aj 4032192448=(g3,some (.arr 3 1 (nP (jB ls 0)))))
  (bF:aj 4032832384=(g4,some (.arr 3 1 (nP (Ii ls F))))) (hk:Kept Hr kI aj):W S al i63_r5 (lE al [(2,none)] (JJ F ls g c5 kI)) ak aj:=by
 have o1:=ok 4032064448 rfl;have o2:=ok 4032128448 rfl;have o3:=ok 4032192448 rfl;have o4:=ok 4032448192 rfl;have o5:=ok 4032832384 rfl;have o6:=ok 4033344128 rfl;have o7:=ok 4033408064 rfl;have o8:=ok 4033600192 rfl;have hT:=UQ ls (F+1);have MI:fv ls (F+1)*8<=140737488355328:=aa;have ky:fv ls (F+1)<=140737488355328:=aa;simp only[go_sem,i63_r5,h0,h7,bD,MI,ky,okD,o6,o7];refine cV (fun k ak ao=>ak 0=.one (.bk 1344320128 g 0)/\ak 6=.one (hs 4032832384 g4 (F+1))/\ak 10=.one (hs 4033408064 ((aj 4033408064).1+1) (fv ls (F+1)))/\ak 114=.one (.p (cP ls))/\ak 115=vi ls.length/\ak 116=vi k/\
  ao 1344320128=(g,some (.var (uW F ls (hs 4032128448 g2 ls.length) (hs 4033344128 ((aj 4033344128).1+1) (fv ls (F+1))) (hs 4032192448 g3 ls.length) c5 (hs 4032064448 g1 (F+1)))))/\
  ao 4032064448=(g1,some (.arr 3 1 (nP (counts ls F))))/\ao 4032128448=(g2,some (.arr 4 1 (bP (j5 ls))))/\ao 4032192448=(g3,some (.arr 3 1 (nP (jB ls k))))/\
  ao 4032832384=(g4,some (.arr 3 1 (nP (Ii ls F))))/\ao 4033344128=((aj 4033344128).1+1,some (.arr 3 1 (nP (sC ls (fv ls (F+1)) k))))/\ao 4033408064=((aj 4033408064).1+1,some (.arr 4 1 (bP (wW ls (fv ls (F+1)) k))))/\
  (∀i,i<k->sY ls i=true)/\Kept Hr kI ao) 0 ls.length (bd _) ?_ ?_
 .simp only[go_sem,h0,h6,bC,bW,oO,bF,aiH,atW,Wo,Yq];refine⟨rfl,rfl,fun i h=>absurd h (qE i),?_⟩;repeat(first|exact hk|refine Kept.dB ?_ (by first|exact Or.inl rfl|exact Or.inr rfl) _)
 rintro k ak ao hk ⟨h0,h6,dF,Lr,Iu,D0,bD,bC,bW,oO,bF,bA,bT,au,dd⟩
 by_cases aw:k<ls.length
 .obtain⟨l,dO⟩:=aK aw;have hi:=mL dO;have aL:((k:Int)<(ls.length:Int)):=aa;have w1:=cK (n:=k) aa;cases hp:(l.kind==1) with
  |false=>
   have gO:l.aA=false:=hp;have qV:(l.kind !=1)=true:=by simp[bne,hp]
   have kz:sY ls k=true:=by simp[sY,dO,gO]
   simp only[go_sem,i63_l3,h0,h6,dF,Lr,Iu,D0,bD,bC,bW,bF,oO,bA,bT,hi,Let.ps,aL,qV,w1,o8];refine⟨aw,?_,?_,?_,?_,?_⟩
   .rw[aqp dO gO]
   .rw[aiG dO gO]
   .rw[atV dO gO]
   .intro i hi;rcases pV.1 hi with h|rfl
    .exact au i h
    exact kz
   repeat(first|exact dd|refine Kept.dB ?_ (by first|exact Or.inl rfl|exact Or.inr rfl) _)
  |true=>
   have gO:l.aA=true:=hp;have qV:(l.kind !=1)=false:=by simp[bne,hp]
   obtain⟨Ek,Cx⟩:=hg l (aU dO) gO;obtain⟨G,hG⟩:=r8 Ek;have Iy:G<=F:=aa;have F2:G<F+1:=aa;have wv:=kQ (Oq (ls:=ls) Iy);have Av:=kQ (alw (ls:=ls) Iy);have kx:l.gate.toNat=G:=aa;cases r1:decide (l.aB<1) with
   |true=>have r6:l.aB<1:=of_decide_eq_true r1;have r1n:¬1<=l.aB:=aa;have dz:=WJ aw (show sY ls k=false by simp[sY,dO,gO,r1n]);simp only[go_sem,i63_l3,Lr,Iu,D0,hi,Let.ps,aL,qV,r6,o8];refine⟨aH,?_⟩;unfold JJ;refine⟨by rw[dz],?_,fun h=>by rw[dz] at h;cases h⟩;repeat(first|exact dd|refine Kept.dB ?_ (by first|exact Or.inl rfl|exact Or.inr rfl) _)
   |false=>
    have r6:¬l.aB<1:=of_decide_eq_false r1;obtain⟨R,hR⟩:=r8 (show 0<=l.aB by omega);have r1R:¬((R:Int)<1):=aa;cases r2:decide ((cg ls G:Int)<(R:Int)) with
    |true=>
     have sW:(cg ls G:Int)<(R:Int):=of_decide_eq_true r2;have r2n:¬l.aB<=(cg ls l.gate.toNat:Int):=by rw[kx];omega
     have dz:=WJ aw (show sY ls k=false by simp[sY,dO,gO,r2n]);simp only[go_sem,i63_l3,h0,Lr,Iu,D0,bD,bC,hi,Let.ps,aL,qV,hR,hG,r1R,sW,wv,F2,okD,o1,o8];refine⟨aH,?_⟩;unfold JJ;refine⟨by rw[dz],?_,fun h=>by rw[dz] at h;cases h⟩;repeat(first|exact dd|refine Kept.dB ?_ (by first|exact Or.inl rfl|exact Or.inr rfl) _)
    |false=>
     have sW:¬(cg ls G:Int)<(R:Int):=of_decide_eq_false r2;have hfle:=UQ ls G;have hmono:=Aj (ls:=ls) (show G+1<=F+1 by omega);have tJ:=tC ls G;have hPT:dM ls l<fv ls (F+1):=by unfold dM;rw[kx];omega
     have bK:fv ls G+R-1=dM ls l:=by unfold dM;rw[kx];omega
     have bQ:cg ls G<=ls.length:=xx _ _;have w2:=wrap_add (a:=fv ls G) (b:=R) aa;have w3:=Kj (a:=fv ls G+R) aa aa;rw[bK] at w3;have hta:=uq (atT (ls:=ls) (k:=k) hPT);cases hu:(List.range k).any (sI ls (dM ls l)) with
     |true=>rw[hu] at hta;have dz:=WJ aw (show sY ls k=false by simp[sY,dO,gO,hu]);simp only[go_sem,i63_l3,h0,h6,dF,Lr,Iu,D0,bD,bC,bF,bT,hi,Let.ps,aL,qV,hR,hG,r1R,sW,wv,Av,F2,w2,w3,hta,hPT,okD,o1,o5,o7,o8];refine⟨aH,aH,?_⟩;unfold JJ;refine⟨by rw[dz],?_,fun h=>by rw[dz] at h;cases h⟩;repeat(first|exact dd|refine Kept.dB ?_ (by first|exact Or.inl rfl|exact Or.inr rfl) _)
     |false=>
      rw[hu] at hta;have kz:sY ls k=true:=by
       have e1:1<=l.aB:=aa;have e2:l.aB<=(cg ls l.gate.toNat:Int):=by rw[kx];omega
       simp[sY,dO,e1,e2,hu]
      obtain⟨a0,wg⟩:=aK (show dM ls l<(sC ls (fv ls (F+1)) k).length by rw[Yj];exact hPT);obtain⟨p0,wG⟩:=aK (show k<(jB ls k).length by rw[aqo];exact aw);have wg:=kQ wg;have wG:=kQ wG;have s1:=KH (wW ls (fv ls (F+1)) k) (dM ls l) true;rw[<- atU dO gO] at s1;have s2:=Jl (sC ls (fv ls (F+1)) k) (dM ls l) k;rw[<- aiF dO gO hu] at s2;have s3:=Jl (jB ls k) k (dM ls l);rw[<- aqn dO gO] at s3;simp only[go_sem,i63_l3,h0,h6,dF,Lr,Iu,D0,bD,bC,bW,bF,oO,bA,bT,hi,Let.ps,aL,aw,qV,w1,hR,hG,r1R,sW,wv,Av,F2,w2,w3,hta,hPT,wg,wG,s1,s2,s3,okD,o1,o3,o5,o6,o7,o8];refine⟨aH,aH,aH,?_,?_⟩
      .intro i hi;rcases pV.1 hi with h|rfl
       .exact au i h
       exact kz
      repeat(first|exact dd|refine Kept.dB ?_ (by first|exact Or.inl rfl|exact Or.inr rfl) _)
 have:k=ls.length:=aa;subst this;have hr:=arl au;simp only[go_sem,i63_l3,i63_r4,Iu,D0,eK];exact⟨by rw[hr],dd,fun _=>⟨g1,g2,g3,(aj 4033344128).1+1,bD,bC,bW,oO,bA⟩⟩
theorem rk2{al:Al}(okD:al.ok 1344320128=true)(ok:∀id,je id=63->al.ok id=true){kI aj:aq}{ak:Env}{g g1 g2 g3 F:Nat}{ls:List Let}{c3 c5:C}(hl:ls.length<=1000000)(hF:F<=1000000)(hg:qe F ls)
  (h0:ak 0=.one (.bk 1344320128 g 0))
  (bD:aj 1344320128=(g,some (.var (uW F ls (hs 4032128448 g2 ls.length) c3 (hs 4032192448 g3 ls.length) c5 (hs 4032064448 g1 (F+1))))))
  (bC:aj 4032064448=(g1,some (.arr 3 1 (nP (counts ls F))))) (bW:aj 4032128448=(g2,some (.arr 4 1 (bP (j5 ls))))) (oO:aj 4032192448=(g3,some (.arr 3 1 (nP (jB ls 0)))))
  (hk:Kept Hr kI aj):W S al i63_r6 (lE al [(2,none)] (JJ F ls g c5 kI)) ak aj:=by
 have o1:=ok 4032064448 rfl;have o2:=ok 4032128448 rfl;have o3:=ok 4032192448 rfl;have o4:=ok 4032448192 rfl;have o5:=ok 4032832384 rfl;have o6:=ok 4033344128 rfl;have o7:=ok 4033408064 rfl;have o8:=ok 4033600192 rfl;have MI:(F+1)*8<=140737488355328:=aa;have wF:=cK (n:=F) aa;simp only[go_sem,i63_r6,h0,bD,wF,MI,okD,o5];refine cV (fun k ak ao=>ak 0=.one (.bk 1344320128 g 0)/\ak 6=.one (hs 4032832384 ((aj 4032832384).1+1) (F+1))/\ak 7=vi (fv ls k)/\ak 88=.one (hs 4032064448 g1 (F+1))/\ak 89=vi ((F+1:Nat):Int)/\ak 90=vi k/\
  ao 1344320128=(g,some (.var (uW F ls (hs 4032128448 g2 ls.length) c3 (hs 4032192448 g3 ls.length) c5 (hs 4032064448 g1 (F+1)))))/\
  ao 4032064448=(g1,some (.arr 3 1 (nP (counts ls F))))/\ao 4032128448=(g2,some (.arr 4 1 (bP (j5 ls))))/\ao 4032192448=(g3,some (.arr 3 1 (nP (jB ls 0))))/\
  ao 4032832384=((aj 4032832384).1+1,some (.arr 3 1 (nP (vZ ls F k))))/\Kept Hr kI ao) 0 (F+1) (bd _) ?_ ?_
 .simp only[go_sem,h0,bD,bC,bW,oO,alv,Wo];refine⟨rfl,rfl,rfl,?_⟩;repeat(first|exact hk|refine Kept.dB ?_ (by first|exact Or.inl rfl|exact Or.inr rfl) _)
 rintro k ak ao hk ⟨h0,h6,h7,h88,h89,h90,bD,bC,bW,oO,bF,dd⟩
 by_cases aw:k<F+1
 .have aL:((k:Int)<((F+1:Nat):Int)):=aa;have w1:=cK (n:=k) aa;have hc:=kQ (Oq (ls:=ls) (show k<=F by omega));obtain⟨a0,ha⟩:=aK (show k<(vZ ls F k).length by rw[als];exact aw);have ha:=kQ ha;have s1:=Jl (vZ ls F k) k (fv ls k);rw[<- alu] at s1;have hs:=tC ls k;have hle:=UQ ls (k+1);have w2:=wrap_add (a:=fv ls k) (b:=cg ls k) aa;rw[<- hs] at w2;simp only[go_sem,i63_l2,h0,h6,h7,h88,h89,h90,bD,bC,bW,oO,bF,aw,aL,hc,ha,s1,w1,w2,o1,o5];repeat(first|exact dd|refine Kept.dB ?_ (by first|exact Or.inl rfl|exact Or.inr rfl) _)
 have:k=F+1:=aa;subst this;simp only[go_sem,i63_l2,h89,h90,eK];exact rk3 okD ok hl hF hg h0 h6 h7 bD bC bW oO (by rw[bF,alr]) dd
theorem ark{al:Al}(okD:al.ok 1344320128=true)(ok:∀id,je id=63->al.ok id=true){aj:aq}{g F:Nat}{ls:List Let}{c2 c3 c4 c5 c6:C}(hl:ls.length<=1000000)(hF:F<=1000000)(hg:qe F ls)
  (bD:aj 1344320128=(g,some (.var (uW F ls c2 c3 c4 c5 c6)))):∃v ao,iJ S 63 [.one (.bk 1344320128 g 0)] al aj v ao/\JJ F ls g c5 aj v ao:=by
 have o1:=ok 4032064448 rfl;have o2:=ok 4032128448 rfl;have o3:=ok 4032192448 rfl;have o4:=ok 4032448192 rfl;have o5:=ok 4032832384 rfl;have o6:=ok 4033344128 rfl;have o7:=ok 4033408064 rfl;have o8:=ok 4033600192 rfl;refine mr c63 (gY rfl) ?_;have MI:(F+1)*8<=140737488355328:=aa;have hn8:ls.length*8<=140737488355328:=aa;have xV:ls.length<=140737488355328:=aa;have wF:=cK (n:=F) aa;simp only[go_sem,i63,bD,wF,MI,hn8,xV,okD,o1,o2,o3];refine cV (fun k ak ao=>ak 0=.one (.bk 1344320128 g 0)/\ak 3=vb (dn ls k)/\ak 48=.one (.p (cP ls))/\ak 49=vi ls.length/\ak 50=vi k/\
  ao 1344320128=(g,some (.var (uW F ls (hs 4032128448 ((aj 4032128448).1+1) ls.length) c3 (hs 4032192448 ((aj 4032192448).1+1) ls.length) c5 (hs 4032064448 ((aj 4032064448).1+1) (F+1)))))/\
  ao 4032064448=((aj 4032064448).1+1,some (.arr 3 1 (nP (rH ls F k))))/\ao 4032128448=((aj 4032128448).1+1,some (.arr 4 1 (bP (tv ls k))))/\ao 4032192448=((aj 4032192448).1+1,some (.arr 3 1 (nP (jB ls 0))))/\
  Kept Hr aj ao) 0 ls.length (bd _) ?_ ?_
 .simp only[go_sem,bD,SM,aku,aqq,Wo,Yq];refine⟨rfl,rfl,rfl,rfl,?_⟩;repeat(first|exact(Kept.refl _ _)|refine Kept.dB ?_ (by first|exact Or.inl rfl|exact Or.inr rfl) _)
 rintro k ak ao hk ⟨h0,h3,xG,h49,h50,bD,bC,bW,oO,dd⟩
 by_cases aw:k<ls.length
 .obtain⟨l,dO⟩:=aK aw;have hi:=mL dO;have aL:((k:Int)<(ls.length:Int)):=aa;have w1:=cK (n:=k) aa;cases hp:(l.kind==1) with
  |false=>
   have gO:l.aA=false:=hp;simp only[go_sem,i63_l1,h0,h3,xG,h49,h50,bD,bC,bW,oO,hi,Let.ps,aL,hp,w1,o4];refine⟨aw,?_,?_,?_,?_⟩
   .rw[KW dO gO]
   .rw[Zr dO gO]
   .rw[akt dO gO]
   repeat(first|exact dd|refine Kept.dB ?_ (by first|exact Or.inl rfl|exact Or.inr rfl) _)
  |true=>have gO:l.aA=true:=hp;obtain⟨Ek,Cx⟩:=hg l (aU dO) gO;obtain⟨G,hG⟩:=r8 Ek;have Iy:G<=F:=aa;have F2:G<F+1:=aa;have wv:=kQ (Zp (ls:=ls) (k:=k) Iy);have bQ:cg (ls.take k) G<=k:=Oo _ _ _;have w2:=cK (n:=cg (ls.take k) G) aa;have s1:=Jl (rH ls F k) G (cg (ls.take k) G+1);rw[<- Zq dO gO hG] at s1;obtain⟨b0,hb⟩:=aK (show k<(tv ls k).length by rw[aks];exact aw);have hb:=uq hb;have s2:=KH (tv ls k) k (dn ls k);rw[<- akr dO gO] at s2;have hd:=KV dO gO;simp only[go_sem,i63_l1,h0,h3,xG,h49,h50,bD,bC,bW,oO,hi,Let.ps,aL,aw,hp,w1,hG,wv,F2,w2,s1,hb,s2,hd,okD,o1,o2,o4];refine⟨aH,?_⟩;repeat(first|exact dd|refine Kept.dB ?_ (by first|exact Or.inl rfl|exact Or.inr rfl) _)
 have:k=ls.length:=aa;subst this;simp only[go_sem,i63_l1,h49,h50,eK];exact rk2 okD ok hl hF hg h0 bD (by rw[bC,SL]) (by rw[bW,akq]) oO dd
def qS(ls:List Let)(id:Int)(o:Bool)(j:Nat):Bool:=match ls[j]? with|some m=>m.aC&&(m.id==id&&m.over==o)|none=>false
def fX(ls:List Let)(k:Nat)(id:Int)(o:Bool):Option Nat:=(List.range k).find? (qS ls id o)
def Bu:Option Nat->Int
 |some j=>j
 |none=> -1
def eE(ls:List Let):Nat->List Int
 |0=>[]
 |k+1=>match ls[k]? with
  |some l=>if l.aC&& !(eE ls k).contains l.id then eE ls k++[l.id] else eE ls k
  |none=>eE ls k
def qK(ls:List Let)(k:Nat)(id:Int):List PV:=[.int .i64 (Bu (fX ls k id false)),.int .i64 (Bu (fX ls k id true))]
def pK(ls:List Let)(k:Nat):List (PV×List PV):=(eE ls k).map fun id=>(PV.int .i64 id,qK ls k id)
def Dh(ls:List Let)(j:Nat):Int:=((ls[j]?).map Let.sign).getD 0
def lQ(ls:List Let)(n2:Nat)(k:Nat):Bool:=match ls[k]? with
 |some l=> !l.aC||((decide (1<=l.id)&&decide (l.id<=(n2:Int)))&&((fX ls k l.id l.over).isNone&&(match fX ls k l.id (!l.over) with|some j=>Dh ls j==l.sign|none=>true)))
 |none=>true
def kW(ls:List Let):Bool:=(ay Let.aC ls%2==0)&&(List.range ls.length).all (lQ ls (ay Let.aC ls/2))&&((eE ls ls.length).length==ay Let.aC ls/2)
theorem IK{ls:List Let}{k:Nat}{l:Let}(h:ls[k]?=some l)(hc:l.aC=true)(id:Int)(o:Bool):qS ls id o k=(l.id==id&&l.over==o):=by simp[qS,h,hc]
theorem ach{ls:List Let}{k:Nat}{l:Let}(h:ls[k]?=some l)(hc:l.aC=false)(id:Int)(o:Bool):qS ls id o k=false:=by simp[qS,h,hc]
theorem Rg(ls:List Let)(k:Nat)(id:Int)(o:Bool):fX ls (k+1) id o=(fX ls k id o).or (if qS ls id o k then some k else none):=by simp only[fX,w8,List.find?_append,List.find?_cons,List.find?_nil];cases qS ls id o k<;>rfl
theorem G9{ls:List Let}{k:Nat}{id:Int}{o:Bool}{j:Nat}(h:fX ls k id o=some j):j<k/\qS ls id o j=true:=
 ⟨fm.1 (Fi h),Kr h⟩
theorem Ay{ls:List Let}{id:Int}{o:Bool}{j:Nat}(h:qS ls id o j=true):∃m,ls[j]?=some m/\m.aC=true/\m.id=id/\m.over=o:=by
 unfold qS at h;split at h
 .rename_i m hm;simp only[cH,beq_iff_eq] at h;exact⟨m,hm,h.1,h.2.1,h.2.2⟩
 cases h
theorem NM{ls:List Let}{k:Nat}{id:Int}{o:Bool}(h:fX ls k id o=none){j:Nat}(hj:j<k):qS ls id o j=false:=by
 have:=Hh.1 h j (fm.2 hj)
 simpa using this
theorem acH{ls:List Let}{k:Nat}{l:Let}(h:ls[k]?=some l)(hc:l.aC=false):eE ls (k+1)=eE ls k:=by simp[eE,h,hc]
theorem acI{ls:List Let}{k:Nat}{l:Let}(h:ls[k]?=some l)(hc:l.aC=true)(hn:l.id∉eE ls k):eE ls (k+1)=eE ls k++[l.id]:=by simp[eE,h,hc,hn]
theorem acJ{ls:List Let}{k:Nat}{l:Let}(h:ls[k]?=some l)(hn:l.id∈eE ls k):eE ls (k+1)=eE ls k:=by simp[eE,h,hn]
theorem apd{ls:List Let}{k:Nat}{l:Let}(h:ls[k]?=some l)(hc:l.aC=false):pK ls (k+1)=pK ls k:=by unfold pK qK;rw[acH h hc];simp[Rg,ach h hc]
theorem anF{ls:List Let}{id:Int}:∀(k:Nat),k<=ls.length->(id∈eE ls k↔ ∃j o,j<k/\qS ls id o j=true):=by
 intro k
 induction k with
 |zero=>intro _;simp[eE]
 |succ k ih=>
  intro hk;obtain⟨l,hl⟩:=aK (show k<ls.length by omega);have ih:=ih aa;have old:(∃j o,j<k/\qS ls id o j=true)->∃j o,j<k+1/\qS ls id o j=true:=fun⟨j,o,h1,h2⟩=>⟨j,o,aa,h2⟩;cases hc:l.aC with
  |false=>
   rw[acH hl hc,ih];refine⟨old,?_⟩;rintro ⟨j,o,h1,h2⟩
   rcases pV.1 h1 with h|rfl
   .exact⟨j,o,h,h2⟩
   rw[ach hl hc] at h2;cases h2
  |true=>
   have key:id∈eE ls (k+1)↔(id∈eE ls k\/id=l.id):=by
    by_cases hm:l.id∈eE ls k
    .rw[acJ hl hm];exact⟨Or.inl,fun h=>h.elim eO (fun e=>e▸hm)⟩
    rw[acI hl hc hm];simp
   rw[key,ih];constructor
   .rintro (h|rfl)
    .exact old h
    exact⟨k,l.over,aa,by rw[IK hl hc];simp⟩
   rintro ⟨j,o,h1,h2⟩
   rcases pV.1 h1 with h|rfl
   .exact Or.inl ⟨j,o,h,h2⟩
   rw[IK hl hc] at h2;simp only[cH,beq_iff_eq] at h2;exact Or.inr h2.1.symm
where eO {p:Prop} (h:p):p:=h
theorem Gv{ls:List Let}{id:Int}{k:Nat}(h:k<=ls.length):id∈eE ls k↔ ∃j o,j<k/\qS ls id o j=true:=anF k h
theorem PB(ls:List Let):∀k,(eE ls k).Nodup:=by
 intro k
 induction k with
 |zero=>simp[eE]
 |succ k ih=>
  unfold eE;split
  .split
   .rename_i h;simp only[cH,kV,List.contains_eq_mem,decide_eq_false_iff_not] at h;rw[Hn];refine⟨ih,af,?_⟩;intro a ha b hb;simp only[mR] at hb;subst hb;rintro rfl
    exact h.2 ha
   exact ih
  exact ih
theorem auo{ls:List Let}{k:Nat}(hk:k<=ls.length){id:Int}(h:id∉eE ls k)(o:Bool):fX ls k id o=none:=by
 cases hv:fX ls k id o with
 |none=>rfl
 |some j=>obtain⟨h1,h2⟩:=G9 hv;exact absurd ((Gv hk).2 ⟨j,o,h1,h2⟩) h
theorem ag7{ls:List Let}{k:Nat}(hk:k<=ls.length){id:Int}(h:id∈eE ls k)(o:Bool)(hn:fX ls k id o=none):∃j m,fX ls k id (!o)=some j/\ls[j]?=some m/\j<k:=by
 obtain⟨j,o',h1,h2⟩:=(Gv hk).1 h;by_cases e:o'=o
 .subst e;rw[NM hn h1] at h2;cases h2
 have e:o'= !o:=by cases o<;>cases o'<;>simp_all
 subst e;cases hv:fX ls k id (!o) with
 |none=>rw[NM hv h1] at h2;cases h2
 |some i=>obtain⟨h3,h4⟩:=G9 hv;obtain⟨m,hm,_⟩:=Ay h4;exact⟨i,m,rfl,hm,h3⟩
theorem ag8{ls:List Let}{k:Nat}{l:Let}(h:ls[k]?=some l)(hc:l.aC=true){id:Int}(hn:¬l.id=id)(o:Bool):fX ls (k+1) id o=fX ls k id o:=by rw[Rg,IK h hc];simp[hn]
theorem Xs{ls:List Let}{k:Nat}{l:Let}(h:ls[k]?=some l)(hc:l.aC=true)(hn:fX ls k l.id l.over=none):fX ls (k+1) l.id l.over=some k:=by rw[Rg,IK h hc,hn];simp
theorem Xq{ls:List Let}{k:Nat}{l:Let}(h:ls[k]?=some l)(hc:l.aC=true):fX ls (k+1) l.id (!l.over)=fX ls k l.id (!l.over):=by rw[Rg,IK h hc];cases l.over<;>simp
theorem ZW{ls:List Let}{k:Nat}{l:Let}(h:ls[k]?=some l)(hc:l.aC=true){id:Int}(hn:¬l.id=id):qK ls (k+1) id=qK ls k id:=by unfold qK;rw[ag8 h hc hn,ag8 h hc hn]
theorem ape{ls:List Let}{k:Nat}{l:Let}(h:ls[k]?=some l)(hc:l.aC=true)(hn:l.id∉eE ls k):pK ls (k+1)=pK ls k++[(.int .i64 l.id,qK ls (k+1) l.id)]:=by unfold pK;rw[acI h hc hn,km];congr 1;apply vH;intro id hid;rw[ZW h hc (by rintro rfl;exact hn hid)]
theorem apf{ls:List Let}{k:Nat}{l:Let}(h:ls[k]?=some l)(hc:l.aC=true)(hn:l.id∈eE ls k):pK ls (k+1)=(pK ls k).set ((eE ls k).idxOf l.id) (.int .i64 l.id,qK ls (k+1) l.id):=by
 unfold pK;rw[acJ h hn];apply w5
 .simp
 intro i h1 h2;rw[Kt];simp only[cF] at h1;by_cases e:(eE ls k).idxOf l.id=i
 .subst e;simp only[Dw,if_pos,List.getElem_idxOf]
 rw[if_neg e];simp only[Dw];rw[ZW h hc];intro e2;apply e;rw[e2];exact(PB ls k).idxOf_getElem i h1
theorem abg(ls:List Let)(k:Nat)(q:Int):oU (.int .i64 q) (pK ls k) 0=some (if q∈eE ls k then some ((eE ls k).idxOf q,qK ls k q) else none):=by unfold pK;rw[alm];simp
theorem HT{ls:List Let}{k:Nat}(hk:k<ls.length)(h:lQ ls (ay Let.aC ls/2) k=false):kW ls=false:=by have:(List.range ls.length).all (lQ ls (ay Let.aC ls/2))=false:=List.all_eq_false.2 ⟨k,fm.2 hk,by simp[h]⟩;simp[kW,this]
theorem SQ{ls:List Let}(he:ay Let.aC ls%2=0)(h:∀i,i<ls.length->lQ ls (ay Let.aC ls/2) i=true):kW ls=((eE ls ls.length).length==ay Let.aC ls/2):=by have:(List.range ls.length).all (lQ ls (ay Let.aC ls/2))=true:=jf.2 fun i hi=>h i (fm.1 hi);simp[kW,this,he]
abbrev XG(id:Nat):Prop:=id=1344320128\/je id=64
def Hd(F:Nat)(ls:List Let)(g:Nat)(c2 c3 c4 c6:C)(kI:aq)(v:V)(ao:aq):Prop:=v=vb (kW ls)/\Kept XG kI ao/\(kW ls=true->∃g1,ao 1344320128=(g,some (.var (uW F ls c2 c3 c4 (.jV 4096256064 g1) c6)))/\ao 4096256064=(g1,some (.map true (pK ls ls.length))))
theorem ge0(j:Nat):decide ((0:Int)<=(j:Int))=true:=decide_eq_true aa
theorem wr0:IntKind.i64.wrap 0=0:=ae
theorem wr1:IntKind.i64.wrap 1=1:=ae
theorem Jm:((-1:Int)≥0)=False:=af
theorem neg1':((0:Int)<= -1)=False:=af
theorem aki{al:Al}(okD:al.ok 1344320128=true)(ok:∀id,je id=64->al.ok id=true){aj:aq}{g F:Nat}{ls:List Let}{c2 c3 c4 c5 c6:C}(hl:ls.length<=1000000)
  (bD:aj 1344320128=(g,some (.var (uW F ls c2 c3 c4 c5 c6)))):∃v ao,iJ S 64 [.one (.bk 1344320128 g 0)] al aj v ao/\Hd F ls g c2 c3 c4 c6 aj v ao:=by
 have o1:=ok 4096256064 rfl;have o2:=ok 4096448192 rfl;have o3:=ok 4096704640 rfl;refine mr c64 (gY rfl) ?_;have pc:=SR F ls hl;have bQ:ay Let.aC ls<=ls.length:=xx _ _;cases he:(((ay Let.aC ls%2:Nat):Int)!=0) with
 |true=>
  have dz:kW ls=false:=by
   have:(ay Let.aC ls%2==0)=false:=by simp at he ⊢;omega
   simp[kW,this]
  simp only[go_sem,i64,bD,s38,FW pc,pQ,iI,he,okD];exact⟨by rw[dz],Kept.refl _ _,fun h=>by rw[dz] at h;cases h⟩
 |false=>
  have he0:ay Let.aC ls%2=0:=by simp at he;omega
  simp only[go_sem,i64,bD,s38,FW pc,pQ,iI,he,okD,o1];refine cV (fun k ak ao=>ak 0=.one (.bk 1344320128 g 0)/\ak 3=vi (ay Let.aC ls)/\ak 25=.one (.p (cP ls))/\ak 26=vi ls.length/\ak 27=vi k/\
   ao 1344320128=(g,some (.var (uW F ls c2 c3 c4 (.jV 4096256064 ((aj 4096256064).1+1)) c6)))/\ao 4096256064=((aj 4096256064).1+1,some (.map true (pK ls k)))/\
   (∀i,i<k->lQ ls (ay Let.aC ls/2) i=true)/\Kept XG aj ao) 0 ls.length (bd _) ?_ ?_
  .simp only[go_sem,bD];refine⟨rfl,rfl,fun i h=>absurd h (qE i),?_⟩;repeat(first|exact(Kept.refl _ _)|refine Kept.dB ?_ (by first|exact Or.inl rfl|exact Or.inr rfl) _)
  rintro k ak ao hk ⟨h0,h3,l5,xE,xF,bD,bM,au,dd⟩
  have wq:IntKind.i64.wrap ((ay Let.aC ls/2:Nat):Int)=((ay Let.aC ls/2:Nat):Int):=wrap_small aa;by_cases aw:k<ls.length
  .obtain⟨l,dO⟩:=aK aw;have hi:=mL dO;have aL:((k:Int)<(ls.length:Int)):=aa;have w1:=cK (n:=k) aa;cases hc:(l.kind==2) with
   |false=>
    have jU:l.aC=false:=hc;have hp:(l.kind !=2)=true:=by simp[bne,hc]
    have kz:lQ ls (ay Let.aC ls/2) k=true:=by simp[lQ,dO,jU]
    simp only[go_sem,i64_l1,h0,h3,l5,xE,xF,bD,bM,hi,Let.ps,aL,hp,w1,o2];refine⟨aw,?_,?_,?_⟩
    .rw[apd dO jU]
    .intro i hi;rcases pV.1 hi with h|rfl
     .exact au i h
     exact kz
    repeat(first|exact dd|refine Kept.dB ?_ (by first|exact Or.inl rfl|exact Or.inr rfl) _)
   |true=>
    have jU:l.aC=true:=hc;have hp:(l.kind !=2)=false:=by simp[bne,hc]
    cases r1:decide (l.id<1) with
    |true=>have r6:l.id<1:=of_decide_eq_true r1;have r1n:¬1<=l.id:=aa;have dz:=HT aw (show lQ ls (ay Let.aC ls/2) k=false by simp[lQ,dO,jU,r1n]);simp only[go_sem,i64_l1,l5,xE,xF,hi,Let.ps,aL,hp,r6,o2];unfold Hd;refine⟨by rw[dz],?_,fun h=>by rw[dz] at h;cases h⟩;repeat(first|exact dd|refine Kept.dB ?_ (by first|exact Or.inl rfl|exact Or.inr rfl) _)
    |false=>
     have r6:¬l.id<1:=of_decide_eq_false r1;have r1y:1<=l.id:=aa;cases r2:decide (((ay Let.aC ls/2:Nat):Int)<l.id) with
     |true=>have sW:((ay Let.aC ls/2:Nat):Int)<l.id:=of_decide_eq_true r2;have r2n:¬l.id<=((ay Let.aC ls/2:Nat):Int):=aa;have dz:=HT aw (show lQ ls (ay Let.aC ls/2) k=false by simp only[lQ,dO,jU,r2n];simp);simp only[go_sem,i64_l1,h3,l5,xE,xF,hi,Let.ps,aL,hp,r6,sW,jC,iI,wq,o2];unfold Hd;refine⟨by rw[dz],?_,fun h=>by rw[dz] at h;cases h⟩;repeat(first|exact dd|refine Kept.dB ?_ (by first|exact Or.inl rfl|exact Or.inr rfl) _)
     |false=>
      have sW:¬((ay Let.aC ls/2:Nat):Int)<l.id:=of_decide_eq_false r2;have r2y:l.id<=((ay Let.aC ls/2:Nat):Int):=aa;have hf:=abg ls k l.id;have nv:lQ ls (ay Let.aC ls/2) k=((fX ls k l.id l.over).isNone&&(match fX ls k l.id (!l.over) with|some j=>Dh ls j==l.sign|none=>true)):=by simp only[lQ,dO,jU,r1y,r2y,decide_true];rfl
      by_cases hm:l.id∈eE ls k
      .rw[if_pos hm] at hf;obtain⟨e0,hse⟩:=aK (show(eE ls k).idxOf l.id<(pK ls k).length by simp[pK];exact List.idxOf_lt_length_of_mem hm);have AP:=apf dO jU hm;have Mc:qK ls k l.id=[.int .i64 (Bu (fX ls k l.id false)),.int .i64 (Bu (fX ls k l.id true))]:=rfl;rw[Mc] at hf;cases ho:l.over with
       |true=>
        cases hv:fX ls k l.id true with
        |some j=>have dz:=HT aw (show lQ ls (ay Let.aC ls/2) k=false by rw[nv,ho,hv];rfl);rw[hv] at hf;simp only[Bu] at hf;simp only[go_sem,i64_l1,h0,h3,l5,xE,xF,bD,bM,hi,Let.ps,aL,hp,r6,sW,jC,iI,wq,hf,ho,ge0,mapOf,mapVal,iz,Int.reduceNeg,okD,o1,o2,o3];refine⟨aH,aH,?_⟩;unfold Hd;refine⟨by rw[dz],?_,fun h=>by rw[dz] at h;cases h⟩;repeat(first|exact dd|refine Kept.dB ?_ (by first|exact Or.inl rfl|exact Or.inr rfl) _)
        |none=>
         obtain⟨j,m,hj,Gd,hjk⟩:=ag7 hk hm true hv;have hj:fX ls k l.id false=some j:=hj;have zA:=mL Gd;have IZ:Dh ls j=m.sign:=by simp[Dh,Gd]
         rw[hv,hj] at hf;simp only[Bu] at hf;cases hs:(m.sign==l.sign) with
         |false=>
          have eh:(m.sign !=l.sign)=true:=by simp[bne,hs]
          have dz:=HT aw (show lQ ls (ay Let.aC ls/2) k=false by rw[nv,ho,hv];simp only[Bx,hj,IZ,hs];rfl);simp only[go_sem,i64_l1,h0,h3,l5,xE,xF,bD,bM,hi,Let.ps,aL,hp,r6,sW,jC,iI,wq,hf,ho,Jm,zA,eh,wr0,mapOf,mapVal,iz,Int.reduceNeg,Int.reduceSub,okD,o1,o2,o3];refine⟨aH,aH,?_⟩;unfold Hd;refine⟨by rw[dz],?_,fun h=>by rw[dz] at h;cases h⟩;repeat(first|exact dd|refine Kept.dB ?_ (by first|exact Or.inl rfl|exact Or.inr rfl) _)
         |true=>
          have eh:(m.sign !=l.sign)=false:=by simp[bne,hs]
          have kz:lQ ls (ay Let.aC ls/2) k=true:=by rw[nv,ho,hv];simp only[Bx,hj,IZ,hs];rfl
          have qX:=Xs dO jU (show fX ls k l.id l.over=none by rw[ho];exact hv);have wI:=Xq dO jU;rw[ho] at qX wI;rw[show fX ls k l.id (!true)=some j from hj] at wI;have Vi:qK ls (k+1) l.id=[.int .i64 (j:Int),.int .i64 (k:Int)]:=by simp only[qK];rw[qX,show fX ls (k+1) l.id false=some j from wI];rfl
          rw[Vi] at AP;simp only[go_sem,i64_l1,h0,h3,l5,xE,xF,bD,bM,hi,Let.ps,aL,hp,w1,r6,sW,jC,iI,wq,hf,ho,Jm,zA,eh,wr0,mapOf,mapVal,iz,xv,Int.reduceNeg,Int.reduceSub,okD,o1,o2,o3];refine⟨aH,aH,aH,?_⟩;refine⟨aw,?_,?_,?_⟩
          .rw[AP]
          .intro i hi;rcases pV.1 hi with h|rfl
           .exact au i h
           exact kz
          repeat(first|exact dd|refine Kept.dB ?_ (by first|exact Or.inl rfl|exact Or.inr rfl) _)
       |false=>
        cases hv:fX ls k l.id false with
        |some j=>have dz:=HT aw (show lQ ls (ay Let.aC ls/2) k=false by rw[nv,ho,hv];rfl);rw[hv] at hf;simp only[Bu] at hf;simp only[go_sem,i64_l1,h0,h3,l5,xE,xF,bD,bM,hi,Let.ps,aL,hp,r6,sW,jC,iI,wq,hf,ho,ge0,mapOf,mapVal,iz,Int.reduceNeg,okD,o1,o2,o3];refine⟨aH,aH,?_⟩;unfold Hd;refine⟨by rw[dz],?_,fun h=>by rw[dz] at h;cases h⟩;repeat(first|exact dd|refine Kept.dB ?_ (by first|exact Or.inl rfl|exact Or.inr rfl) _)
        |none=>
         obtain⟨j,m,hj,Gd,hjk⟩:=ag7 hk hm false hv;have hj:fX ls k l.id true=some j:=hj;have zA:=mL Gd;have IZ:Dh ls j=m.sign:=by simp[Dh,Gd]
         rw[hv,hj] at hf;simp only[Bu] at hf;cases hs:(m.sign==l.sign) with
         |false=>
          have eh:(m.sign !=l.sign)=true:=by simp[bne,hs]
          have dz:=HT aw (show lQ ls (ay Let.aC ls/2) k=false by rw[nv,ho,hv];simp only[Bool.not_false,hj,IZ,hs];rfl);simp only[go_sem,i64_l1,h0,h3,l5,xE,xF,bD,bM,hi,Let.ps,aL,hp,r6,sW,jC,iI,wq,hf,ho,Jm,zA,eh,wr1,mapOf,mapVal,iz,Int.reduceNeg,Int.reduceSub,okD,o1,o2,o3];refine⟨aH,aH,?_⟩;unfold Hd;refine⟨by rw[dz],?_,fun h=>by rw[dz] at h;cases h⟩;repeat(first|exact dd|refine Kept.dB ?_ (by first|exact Or.inl rfl|exact Or.inr rfl) _)
         |true=>
          have eh:(m.sign !=l.sign)=false:=by simp[bne,hs]
          have kz:lQ ls (ay Let.aC ls/2) k=true:=by rw[nv,ho,hv];simp only[Bool.not_false,hj,IZ,hs];rfl
          have qX:=Xs dO jU (show fX ls k l.id l.over=none by rw[ho];exact hv);have wI:=Xq dO jU;rw[ho] at qX wI;rw[show fX ls k l.id (!false)=some j from hj] at wI;have Vi:qK ls (k+1) l.id=[.int .i64 (k:Int),.int .i64 (j:Int)]:=by simp only[qK];rw[qX,show fX ls (k+1) l.id true=some j from wI];rfl
          rw[Vi] at AP;simp only[go_sem,i64_l1,h0,h3,l5,xE,xF,bD,bM,hi,Let.ps,aL,hp,w1,r6,sW,jC,iI,wq,hf,ho,Jm,zA,eh,wr1,mapOf,mapVal,iz,xv,Int.reduceNeg,Int.reduceSub,okD,o1,o2,o3];refine⟨aH,aH,aH,?_⟩;refine⟨aw,?_,?_,?_⟩
          .rw[AP]
          .intro i hi;rcases pV.1 hi with h|rfl
           .exact au i h
           exact kz
          repeat(first|exact dd|refine Kept.dB ?_ (by first|exact Or.inl rfl|exact Or.inr rfl) _)
      rw[if_neg hm] at hf;have hv:=auo hk hm;have mI:=ape dO jU hm;have kz:lQ ls (ay Let.aC ls/2) k=true:=by rw[nv,hv,hv];rfl
      have qX:=Xs dO jU (hv _);have wI:=Xq dO jU;rw[hv] at wI;cases ho:l.over with
      |true=>
       rw[ho] at qX wI;have Mc:qK ls (k+1) l.id=[.int .i64 (-1),.int .i64 (k:Int)]:=by simp only[qK];rw[qX,show fX ls (k+1) l.id false=none from wI];rfl
       rw[Mc] at mI;simp only[go_sem,i64_l1,h0,h3,l5,xE,xF,bD,bM,hi,Let.ps,aL,hp,w1,r6,sW,jC,iI,wq,hf,ho,Jm,mapOf,mapVal,iz,xv,Option.map_none,Int.reduceNeg,okD,o1,o2,o3];refine⟨aH,aH,aH,?_⟩;refine⟨aw,?_,?_,?_⟩
       .rw[mI]
       .intro i hi;rcases pV.1 hi with h|rfl
        .exact au i h
        exact kz
       repeat(first|exact dd|refine Kept.dB ?_ (by first|exact Or.inl rfl|exact Or.inr rfl) _)
      |false=>
       rw[ho] at qX wI;have Mc:qK ls (k+1) l.id=[.int .i64 (k:Int),.int .i64 (-1)]:=by simp only[qK];rw[qX,show fX ls (k+1) l.id true=none from wI];rfl
       rw[Mc] at mI;simp only[go_sem,i64_l1,h0,h3,l5,xE,xF,bD,bM,hi,Let.ps,aL,hp,w1,r6,sW,jC,iI,wq,hf,ho,Jm,mapOf,mapVal,iz,xv,Option.map_none,Int.reduceNeg,okD,o1,o2,o3];refine⟨aH,aH,aH,?_⟩;refine⟨aw,?_,?_,?_⟩
       .rw[mI]
       .intro i hi;rcases pV.1 hi with h|rfl
        .exact au i h
        exact kz
       repeat(first|exact dd|refine Kept.dB ?_ (by first|exact Or.inl rfl|exact Or.inr rfl) _)
  have:k=ls.length:=aa;subst this;have hr:=SQ he0 au;have ni:(pK ls ls.length).length=(eE ls ls.length).length:=by simp[pK]
  have hb:((((eE ls ls.length).length:Nat):Int)==((ay Let.aC ls/2:Nat):Int))=((eE ls ls.length).length==ay Let.aC ls/2):=by
   cases h:((eE ls ls.length).length==ay Let.aC ls/2) with
   |true=>simp at h ⊢;omega
   |false=>simp at h ⊢;omega
  simp only[go_sem,i64_l1,i64_r2,h0,h3,xE,xF,bD,bM,eK,zN,Int.reduceNeg,ni,jC,iI,wq,hb,okD,o1];exact⟨by rw[hr],dd,fun _=>⟨_,bD,bM⟩⟩
theorem FG{p:Let->Bool}{ls:List Let}{i:Nat}{l:Let}(h:ls[i]?=some l)(hp:p l=true):ay p ls=1↔ ∀j m,ls[j]?=some m->p m=true->j=i:=by
 obtain⟨hi,e⟩:=aS.1 h;have hs:ls=ls.take i++l::ls.drop (i+1):=by rw[<- e,tg];simp
 have hc:ay p ls=ay p (ls.take i)+(ay p (ls.drop (i+1))+1):=by
  conv=>lhs;rw[hs]
  simp[ay,vE,hp]
 constructor
 .intro h1 j m hj hm;have z1:ay p (ls.take i)=0:=aa;have z2:ay p (ls.drop (i+1))=0:=aa;have z1:=Hf.1 z1;have z2:=Hf.1 z2;rcases Nat.lt_trichotomy j i with AL|AL|AL
  .have:m∈ls.take i:=aU (i:=j) (by rw[jt,if_pos AL,hj]);exact absurd hm (z1 m this)
  .exact AL
  have:m∈ls.drop (i+1):=aU (i:=j-(i+1)) (by rw[r9,show i+1+(j-(i+1))=j by omega,hj]);exact absurd hm (z2 m this)
 intro hu;have z1:ay p (ls.take i)=0:=by
  refine Hf.2 fun m hm mJ=>?_;obtain⟨j,hj⟩:=jD hm;have AL:j<i:=by have:=(aS.1 hj).1;rw[eQ] at this;omega
  rw[jt,if_pos AL] at hj;have:=hu j m hj mJ;omega
 have z2:ay p (ls.drop (i+1))=0:=by refine Hf.2 fun m hm mJ=>?_;obtain⟨j,hj⟩:=jD hm;rw[r9] at hj;have:=hu _ m hj mJ;omega
 omega
theorem ajJ{p:Let->Bool}{ls:List Let}(h:∀(i j:Nat) (l m:Let),ls[i]?=some l->ls[j]?=some m->p l=true->p m=true->i=j):ay p ls<=1:=by
 by_cases hz:ay p ls=0
 .omega
 have:0<ls.countP p:=Nat.pos_of_ne_zero hz;obtain⟨l,hl,hp⟩:=Bz.1 this;obtain⟨i,hi⟩:=jD hl;have:=(FG hi hp).2 fun j m hj hm=>h j i m l hj hi hm hp;omega
structure uw (F:Nat) (ls:List Let) (l:Let):Prop where
 g0:0<=l.gate
 g1:l.gate<=(F:Int)
 r0:1<=l.aB
 r1:l.aB<=(cg ls l.gate.toNat:Int)
theorem GO{ls:List Let}{l m:Let}(hl:uw F ls l)(hm:uw F ls m):dM ls l=dM ls m↔l.gate=m.gate/\l.aB=m.aB:=by
 obtain⟨l1,l2,l3,l4⟩:=hl;obtain⟨m1,m2,m3,m4⟩:=hm;unfold dM;constructor
 .intro h;have sl:=tC ls l.gate.toNat;have sm:=tC ls m.gate.toNat;rcases Nat.lt_trichotomy l.gate.toNat m.gate.toNat with c|c|c
  .have:=Aj (ls:=ls) (show l.gate.toNat+1<=m.gate.toNat by omega);omega
  .rw[c] at h;omega
  have:=Aj (ls:=ls) (show m.gate.toNat+1<=l.gate.toNat by omega);omega
 rintro ⟨h1,h2⟩;rw[h1,h2]
theorem aqr{ls:List Let}{l m:Let}(hl:uw F ls l)(hm:uw F ls m):PU l m=true↔dM ls l<dM ls m:=by
 obtain⟨l1,l2,l3,l4⟩:=hl;obtain⟨m1,m2,m3,m4⟩:=hm;unfold dM PU;simp only[By,cH,decide_eq_true_eq,beq_iff_eq];have sl:=tC ls l.gate.toNat;have sm:=tC ls m.gate.toNat;rcases Nat.lt_trichotomy l.gate.toNat m.gate.toNat with c|c|c
 .have:=Aj (ls:=ls) (show l.gate.toNat+1<=m.gate.toNat by omega);omega
 .rw[c];omega
 have:=Aj (ls:=ls) (show m.gate.toNat+1<=l.gate.toNat by omega);omega
theorem WA{ls:List Let}{l:Let}(hl:uw F ls l):dM ls l<fv ls (F+1):=by obtain⟨l1,l2,l3,l4⟩:=hl;unfold dM;have sl:=tC ls l.gate.toNat;have:=Aj (ls:=ls) (show l.gate.toNat+1<=F+1 by omega);omega
theorem QH{ls:List Let}{i:Nat}{l:Let}(h:ls[i]?=some l)(hp:l.aA=true):sY ls i=true↔1<=l.aB/\l.aB<=(cg ls l.gate.toNat:Int)/\ ∀j m,j<i->ls[j]?=some m->m.aA=true->dM ls m≠dM ls l:=by
 simp only[sY,h,hp,Bx,Bw,cH,decide_eq_true_eq,kV,Dt,fm];constructor
 .rintro ⟨⟨h1,h2⟩,h3⟩
  refine⟨h1,h2,fun j m hj hm mJ e=>?_⟩;have:=h3 j hj;rw[Me hm mJ] at this;simp[e] at this
 rintro ⟨h1,h2,h3⟩
 refine⟨⟨h1,h2⟩,fun j hj=>?_⟩;unfold sI;split
 .rename_i m hm;cases mJ:m.aA with
  |false=>simp
  |true=>simpa using h3 j m hj hm mJ
 simp
theorem GQ{ls:List Let}(hg:qe F ls):yv ls=true↔(∀l∈ls,l.aA=true->uw F ls l)/\ ∀(i j:Nat) (l m:Let),ls[i]?=some l->ls[j]?=some m->l.aA=true->m.aA=true->dM ls l=dM ls m->i=j:=by
 unfold yv;rw[jf];constructor
 .intro h;refine⟨fun l hl hp=>?_,fun i j l m hi hj bK mJ e=>?_⟩
  .obtain⟨i,hi⟩:=jD hl;have:=(QH hi hp).1 (h i (fm.2 (aS.1 hi).1));exact⟨(hg l hl hp).1,(hg l hl hp).2,this.1,this.2.1⟩
  have ci:=(QH hi bK).1 (h i (fm.2 (aS.1 hi).1));have cj:=(QH hj mJ).1 (h j (fm.2 (aS.1 hj).1));rcases Nat.lt_trichotomy i j with c|c|c
  .exact absurd e (cj.2.2 i l c hi bK)
  .exact c
  exact absurd e.symm (ci.2.2 j m c hj mJ)
 rintro ⟨h1,h2⟩ i hi
 obtain⟨l,hl⟩:=aK (fm.1 hi);cases hp:l.aA with
 |false=>simp[sY,hl,hp]
 |true=>have hg:=h1 l (aU hl) hp;refine(QH hl hp).2 ⟨hg.r0,hg.r1,fun j m hj hm mJ e=>?_⟩;have:=h2 j i m l hm hl mJ hp e;omega
theorem PC(g:Int)(h:0<=g)(l:Let):ED g l=mU g.toNat l:=by unfold ED mU;rw[Int.toNat_of_nonneg h]
theorem r4{l:Let}(hp:l.aA=true):dj f l=false↔(((0<=l.gate/\l.gate<=f)/\l.id=0)/\l.sign=0)/\l.over=false:=by unfold Let.aA at hp;simp only[dj,hp,if_true,Rp,decide_eq_false_iff_not,bne_eq_false_iff_eq,Int.not_lt]
theorem Ju{ls:List Let}{l:Let}(hp:l.aA=true):okP f ls l=true↔dj f l=false/\1<=l.aB/\l.aB<=(ay (ED l.gate) ls:Int)/\ay (QM l) ls=1:=by
 rw[r4 hp];unfold okP;simp only[kV,Rp,decide_eq_false_iff_not,bne_eq_false_iff_eq];constructor
 .rintro ⟨⟨⟨⟨⟨⟨⟨a,b⟩,c⟩,d⟩,e⟩,g⟩,h⟩,i⟩
  exact⟨⟨⟨⟨⟨aa,aa⟩,a⟩,b⟩,c⟩,aa,aa,aa⟩
 rintro ⟨⟨⟨⟨⟨d,e⟩,a⟩,b⟩,c⟩,g,h,i⟩
 exact⟨⟨⟨⟨⟨⟨⟨a,b⟩,c⟩,aa⟩,aa⟩,aa⟩,aa⟩,aa⟩
theorem QN{l m:Let}(hp:l.aA=true):QM l m=true↔m.aA=true/\m.gate=l.gate/\m.aB=l.aB:=by unfold Let.aA at hp ⊢;simp only[beq_iff_eq] at hp;unfold QM;simp only[cH,beq_iff_eq,hp,and_assoc]
theorem aqa{ls:List Let}:(∀l∈ls,l.aA=true->okP F ls l=true)↔(∀l∈ls,l.aA=true->dj F l=false)/\yv ls=true:=by
 constructor
 .intro h;have hb:∀l∈ls,l.aA=true->dj F l=false:=fun l hl hp=>((Ju hp).1 (h l hl hp)).1;have hg:qe F ls:=fun l hl hp=>((r4 hp).1 (hb l hl hp)).1.1.1;refine⟨hb,(GQ hg).2 ⟨fun l hl hp=>?_,fun i j l m hi hj bK mJ e=>?_⟩⟩
  .obtain⟨_,h2,h3,_⟩:=(Ju hp).1 (h l hl hp);have:=hg l hl hp;refine⟨this.1,this.2,h2,?_⟩;have e:ay (ED l.gate) ls=cg ls l.gate.toNat:=by unfold cg ay;congr 1;funext m;exact PC _ this.1 m
   omega
  have gl:uw F ls l:=by
   obtain⟨_,h2,h3,_⟩:=(Ju bK).1 (h l (aU hi) bK);have:=hg l (aU hi) bK;have e:ay (ED l.gate) ls=cg ls l.gate.toNat:=by unfold cg ay;congr 1;funext m;exact PC _ this.1 m
   exact⟨this.1,this.2,h2,aa⟩
  have gm:uw F ls m:=by
   obtain⟨_,h2,h3,_⟩:=(Ju mJ).1 (h m (aU hj) mJ);have:=hg m (aU hj) mJ;have e:ay (ED m.gate) ls=cg ls m.gate.toNat:=by unfold cg ay;congr 1;funext m;exact PC _ this.1 m
   exact⟨this.1,this.2,h2,aa⟩
  have e2:=(GO gl gm).1 e;have hs:=((Ju mJ).1 (h m (aU hj) mJ)).2.2.2;exact(FG hj ((QN mJ).2 ⟨mJ,rfl,rfl⟩)).1 hs i l hi ((QN mJ).2 ⟨bK,e2.1,e2.2⟩)
 rintro ⟨hb,hr⟩ l hl hp
 have hg:qe F ls:=fun l hl hp=>((r4 hp).1 (hb l hl hp)).1.1.1;obtain⟨h1,h2⟩:=(GQ hg).1 hr;have gl:=h1 l hl hp;have e:ay (ED l.gate) ls=cg ls l.gate.toNat:=by unfold cg ay;congr 1;funext m;exact PC _ gl.g0 m
 obtain⟨i,hi⟩:=jD hl;refine(Ju hp).2 ⟨hb l hl hp,gl.r0,by rw[e];exact gl.r1,(FG hi ((QN hp).2 ⟨hp,rfl,rfl⟩)).2 fun j m hj hs=>?_⟩;obtain⟨mJ,eg,er⟩:=(QN hp).1 hs;exact h2 j i m l hj hi mJ hp ((GO (h1 m (aU hj) mJ) gl).2 ⟨eg,er⟩)
def rT(id:Int)(o:Bool)(l:Let):Bool:=l.aC&&(l.id==id&&l.over==o)
theorem IJ{ls:List Let}{j:Nat}{m:Let}(h:ls[j]?=some m)(id:Int)(o:Bool):qS ls id o j=rT id o m:=by simp[qS,rT,h]
theorem qk{id:Int}{o:Bool}{l:Let}:rT id o l=true↔l.aC=true/\l.id=id/\l.over=o:=by unfold rT;simp only[cH,beq_iff_eq]
def GK(ls:List Let):Prop:=∀(i j:Nat) (l m:Let),ls[i]?=some l->ls[j]?=some m->l.aC=true->m.aC=true->l.id=m.id->i≠j->l.over≠m.over/\l.sign=m.sign
def VS(ls:List Let):Prop:=∀l∈ls,l.aC=true->1<=l.id/\l.id<=((ay Let.aC ls/2:Nat):Int)
theorem ahv{ls:List Let}{n2 k:Nat}{l:Let}(h:ls[k]?=some l)(hc:l.aC=true):lQ ls n2 k=true↔(1<=l.id/\l.id<=(n2:Int))/\fX ls k l.id l.over=none/\ ∀j,fX ls k l.id (!l.over)=some j->Dh ls j=l.sign:=by
 simp only[lQ,h,hc,Bx,Bw,cH,decide_eq_true_eq,Option.isNone_iff_eq_none];constructor
 .rintro ⟨h1,h2,h3⟩
  refine⟨h1,h2,fun j hj=>?_⟩;rw[hj] at h3
  simpa using h3
 rintro ⟨h1,h2,h3⟩
 refine⟨h1,h2,?_⟩;split
 .rename_i j hj
  simpa using h3 j hj
 rfl
theorem Hc{ls:List Let}:(∀k,k<ls.length->lQ ls (ay Let.aC ls/2) k=true)↔VS ls/\GK ls:=by
 constructor
 .intro h;have hx:∀ {k:Nat} {l:Let},ls[k]?=some l->l.aC=true->_:=fun {k l} hk hc=>(ahv (n2:=ay Let.aC ls/2) hk hc).1 (h k (aS.1 hk).1);refine⟨fun l hl hc=>?_,?_⟩
  .obtain⟨i,hi⟩:=jD hl;exact(hx hi hc).1
  have key:∀(i j:Nat) (l m:Let),ls[i]?=some l->ls[j]?=some m->l.aC=true->m.aC=true->l.id=m.id->i<j->l.over≠m.over/\l.sign=m.sign:=by
   intro i j l m hi hj bQ xM he fL;obtain⟨_,hn,hs⟩:=hx hj xM;have ho:l.over≠m.over:=by intro e;have:=NM hn fL;rw[IJ hi,qk.2 ⟨bQ,he,e⟩] at this;cases this
   refine⟨ho,?_⟩;have lG:l.over= !m.over:=by revert ho;cases l.over<;>cases m.over<;>simp
   cases hv:fX ls j m.id (!m.over) with
   |none=>have:=NM hv fL;rw[IJ hi,qk.2 ⟨bQ,he,lG⟩] at this;cases this
   |some p=>
    have h3:=hs p hv;obtain⟨sK,qV⟩:=G9 hv;obtain⟨x,j7,MS,jy,hxo⟩:=Ay qV;have:p=i:=by
     rcases Nat.lt_trichotomy p i with c|c|c
     .have vc:=(hx hi bQ).2.1;have:=NM vc c;rw[IJ j7,qk.2 ⟨MS,by rw[jy,he],by rw[hxo,lG]⟩] at this;cases this
     .exact c
     have h4:(List.range j).find? (qS ls m.id (!m.over))=some p:=hv;rw[List.find?_range_eq_some] at h4;have:=h4.2.2 i c;rw[IJ hi,qk.2 ⟨bQ,he,lG⟩] at this;cases this
    subst this;rw[hi] at j7;cases j7
    simpa [Dh,hi] using h3
  intro i j l m hi hj bQ xM he fL;rcases Nat.lt_or_gt_of_ne fL with c|c
  .exact key i j l m hi hj bQ xM he c
  have:=key j i m l hj hi xM bQ he.symm c;exact⟨fun e=>this.1 e.symm,this.2.symm⟩
 rintro ⟨h1,h2⟩ k hk
 obtain⟨l,hl⟩:=aK hk;cases hc:l.aC with
 |false=>simp[lQ,hl,hc]
 |true=>
  refine(ahv hl hc).2 ⟨h1 l (aU hl) hc,?_,fun j hj=>?_⟩
  .cases hv:fX ls k l.id l.over with
   |none=>rfl
   |some p=>obtain⟨sK,qV⟩:=G9 hv;obtain⟨x,j7,MS,jy,hxo⟩:=Ay qV;exact absurd hxo (h2 p k x l j7 hl MS hc jy aa).1
  obtain⟨sK,qV⟩:=G9 hj;obtain⟨x,j7,MS,jy,hxo⟩:=Ay qV;have:=(h2 j k x l j7 hl MS hc jy aa).2;simp[Dh,j7,this]
theorem atL(ls:List Let):∀ids:List Int,ids.Nodup->(ids.map fun id=>ay (uC id) ls).sum=ay (fun l=>l.aC&&ids.contains l.id) ls:=by
 intro ids
 induction ids with
 |nil=>intro _;simp[ay]
 |cons a ids ih=>
  intro hn;rw[sa] at hn;rw[dG,List.sum_cons,ih hn.2];refine(SK (p:=uC a) (q:=fun l=>l.aC&&ids.contains l.id) (r:=fun l=>l.aC&&(a::ids).contains l.id) ?_ ?_ ls).symm
  .intro l;simp only[uC,cH,beq_iff_eq,List.contains_eq_mem,decide_eq_true_eq,cM];constructor
   .rintro ⟨h1,h2|h2⟩
    .exact .inl ⟨h1,h2⟩
    exact .inr ⟨h1,h2⟩
   rintro (⟨h1,h2⟩|⟨h1,h2⟩)
   .exact⟨h1,.inl h2⟩
   exact⟨h1,.inr h2⟩
  intro l;simp only[uC,cH,beq_iff_eq,List.contains_eq_mem,decide_eq_true_eq];rintro ⟨_,h1⟩ ⟨_,h2⟩
  exact hn.1 (h1▸h2)
theorem PA{ls:List Let}{l:Let}(hl:l∈ls)(hc:l.aC=true):l.id∈eE ls ls.length:=by obtain⟨i,hi⟩:=jD hl;refine(Gv (aX _)).2 ⟨i,l.over,(aS.1 hi).1,?_⟩;rw[IJ hi];exact qk.2 ⟨hc,rfl,rfl⟩
theorem Xf(ls:List Let):((eE ls ls.length).map fun id=>ay (uC id) ls).sum=ay Let.aC ls:=by
 rw[atL _ _ (PB ls _)];apply List.countP_congr;intro l hl;cases hc:l.aC with
 |false=>simp
 |true=>simp[PA hl hc]
theorem PK(id:Int)(ls:List Let):ay (uC id) ls=ay (rT id true) ls+ay (rT id false) ls:=by
 refine SK ?_ ?_ ls
 .intro l;rw[qk,qk];simp only[uC,cH,beq_iff_eq];cases l.over<;>simp
 intro l;rw[qk,qk];rintro ⟨_,_,h1⟩ ⟨_,_,h2⟩
 rw[h1] at h2;cases h2
theorem VW(id:Int)(o:Bool)(ls:List Let):ay (uC id) ls=ay (rT id o) ls+ay (rT id (!o)) ls:=by
 rw[PK];cases o with
 |true=>rfl
 |false=>simp only[Bool.not_false];omega
theorem Ax{ls:List Let}(h:GK ls)(id:Int)(o:Bool):ay (rT id o) ls<=1:=by refine ajJ fun i j l m hi hj hl hm=>?_;obtain⟨l1,l2,l3⟩:=qk.1 hl;obtain⟨m1,m2,m3⟩:=qk.1 hm;refine Decidable.byContradiction fun aF=>?_;exact(h i j l m hi hj l1 m1 (by rw[l2,m2]) aF).1 (by rw[l3,m3])
theorem agR{f:Int->Nat}:∀ids:List Int,(∀x∈ids,f x<=2)->(ids.map f).sum<=2*ids.length:=by
 intro ids
 induction ids with
 |nil=>intro _;simp
 |cons a ids ih=>intro h;have:=ih fun x hx=>h x (w6 _ hx);have:=h a Hl;simp only[dG,List.sum_cons,cq];omega
theorem X9{f:Int->Nat}:∀ids:List Int,(∀x∈ids,f x<=2)->(ids.map f).sum=2*ids.length->∀x∈ids,f x=2:=by
 intro ids
 induction ids with
 |nil=>intro _ _ x hx;cases hx
 |cons a ids ih=>
  intro h hs;have h1:=agR ids fun x hx=>h x (w6 _ hx);have h2:=h a Hl;simp only[dG,List.sum_cons,cq] at hs;intro x hx;rcases cM.1 hx with rfl|hx
  .omega
  exact ih (fun x hx=>h x (w6 _ hx)) aa x hx
theorem atM{f:Int->Nat}:∀ids:List Int,(∀x∈ids,f x=2)->(ids.map f).sum=2*ids.length:=by
 intro ids
 induction ids with
 |nil=>intro _;simp
 |cons a ids ih=>intro h;have:=ih fun x hx=>h x (w6 _ hx);have:=h a Hl;simp only[dG,List.sum_cons,cq];omega
theorem Wu{l m:Let}(hc:l.aC=true):Jy l m=true↔m.aC=true/\m.id=l.id/\m.sign=l.sign/\m.over= !l.over:=by unfold Let.aC at hc ⊢;simp only[beq_iff_eq] at hc;unfold Jy;simp only[cH,beq_iff_eq,hc,and_assoc,kV,beq_eq_false_iff_ne,ne_eq];cases l.over<;>cases m.over<;>simp
theorem Qg{l:Let}(hc:l.aC=true):dj f l=false↔(l.gate=0/\l.aB=0)/\(l.sign !=1&&l.sign != -1)=false:=by
 unfold Let.aC at hc;have h1:(l.kind==1)=false:=by simp only[beq_iff_eq] at hc;rw[hc];rfl
 simp only[dj,hc,h1,if_true];simp
theorem ae1{ls:List Let}{l:Let}(hc:l.aC=true):wR ls l=true↔dj f l=false/\(1<=l.id/\l.id<=((ay Let.aC ls/2:Nat):Int))/\ay (Jy l) ls=1/\ay (uC l.id) ls=2:=by
 rw[Qg hc];unfold wR;simp only[kV,Rp,decide_eq_false_iff_not,bne_eq_false_iff_eq];constructor
 .rintro ⟨⟨⟨⟨⟨⟨a,b⟩,c⟩,d⟩,e⟩,g⟩,h⟩
  exact⟨⟨⟨a,b⟩,c⟩,⟨aa,aa⟩,aa,aa⟩
 rintro ⟨⟨⟨a,b⟩,c⟩,⟨d,e⟩,g,h⟩
 exact⟨⟨⟨⟨⟨⟨a,b⟩,c⟩,aa⟩,aa⟩,aa⟩,aa⟩
theorem aj4{ls:List Let}:(∀l∈ls,l.aC=true->wR ls l=true)↔(∀l∈ls,l.aC=true->dj f l=false)/\kW ls=true:=by
 have MO:=Xf ls;constructor
 .intro h;have dk:=fun l hl hc=>(ae1 (f:=f) hc).1 (h l hl hc);have hp:GK ls:=by
   intro i j l m hi hj bQ xM he fL;obtain⟨_,_,h3,h4⟩:=dk l (aU hi) bQ;have e1:=VW l.id l.over ls;have g1:0<ay (rT l.id l.over) ls:=Bz.2 ⟨l,aU hi,qk.2 ⟨bQ,rfl,rfl⟩⟩;obtain⟨x,hx,nU⟩:=Bz.1 (show 0<ls.countP (Jy l) by show 0<ay (Jy l) ls;omega);obtain⟨x1,x2,x3,x4⟩:=(Wu bQ).1 nU;have g2:0<ay (rT l.id (!l.over)) ls:=Bz.2 ⟨x,hx,qk.2 ⟨x1,x2,x4⟩⟩;have u1:ay (rT l.id l.over) ls=1:=aa;have u2:ay (rT l.id (!l.over)) ls=1:=aa;have ho:l.over≠m.over:=by intro e;have:=(FG hi (qk.2 ⟨bQ,rfl,rfl⟩)).1 u1 j m hj (qk.2 ⟨xM,he.symm,e.symm⟩);exact fL this.symm
   refine⟨ho,?_⟩;have lG:m.over= !l.over:=by revert ho;cases l.over<;>cases m.over<;>simp
   obtain⟨p,j7⟩:=jD hx;have:=(FG hj (qk.2 ⟨xM,he.symm,lG⟩)).1 u2 p x j7 (qk.2 ⟨x1,x2,x4⟩);subst this;rw[j7] at hj;cases hj;exact x3.symm
  have anA:∀id∈eE ls ls.length,ay (uC id) ls=2:=by intro id hid;obtain⟨j,o,h1,h2⟩:=(Gv (aX _)).1 hid;obtain⟨m,hm,hc,hi,_⟩:=Ay h2;rw[<- hi];exact(dk m (aU hm) hc).2.2.2
  rw[atM _ anA] at MO;refine⟨fun l hl hc=>(dk l hl hc).1,?_⟩;have hx:=(Hc (ls:=ls)).2 ⟨fun l hl hc=>(dk l hl hc).2.1,hp⟩;rw[SQ aa hx];simp only[beq_iff_eq];omega
 rintro ⟨hb,hr⟩ l hl hc
 unfold kW at hr;simp only[cH,beq_iff_eq,jf,fm] at hr;obtain⟨⟨he,hx⟩,hlen⟩:=hr;obtain⟨hid,hp⟩:=Hc.1 hx;have hle:∀id∈eE ls ls.length,ay (uC id) ls<=2:=fun id _=>by rw[PK id];have:=Ax hp id true;have:=Ax hp id false;omega
 have h2:=X9 _ hle (by rw[MO,hlen];omega) l.id (PA hl hc);have e1:=VW l.id l.over ls;have b1:=Ax hp l.id l.over;have b2:=Ax hp l.id (!l.over);refine(ae1 hc).2 ⟨hb l hl hc,hid l hl hc,?_,h2⟩;have u2:ay (rT l.id (!l.over)) ls=1:=aa;obtain⟨i,hi⟩:=jD hl;obtain⟨x,hx,nU⟩:=Bz.1 (show 0<ls.countP (rT l.id (!l.over)) by show 0<ay (rT l.id (!l.over)) ls;omega);obtain⟨p,j7⟩:=jD hx;obtain⟨x1,x2,x3⟩:=qk.1 nU;have iG:p≠i:=by
  rintro rfl
  rw[hi] at j7;cases j7;revert x3;cases l.over<;>simp
 have hsg:=(hp p i x l j7 hi x1 hc x2 iG).2;refine(FG j7 ((Wu hc).2 ⟨x1,x2,hsg,x3⟩)).2 fun j m hj hm=>?_;obtain⟨m1,m2,m3,m4⟩:=(Wu hc).1 hm;exact(FG j7 nU).1 u2 j m hj (qk.2 ⟨m1,m2,m4⟩)
theorem vQ{l:Let}(h:dj f l=false):l.aA=true\/l.aC=true:=by
 unfold Let.aA Let.aC;cases h1:(l.kind==1) with
 |true=>exact .inl rfl
 |false=>
  cases h2:(l.kind==2) with
  |true=>exact .inr rfl
  |false=>simp only[dj,h1,h2] at h;cases h
theorem n9{l:Let}(hp:l.aA=true):l.aC=false:=by unfold Let.aA at hp;unfold Let.aC;simp only[beq_iff_eq] at hp;rw[hp];rfl
theorem ae3{ls:List Let}{l:Let}(hp:l.aA=true):okL f ls l=okP f ls l:=by unfold Let.aA at hp;simp only[okL,hp,if_true]
theorem ae2{ls:List Let}{l:Let}(hp:l.aC=true):okL f ls l=wR ls l:=by
 unfold Let.aC at hp;have h1:(l.kind==1)=false:=by simp only[beq_iff_eq] at hp;rw[hp];rfl
 simp only[okL,hp,h1,if_true];simp
theorem M7{ls:List Let}:EL F ls=true↔ls.any (dj F)=false/\yv ls=true/\kW ls=true:=by
 unfold EL;rw[jf,Dt];have e1:=aqa (F:=F) (ls:=ls);have e2:=aj4 (f:=(F:Int)) (ls:=ls);constructor
 .intro h;have hk:=fun {l:Let} (hl:l∈ls)=>aoQ (f:=F) (ls:=ls) (jf.2 h) (jD hl).choose_spec;obtain⟨p1,p2⟩:=e1.1 fun l hl hp=>by rw[<- ae3 hp];exact h l hl
  obtain⟨c1,c2⟩:=e2.1 fun l hl hc=>by rw[<- ae2 (f:=F) hc];exact h l hl
  refine⟨fun l hl=>?_,p2,c2⟩;rcases hk hl with hp|hc
  .rw[p1 l hl hp];simp
  rw[c1 l hl hc];simp
 rintro ⟨hb,hr,hc⟩ l hl
 have hb:∀l∈ls,dj F l=false:=fun l hl=>by simpa using hb l hl
 rcases vQ (hb l hl) with hp|jU
 .rw[ae3 hp];exact e1.2 ⟨fun l hl _=>hb l hl,hr⟩ l hl hp
 rw[ae2 jU];exact e2.2 ⟨fun l hl _=>hb l hl,hc⟩ l hl jU
theorem atk{o:List Nat}(hs:o.Pairwise (· < ·))(aw:∀x∈o,x<o.length):∀(k:Nat) (h:k<o.length),o[k]=k:=by
 rw[NX] at hs;have lo:∀(k:Nat) (h:k<o.length),k<=o[k]:=by
  intro k
  induction k with
  |zero=>intro _;omega
  |succ k ih=>intro h;have:=ih aa;have:=hs k (k+1) aa h aa;omega
 have hi:∀(d k:Nat) (h:k<o.length),k+d+1=o.length->o[k]<=k:=by
  intro d
  induction d with
  |zero=>intro k h e;have:=aw _ (List.getElem_mem h);omega
  |succ d ih=>intro k h e;have:=ih (k+1) aa aa;have:=hs k (k+1) h aa aa;omega
 intro k h;have:=lo k h;have:=hi (o.length-k-1) k h aa;omega
theorem anX{key:Nat->Nat}{p:Nat->Bool}{i:Nat}:∀ {o:List Nat},o.Pairwise (fun a b=>key a<key b)->(∀x∈o,p x=decide (key x<key i))->(∀x∈o,key x≠key i)->
  (o.take (o.takeWhile p).length++i::o.drop (o.takeWhile p).length).Pairwise (fun a b=>key a<key b):=by
 intro o
 induction o with
 |nil=>intro _ _ _;simp
 |cons a o ih=>
  intro hs hp hn;rw[ui] at hs;have pa:=hp a Hl;have na:=hn a Hl;by_cases aw:key a<key i
  .have Np:p a=true:=by rw[pa];simpa using aw
   rw[List.takeWhile_cons,if_pos Np];simp only[cq,List.take_succ_cons,List.drop_succ_cons,jg];rw[ui];refine⟨fun b hb=>?_,ih hs.2 (fun x hx=>hp x (w6 _ hx)) (fun x hx=>hn x (w6 _ hx))⟩;rcases eF.1 hb with hb|hb
   .exact hs.1 b (vJ hb)
   rcases cM.1 hb with rfl|hb
   .exact aw
   exact hs.1 b (vI hb)
  have Np:¬p a=true:=by rw[pa];simpa using aw
  rw[List.takeWhile_cons,if_neg Np];simp only[dN,List.take_zero,List.drop_zero,fp];rw[ui,ui];refine⟨fun b hb=>?_,hs⟩;rcases cM.1 hb with rfl|hb
  .omega
  have:=hs.1 b hb;omega
theorem GN{ls:List Let}{i:Nat}{l:Let}(h:ls[i]?=some l)(hp:l.aA=true):Bb ls i=dM ls l:=by simp[Bb,h,hp]
structure BO (F:Nat) (ls:List Let):Prop where
 eU:∀l∈ls,l.aA=true->uw F ls l
 inj:∀(i j:Nat) (l m:Let),ls[i]?=some l->ls[j]?=some m->l.aA=true->m.aA=true->dM ls l=dM ls m->i=j
theorem Ym{ls:List Let}(h:BO F ls):∀k,k<=ls.length->(um ls k).Pairwise (fun a b=>Bb ls a<Bb ls b):=by
 intro k
 induction k with
 |zero=>intro _;simp[um]
 |succ k ih=>
  intro hk;have ih:=ih aa;rw[KC];obtain⟨l,hl⟩:=aK (show k<ls.length by omega);unfold BP;rw[hl];simp only;cases hp:l.aA with
  |false=>simpa using ih
  |true=>
   simp only[if_true];unfold EE;have hm:=fun {x:Nat} (hx:x∈um ls k)=>(Yl (ls:=ls) (k:=k) aa).1 hx;refine anX ih (fun x hx=>?_) (fun x hx e=>?_)
   .obtain⟨h1,m,hm,wE⟩:=hm hx;rw[GN hm wE,GN hl hp];unfold M5;rw[hm,hl];simp only;have:=aqr (h.eU m (aU hm) wE) (h.eU l (aU hl) hp);cases hb:PU m l with
    |true=>simpa using this.1 hb
    |false=>symm;rw[decide_eq_false_iff_not];intro hc;rw[this.2 hc] at hb;cases hb
   obtain⟨h1,m,hm,wE⟩:=hm hx;rw[GN hm wE,GN hl hp] at e;have:=h.inj x k m l hm hl wE hp e;omega
theorem aiK{ls:List Let}:∀k,k<=ls.length->(um ls k).length=ay Let.aA (ls.take k):=by
 intro k
 induction k with
 |zero=>intro _;simp[um,ay]
 |succ k ih=>
  intro hk;have ih:=ih aa;rw[KC];obtain⟨l,hl⟩:=aK (show k<ls.length by omega);unfold BP;rw[hl];simp only;cases hp:l.aA with
  |false=>rw[HN hl hp];simpa using ih
  |true=>simp only[if_true];rw[anS,KP hl hp,ih]
theorem HB{ls:List Let}:(aE ls).length=ay Let.aA ls:=by have:=aiK (ls:=ls) ls.length (aX _);rwa[jh] at this
theorem Fs{ls:List Let}(h:qe F ls):fv ls (F+1)=(aE ls).length:=by
 rw[HB,abh];apply List.countP_congr;intro l hl;cases hp:l.aA with
 |false=>simp
 |true=>have:=h l hl hp;simp only[Ds,cH,decide_eq_true_eq,iff_true];omega
theorem BO.qe{ls:List Let}(h:BO F ls):qe F ls:=fun l hl hp=>⟨(h.eU l hl hp).g0,(h.eU l hl hp).g1⟩
theorem BQ{ls:List Let}(h:BO F ls){k i:Nat}(hk:(aE ls)[k]?=some i):∃l,ls[i]?=some l/\l.aA=true/\dM ls l=k:=by
 have hs:((aE ls).map (Bb ls)).Pairwise (· < ·):=by rw[yG];exact Ym h ls.length (aX _)
 have hT:=Fs h.qe;have aw:∀x∈(aE ls).map (Bb ls),x<((aE ls).map (Bb ls)).length:=by intro x hx;obtain⟨j,hj,rfl⟩:=dq.1 hx;obtain⟨l,hl,hp⟩:=uS.1 hj;rw[GN hl hp,cF,<- hT];exact WA (h.eU l (aU hl) hp)
 obtain⟨dV,jH⟩:=aS.1 hk;have:=atk hs aw k (by rw[cF];exact dV);rw[Dw,jH] at this;obtain⟨l,hl,hp⟩:=uS.1 (aU hk);exact⟨l,hl,hp,by rw[<- GN hl hp];exact this⟩
theorem Oh{ls:List Let}(h:BO F ls){i:Nat}{l:Let}(hl:ls[i]?=some l)(hp:l.aA=true):(aE ls)[dM ls l]?=some i:=by have aw:=WA (h.eU l (aU hl) hp);rw[Fs h.qe] at aw;obtain⟨j,hj⟩:=aK aw;obtain⟨m,hm,wE,he⟩:=BQ h hj;rw[hj,h.inj j i m l hm hl wE hp he]
theorem HC{ls:List Let}(h:BO F ls){i:Nat}{l:Let}(hl:ls[i]?=some l)(hp:l.aA=true):(aE ls).idxOf i=dM ls l:=by have h1:=Oh h hl hp;have h2:=anG (aU h1);obtain⟨m,hm,wE,he⟩:=BQ h h2;rw[hl] at hm;cases hm;exact he.symm
theorem aiO{ls:List Let}(h:BO F ls):sC ls (fv ls (F+1)) ls.length=aE ls:=by
 apply w5
 .rw[Yj,Fs h.qe]
 intro k h1 h2;simp only[sC,Dw,Ks];obtain⟨l,hl,hp,he⟩:=BQ h (nG h2);generalize (aE ls)[k]=i at hl;unfold axP;have nh:=(aS.1 hl).1;have hf:(List.range ls.length).find? (sI ls k)=some i:=by
  refine DT nh (fun j hj=>?_) ?_
  .cases hh:sI ls k j with
   |false=>rfl
   |true=>
    unfold sI at hh;split at hh
    .rename_i m hm;simp only[cH,beq_iff_eq] at hh;have:=h.inj j i m l hm hl hh.1 hp (by rw[hh.2,he]);omega
    cases hh
  rw[Me hl hp];simp[he]
 rw[hf];rfl
theorem Ql{ls:List Let}(hr:kW ls=true){i:Nat}{l:Let}(hl:ls[i]?=some l)(hc:l.aC=true):fX ls ls.length l.id (!l.over)=some (ib ls i)/\ib ls i<ls.length:=by
 have MO:=Xf ls;unfold kW at hr;simp only[cH,beq_iff_eq,jf,fm] at hr;obtain⟨⟨he,hx⟩,hlen⟩:=hr;obtain⟨hid,hp⟩:=Hc.1 hx;have hle:∀id∈eE ls ls.length,ay (uC id) ls<=2:=fun id _=>by rw[PK id];have:=Ax hp id true;have:=Ax hp id false;omega
 have h2:=X9 _ hle (by rw[MO,hlen];omega) l.id (PA (aU hl) hc);have e1:=VW l.id l.over ls;have b1:=Ax hp l.id l.over;have b2:=Ax hp l.id (!l.over);obtain⟨x,hx,nU⟩:=Bz.1 (show 0<ls.countP (rT l.id (!l.over)) by show 0<ay (rT l.id (!l.over)) ls;omega);obtain⟨p,j7⟩:=jD hx;obtain⟨x1,x2,x3⟩:=qk.1 nU;have hpn:=(aS.1 j7).1;have iG:p≠i:=by
  rintro rfl
  rw[hl] at j7;cases j7;revert x3;cases l.over<;>simp
 have uniq:∀(j:Nat) (m:Let),ls[j]?=some m->m.aC=true->m.id=l.id->j≠i->j=p:=by intro j m hj mc mi AL;refine Decidable.byContradiction fun aF=>?_;have o1:=(hp j i m l hj hl mc hc mi AL).1;have o2:=(hp j p m x hj j7 mc x1 (by rw[mi,x2]) aF).1;rw[x3] at o2;revert o1 o2;cases m.over<;>cases l.over<;>simp
 have zw:(List.range ls.length).find? (Jw ls i)=some p:=by
  refine DT hpn (fun j hj=>?_) ?_
  .cases hh:Jw ls i j with
   |false=>rfl
   |true=>
    unfold Jw at hh;simp only[cH,bne_iff_ne,ne_eq] at hh;obtain⟨h1,h2⟩:=hh;split at h2
    .rename_i m hm;simp only[cH,beq_iff_eq,hl,jZ,mS] at h2;have:=uniq j m hm h2.1 h2.2 h1;omega
    cases h2
  unfold Jw;rw[j7];simp[iG,x1,hl,x2]
 have ho:ib ls i=p:=by unfold ib;rw[zw];rfl
 rw[ho];refine⟨?_,hpn⟩;unfold fX;refine DT hpn (fun j hj=>?_) ?_
 .cases hh:qS ls l.id (!l.over) j with
  |false=>rfl
  |true=>
   obtain⟨m,hm,mc,mi,mo⟩:=Ay hh;have AL:j≠i:=by
    rintro rfl
    rw[hl] at hm;cases hm;revert mo;cases l.over<;>simp
   have:=uniq j m hm mc mi AL;omega
 rw[IJ j7];exact nU
end
end Go.Abs
