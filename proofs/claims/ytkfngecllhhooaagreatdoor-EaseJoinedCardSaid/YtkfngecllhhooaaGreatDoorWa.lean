/- A part. -/
import Derived.Test.YtkfngecllhhooaaGreatDoorSa
set_option linter.all false
set_option maxRecDepth 100000
set_option maxHeartbeats 16000000
namespace Go.Abs
section
variable{f:Int}{F:Nat}
structure Let where
 kind:Int
 gate:Int
 aag:Int
 id:Int
 sign:Int
 over:Bool
 deriving DecidableEq
def Let.ps(l:Let):List PV:=[.int .i64 l.kind,.int .i64 l.gate,.int .i64 l.aag,.int .i64 l.id,.int .i64 l.sign,.bool l.over]
def Let.aH(l:Let):Bool:=l.kind==1
def Let.aD(l:Let):Bool:=l.kind==2
abbrev eB(ls:List Let):PV:=.sl (ls.map Let.ps)
abbrev bj(f:Int)(ls:List Let):V:=.agg [.p (.int .i64 f),.p (eB ls)]
abbrev vi(k:Int):V:=.one (.p (.int .i64 k))
abbrev vb(b:Bool):V:=.one (.p (.bool b))
abbrev ri(k:Int):RV:=.one (.p (.int .i64 k))
abbrev rb(k:Bool):RV:=.one (.p (.bool k))
abbrev aA(p:Let->Bool)(ls:List Let):Nat:=ls.countP p
theorem ao{α:Type}{ls:List α}{k:Nat}(h:k<ls.length):∃l,ls[k]?=some l:=⟨ls[k],by simp[h]⟩
theorem uJ{p:Let->Bool}{ls:List Let}{k:Nat}{l:Let}(h:ls[k]?=some l)(hp:p l=true):aA p (ls.take (k+1))=aA p (ls.take k)+1:=by unfold aA;obtain⟨hk,rfl⟩:=aai.1 h;rw[List.take_succ_eq_append_getElem hk,acb,List.countP_singleton,if_pos hp]
theorem nK{p:Let->Bool}{ls:List Let}{k:Nat}{l:Let}(h:ls[k]?=some l)(hp:p l=false):aA p (ls.take (k+1))=aA p (ls.take k):=by unfold aA;obtain⟨hk,rfl⟩:=aai.1 h;rw[List.take_succ_eq_append_getElem hk,acb,List.countP_singleton,hp];rfl
theorem mE(p:Let->Bool)(ls:List Let)(k:Nat):aA p (ls.take k)<=k:=abm adC (by rw[aa2];exact Nat.min_le_left _ _)
theorem kI(p:Let->Bool)(ls:List Let):aA p ls<=ls.length:=adC
theorem fQ{ls:List Let}{k:Nat}{l:Let}(h:ls[k]?=some l):(ls.map Let.ps)[k]?=some l.ps:=by simp[h]
theorem wrap_add{a b:Nat}(h:a+b<=9223372036854775807):IntKind.i64.wrap ((a:Int)+(b:Int))=((a+b:Nat):Int):=wrap_small (n:=a+b) h
theorem eV{a:Nat}(h:2*a<=9223372036854775807):IntKind.i64.wrap (2*(a:Int))=((2*a:Nat):Int):=wrap_small (n:=2*a) h
theorem xB{a b:Nat}(h:b<=a)(h2:a<=9223372036854775807):IntKind.i64.wrap ((a:Int)-(b:Int))=((a-b:Nat):Int):=by
 have:((a:Int)-(b:Int))=((a-b:Nat):Int):=by omega
 rw[this];exact wrap_small (by omega)
theorem lB{a:Nat}(h:1<=a)(h2:a<=9223372036854775807):IntKind.i64.wrap ((a:Int)-1)=((a-1:Nat):Int):=xB (b:=1) h h2
def Dg(x y:Option (List PV×List Nat))(f:Nat):Option (PV×List Nat):=match x,y with
 |some (x,r),some (y,s)=>some (.fn f x y,r++s)
 |_,_=>none
theorem Df{x y:List PV}{r s:List Nat}{f:Nat}:Dg (some (x,r)) (some (y,s)) f=some (.fn f x y,r++s):=rfl
theorem Oe{blk:aw}{f:Nat}{a b:List C}:snap blk cG (.hfn f a b)=Dg (collect (snap blk 5) a) (collect (snap blk 5) b) f:=by unfold cG;rw[snap];unfold Dg;rfl
theorem EY{blk:aw}{n id g off:Nat}:snap blk (n+1) (.aam id g off)=tO (blk id) (collect (snap blk n)) id g off:=by rw[snap];rfl
theorem HC{blk:aw}{n id g z off len:Nat}:snap blk (n+1) (.hsl id g z off len)=w6 (blk id) (collect (collect (snap blk n))) id g off len:=by rw[snap];rfl
theorem aK{b:Bool}(h:b=true:=by kernel_rfl):b=true:=h
theorem aJ{f:Nat}{fn:cX}{args:List V}{r:RV}(hf:S.fns f=some fn)(h:W S .all fn.body (lh .all fn.results fun v blk=>fH blk v=some r) (qd args) qG)(hp:S.prim f args=none:=by rfl)(hl:args.length<=fn.ntmps:=by exact aaW rfl):aP S f args r:=X3 hp hf hl h
theorem bY:¬((2:Int)=0):=by decide
theorem iv(a b:Nat):(a:Int).tmod b=((a%b:Nat):Int):=by rw[Int.tmod_eq_emod_of_nonneg (by omega)];rfl
theorem iw(a:Nat):(a:Int).tmod 2=((a%2:Nat):Int):=iv a 2
theorem dZ(a:Nat):(a:Int).tdiv 2=((a/2:Nat):Int):=by rw[Int.tdiv_eq_ediv_of_nonneg (by omega)];rfl
theorem aS{n:Nat}:¬((n:Int)<(n:Int)):=by omega
theorem ps_len(l:Let):l.ps.length=6:=rfl
theorem Qy{blk:aw}{all:List Nat}:tn blk all []=some []:=rfl
attribute [go_sem] Oe Df EY HC Qy
def VZ(g:Int)(l:Let):Bool:=l.aH&&l.gate==g
def tj(g:Int)(l:Let):Bool:=l.aD&&l.id==g
theorem yA(f:Int)(ls:List Let)(hl:ls.length<=1000000):aP S 66 [bj f ls] (ri (aA Let.aH ls)):=by
 refine aJ c66 ?_;simp only[go_sem,i66];refine aV (fun k env _=>env 7=.one (.p (eB ls))/\env 8=vi ls.length/\env 9=vi k/\env 3=vi (aA Let.aH (ls.take k))) 0 ls.length (aan _) ?_ ?_
 .simp only[go_sem];exact⟨rfl,rfl⟩
 rintro k env blk hk ⟨h7,h8,h9,h3⟩
 by_cases hlt:k<ls.length
 .obtain⟨l,hk1⟩:=ao hlt;have hi:=fQ hk1;have aak:((k:Int)<(ls.length:Int)):=by omega
  have hb:=mE (Let.aH) ls k;have w1:=ak (n:=k) (by omega);have w2:=ak (n:=aA (Let.aH) (ls.take k)) (by omega);cases hp:(l.kind==1) with
  |true=>have hc:=uJ (p:=Let.aH) hk1 hp;simp only[go_sem,i66_l1,h3,h7,h8,h9,hi,Let.ps,aak,w1,w2,hp,hc];first|exact hlt|exact⟨hlt,rfl⟩
  |false=>have hc:=nK (p:=Let.aH) hk1 hp;simp only[go_sem,i66_l1,h3,h7,h8,h9,hi,Let.ps,aak,w1,hp,hc];first|exact hlt|exact⟨hlt,rfl⟩
 have:k=ls.length:=by omega
 subst this;rw[abw] at h3;simp only[go_sem,i66_l1,i66_r2,h3,h8,h9,aS]
theorem vD(f:Int)(ls:List Let)(hl:ls.length<=1000000):aP S 36 [bj f ls] (ri (aA Let.aD ls)):=by
 refine aJ c36 ?_;simp only[go_sem,i36];refine aV (fun k env _=>env 7=.one (.p (eB ls))/\env 8=vi ls.length/\env 9=vi k/\env 3=vi (aA Let.aD (ls.take k))) 0 ls.length (aan _) ?_ ?_
 .simp only[go_sem];exact⟨rfl,rfl⟩
 rintro k env blk hk ⟨h7,h8,h9,h3⟩
 by_cases hlt:k<ls.length
 .obtain⟨l,hk1⟩:=ao hlt;have hi:=fQ hk1;have aak:((k:Int)<(ls.length:Int)):=by omega
  have hb:=mE (Let.aD) ls k;have w1:=ak (n:=k) (by omega);have w2:=ak (n:=aA (Let.aD) (ls.take k)) (by omega);cases hp:(l.kind==2) with
  |true=>have hc:=uJ (p:=Let.aD) hk1 hp;simp only[go_sem,i36_l1,h3,h7,h8,h9,hi,Let.ps,aak,w1,w2,hp,hc];first|exact hlt|exact⟨hlt,rfl⟩
  |false=>have hc:=nK (p:=Let.aD) hk1 hp;simp only[go_sem,i36_l1,h3,h7,h8,h9,hi,Let.ps,aak,w1,hp,hc];first|exact hlt|exact⟨hlt,rfl⟩
 have:k=ls.length:=by omega
 subst this;rw[abw] at h3;simp only[go_sem,i36_l1,i36_r2,h3,h8,h9,aS]
theorem wH(f:Int)(ls:List Let)(hl:ls.length<=1000000):aP S 69 [bj f ls] (ri ((aA Let.aD ls/2:Nat))):=by
 have hb:=kI Let.aD ls;have e1:IntKind.i64.wrap ((aA Let.aD ls:Int).tdiv 2)=((aA Let.aD ls/2:Nat):Int):=by
  have:(aA Let.aD ls:Int).tdiv 2=((aA Let.aD ls/2:Nat):Int):=by rw[Int.tdiv_eq_ediv_of_nonneg (by omega)];omega
  rw[this];exact wrap_small (by omega)
 refine aJ c69 ?_;simp only[go_sem,i69,s36,a7 (vD f ls hl),e1,(by decide:¬(2:Int)=0)]
def dn (ls:List Let)(i:Nat):Bool:=aA Let.aH (ls.take i)%2==0
def aI(n i:Nat)(fw:Bool):Nat:=if fw then 2*i else 2*((i+n-1)%n)+1
def vf(ls:List Let)(i j:Nat):Bool:=j !=i&&(match ls[j]? with|some l=>l.aD&&l.id==((ls[i]?).map Let.id).getD 0|none=>false)
def bN(ls:List Let)(i:Nat):Nat:=((List.range ls.length).find? (vf ls i)).getD i
theorem gH{p:Nat->Bool}:∀ {n k:Nat},k<n->(∀j,j<k->p j=false)->p k=true->(List.range n).find? p=some k:=by intro n k hk hn hp;exact List.find?_range_eq_some.2 ⟨hp,by simpa using hk,fun j hj=>by simp[hn j hj]⟩
theorem fT{p:Nat->Bool}{n:Nat}(hn:∀j,j<n->p j=false):(List.range n).find? p=none:=by rw[adn];intro x hx;simp[hn x (by simpa using hx)]
abbrev TW(l:Let):V:=.agg [.p (.int .i64 l.kind),.p (.int .i64 l.gate),.p (.int .i64 l.aag),.p (.int .i64 l.id),.p (.int .i64 l.sign),.p (.bool l.over)]
def Km(a b:Let):Bool:=decide (a.gate<b.gate)||(a.gate==b.gate&&decide (a.aag<b.aag))
abbrev nP(o:List Nat):List (List PV):=o.map fun n:Nat=>[PV.int .i64 (n:Int)]
theorem eZ{o:List Nat}{k n:Nat}(h:o[k]?=some n):(nP o)[k]?=some [.int .i64 (n:Int)]:=by simp[h]
def yM(ls:List Let)(i j:Nat):Bool:=match ls[j]?,ls[i]? with
 |some a,some b=>Km a b
 |_,_=>false
def F2(ls:List Let)(o:List Nat)(i:Nat):List Nat:=o.take (o.takeWhile (yM ls i)).length++i::o.drop (o.takeWhile (yM ls i)).length
def pL(ls:List Let)(o:List Nat)(i:Nat):List Nat:=match ls[i]? with
 |some l=>if l.aH then F2 ls o i else o
 |none=>o
def ae(ls:List Let):List Nat:=(List.range ls.length).foldl (pL ls) []
def l7(ls:List Let)(k:Nat):List Nat:=(List.range k).foldl (pL ls) []
theorem l6(ls:List Let)(k:Nat):l7 ls (k+1)=pL ls (l7 ls k) k:=by unfold l7;rw[ack,adp];rfl
theorem Jd{ls:List Let}{o:List Nat}{i:Nat}{x:Nat}(h:x∈pL ls o i):x∈o\/x=i:=by
 unfold pL at h;split at h
 .split at h
  .unfold F2 at h;rcases aaR.1 h with h|h
   .exact .inl (acf h)
   rcases aat.1 h with h|h
   .exact .inr h
   exact .inl (acd h)
  exact .inl h
 exact .inl h
theorem G0{ls:List Let}:∀ {k x:Nat},x∈l7 ls k->x<k:=by
 intro k
 induction k with
 |zero=>intro x h;simp[l7] at h
 |succ k ih=>
  intro x h;rw[l6] at h;rcases Jd h with h|h
  .have:=ih h;omega
  omega
theorem fC(ls:List Let):∀k,(l7 ls k).length<=k:=by
 intro k
 induction k with
 |zero=>simp[l7]
 |succ k ih=>
  rw[l6];unfold pL;split
  .split
   .unfold F2;simp only[aaY,aaz,aa2,abk];omega
   omega
  omega
theorem Qd(ls:List Let)(o:List Nat)(i:Nat):(F2 ls o i).length=o.length+1:=by unfold F2;simp only[aaY,aaz,aa2,abk];have:=(List.takeWhile_sublist (yM ls i) (l:=o)).length_le;omega
theorem t8{blk:aw}{id g z len ty:Nat}{es:List (List PV)}(h:blk id=(g,some (.arr ty z es)))(hl:len=es.length):fH blk (.one (.hsl id g z 0 len))=some (.one (.own ty z es)):=by subst hl;simp only[fH,jv,ef,fJ,fR,h,aaj,and_self,if_true,abw];rfl
def gC(ls:List Let)(ax:List Nat)(d:Nat):Nat:=
 if 2*ls.length<=d then
  if d%2=0 then aI ls.length (ax.getD (((d-2*ls.length)/2+1)%ax.length) 0) (!dn ls (ax.getD (((d-2*ls.length)/2+1)%ax.length) 0))
  else aI ls.length (ax.getD ((d-2*ls.length)/2) 0) (dn ls (ax.getD ((d-2*ls.length)/2) 0))
 else
  let fw:=d%2==0
  let v:=if fw then (d/2+1)%ls.length else d/2
  match ls[v]? with
  |none=>0
  |some l=>if l.kind==2 then aI ls.length (bN ls v) (fw==(l.over==(l.sign==1)))
   else if dn ls v==fw then 2*ls.length+2*ax.idxOf v else 2*ls.length+2*((ax.idxOf v+ax.length-1)%ax.length)+1
theorem Mn{ls:List Let}{i:Nat}(hi:i<ls.length):bN ls i<ls.length:=by
 unfold bN;cases h:(List.range ls.length).find? (vf ls i) with
 |none=>exact hi
 |some k=>
  have:=ads h
  simpa using this
theorem lL{n i:Nat}{fw:Bool}(hi:i<n):aI n i fw<2*n:=by unfold aI;have:=aaN (i+n-1) (show 0<n by omega);split<;>omega
theorem xM{ls:List Let}{ax:List Nat}{d:Nat}(AN:∀x∈ax,x<ls.length)(hp:∀v l,ls[v]?=some l->(l.kind==2)=false->v∈ax)(hd:d<2*ls.length+2*ax.length):gC ls ax d<2*ls.length+2*ax.length:=by
 have adz:∀k,k<ax.length->ax.getD k 0<ls.length:=fun k hk=>by obtain⟨x,hx⟩:=ao hk;rw[aaC,hx];exact AN x (aae hx)
 unfold gC;by_cases h:2*ls.length<=d
 .rw[if_pos h];have hm:=aaN ((d-2*ls.length)/2+1) (show 0<ax.length by omega);by_cases h2:d%2=0
  .rw[if_pos h2];exact acM (lL (adz _ hm)) (by omega)
  rw[if_neg h2];exact acM (lL (adz _ (by omega))) (by omega)
 rw[if_neg h];have hn:0<ls.length:=by omega
 have hv:(if (d%2==0)=true then (d/2+1)%ls.length else d/2)<ls.length:=by
  split
  .exact aaN _ hn
  omega
 simp only;generalize (if (d%2==0)=true then (d/2+1)%ls.length else d/2)=v at hv;obtain⟨l,hl⟩:=ao hv;rw[hl];simp only;by_cases hk:(l.kind==2)=true
 .rw[if_pos hk];exact acM (lL (Mn hv)) (by omega)
 rw[if_neg hk];have hin:=hp v l hl (by simpa using hk);have hix:ax.idxOf v<ax.length:=adX.2 hin;have hm:=aaN (ax.idxOf v+ax.length-1) (show 0<ax.length by omega);split<;>omega
theorem MH{ax:List Nat}{v:Nat}(h:v∈ax):ax[ax.idxOf v]?=some v:=by have hl:ax.idxOf v<ax.length:=adX.2 h;rw[abZ hl,List.getElem_idxOf hl]
abbrev bP(o:List Bool):List (List PV):=o.map fun b:Bool=>[PV.bool b]
theorem l5{o:List Bool}{k:Nat}{b:Bool}(h:o[k]?=some b):(bP o)[k]?=some [.bool b]:=by simp[h]
theorem Ah(o:List Bool)(k:Nat)(b:Bool):(bP o).set k [.bool b]=bP (o.set k b):=by simp[List.map_set]
def cS(next:Nat->Nat):Nat->Nat->List Bool->List Nat×List Bool
 |0,_,seen=>([],seen)
 |k+1,x,seen=>if seen.getD x true then ([],seen) else (x::(cS next k (next x) (seen.set x true)).1,(cS next k (next x) (seen.set x true)).2)
def mM(s:List Bool):Nat:=s.countP (fun b=> !b)
theorem nW{s:List Bool}{x:Nat}(h:s[x]?=some false):mM (s.set x true)+1=mM s:=by
 induction s generalizing x with
 |nil=>simp at h
 |cons b s ih=>
  cases x with
  |zero=>simp at h;subst h;simp[mM]
  |succ x=>have:=ih (x:=x) (by simpa using h);unfold mM at this ⊢;simp only[List.set_cons_succ,acl];omega
theorem Lj(next:Nat->Nat):∀(k x:Nat) (s:List Bool),(cS next k x s).2.length=s.length:=by
 intro k
 induction k with
 |zero=>intro x s;rfl
 |succ k ih=>
  intro x s;unfold cS;split
  .rfl
  simp[ih]
def fP(next:Nat->Nat)(st:List (List Nat)×List Bool)(d:Nat):List (List Nat)×List Bool:=if st.2.getD d true then st else (st.1++[(cS next (st.2.length+1) d st.2).1],(cS next (st.2.length+1) d st.2).2)
def aL(next:Nat->Nat)(N k:Nat):List (List Nat)×List Bool:=(List.range k).foldl (fP next) ([],List.replicate N false)
def cP(next:Nat->Nat)(N:Nat):List (List Nat):=(aL next N N).1
theorem eh(next:Nat->Nat)(N k:Nat):aL next N (k+1)=fP next (aL next N k) k:=by unfold aL;rw[ack,adp];rfl
theorem jw(next:Nat->Nat)(N:Nat):∀k,(aL next N k).2.length=N:=by
 intro k
 induction k with
 |zero=>simp[aL]
 |succ k ih=>
  rw[eh];unfold fP;split
  .exact ih
  simp[Lj,ih]
theorem ql(next:Nat->Nat)(N:Nat):∀k,(aL next N k).1.length<=k:=by
 intro k
 induction k with
 |zero=>simp[aL]
 |succ k ih=>
  rw[eh];unfold fP;split
  .omega
  simp;exact ih
theorem m9(s:List Bool):mM s<=s.length:=adC
def JM(l o:Let):Bool:=(o.kind==l.kind&&o.gate==l.gate)&&o.aag==l.aag
def Bv(l o:Let):Bool:=((o.kind==l.kind&&o.id==l.id)&&o.sign==l.sign)&& !(o.over==l.over)
def YD(f:Int)(ls:List Let)(l:Let):Bool:= !(((((((l.id !=0||l.sign !=0)||l.over)||decide (l.gate<0))||decide (f<l.gate))||decide (l.aag<1))||decide ((aA (VZ l.gate) ls:Int)<l.aag))||(((aA (JM l) ls:Nat):Int)!=1))
def Mp(ls:List Let)(l:Let):Bool:= !((((((l.gate !=0||l.aag !=0)||(l.sign !=1&&l.sign != -1))||decide (l.id<1))||decide (((aA Let.aD ls/2:Nat):Int)<l.id))||(((aA (Bv l) ls:Nat):Int)!=1))||(((aA (tj l.id) ls:Nat):Int)!=2))
def Yd(f:Int)(ls:List Let)(l:Let):Bool:=if l.kind==1 then YD f ls l else if l.kind==2 then Mp ls l else false
def j5(f:Int)(ls:List Let):Bool:=ls.all (Yd f ls)
theorem Qc{ls:List Let}{o:List Nat}{i x:Nat}:x∈F2 ls o i↔x∈o\/x=i:=by
 unfold F2;generalize (o.takeWhile (yM ls i)).length=K;constructor
 .intro h;rcases aaR.1 h with h|h
  .exact .inl (acf h)
  rcases aat.1 h with h|h
  .exact .inr h
  exact .inl (acd h)
 rintro (h|rfl)
 .rw[<- abA K o] at h;rcases aaR.1 h with h|h
  .exact aaR.2 (.inl h)
  exact aaR.2 (.inr (aat.2 (.inr h)))
 simp
theorem CH{ls:List Let}:∀ {k x:Nat},k<=ls.length->(x∈l7 ls k↔x<k/\ ∃l,ls[x]?=some l/\l.aH=true):=by
 intro k
 induction k with
 |zero=>intro x _;simp[l7]
 |succ k ih=>
  intro x hk;rw[l6];obtain⟨l,hl⟩:=ao (ls:=ls) (k:=k) (by omega);have ih:=ih (x:=x) (by omega);unfold pL;rw[hl];simp only;by_cases hp:l.aH=true
  .rw[if_pos hp,Qc,ih];constructor
   .rintro (⟨h1,h2⟩|rfl)
    .exact⟨by omega,h2⟩
    exact⟨by omega,l,hl,hp⟩
   rintro ⟨h1,h2⟩
   rcases abC.1 h1 with h|rfl
   .exact .inl ⟨h,h2⟩
   exact .inr rfl
  rw[if_neg hp,ih];constructor
  .rintro ⟨h1,h2⟩;exact⟨by omega,h2⟩
  rintro ⟨h1,m,hm,hm2⟩
  rcases abC.1 h1 with h|rfl
  .exact⟨h,m,hm,hm2⟩
  rw[hl] at hm;cases hm;exact(hp hm2).elim
theorem dT{ls:List Let}{x:Nat}:x∈ae ls↔ ∃l,ls[x]?=some l/\l.aH=true:=by
 have:=CH (ls:=ls) (k:=ls.length) (x:=x) (aaj _);have e:ae ls=l7 ls ls.length:=rfl;rw[e,this];constructor
 .rintro ⟨_,h⟩;exact h
 rintro ⟨l,h,h2⟩;exact⟨(aai.1 h).1,l,h,h2⟩
theorem DJ{ls:List Let}(h:j5 f ls=true){v:Nat}{l:Let}(hv:ls[v]?=some l):l.aH=true\/l.aD=true:=by
 have:=(aba.1 h) l (aae hv);unfold Yd at this;unfold Let.aH Let.aD;cases h1:(l.kind==1) with
 |true=>exact .inl rfl
 |false=>
  cases h2:(l.kind==2) with
  |true=>exact .inr rfl
  |false=>rw[h1,h2] at this;simp at this
def dU(ls:List Let):Nat:=(cP (gC ls (ae ls)) (2*ls.length+2*(ae ls).length)).length
def ib(f:Int)(ls:List Let):Bool:=(match ls[0]? with|some l=>l.kind==1|none=>true)&&(aA Let.aH ls%2==0)&&j5 f ls&&(dU ls==aA Let.aH ls+aA Let.aD ls/2+2)
def ay(f:Int)(ls:List Let):Int:=if 400<ls.length\/200<aA Let.aD ls then 7 else if f<0\/40<f then 2 else if ls=[] then 0 else if ib f ls then 0 else 3
def ch(f:Int)(l:Let):Bool:=if l.kind==1 then (((decide (l.gate<0)||decide (f<l.gate))||l.id !=0)||l.sign !=0)||l.over else if l.kind==2 then (l.gate !=0||l.aag !=0)||(l.sign !=1&&l.sign != -1) else true
theorem XL(f:Int)(l:Let)(x1 x2 x3 x4 x5 x6:PV):aP S 65 [TW l,.one (.p (.box [.box [.int .i64 f,x1,x2,x3,x4,x5,x6]]))] (rb (ch f l)):=by
 refine aJ c65 ?_;cases k1:(l.kind==1) with
 |true=>
  cases a1:(decide (l.gate<0)) with
  |true=>
   have a1':(l.gate<0):=of_decide_eq_true a1;have hb:ch f l=true:=by simp only[ch,k1,a1];rfl
   simp only[go_sem,i65,k1,a1',hb];exact aK
  |false=>
   cases a2:(decide (f<l.gate)) with
   |true=>
    have a1':¬(l.gate<0):=of_decide_eq_false a1;have a2':(f<l.gate):=of_decide_eq_true a2;have hb:ch f l=true:=by simp only[ch,k1,a1,a2];rfl
    simp only[go_sem,i65,k1,a1',a2',hb];exact aK
   |false=>
    cases a3:(l.id !=0) with
    |true=>
     have a1':¬(l.gate<0):=of_decide_eq_false a1;have a2':¬(f<l.gate):=of_decide_eq_false a2;have hb:ch f l=true:=by simp only[ch,k1,a1,a2,a3];rfl
     simp only[go_sem,i65,k1,a1',a2',a3,hb];exact aK
    |false=>
     cases a4:(l.sign !=0) with
     |true=>
      have a1':¬(l.gate<0):=of_decide_eq_false a1;have a2':¬(f<l.gate):=of_decide_eq_false a2;have hb:ch f l=true:=by simp only[ch,k1,a1,a2,a3,a4];rfl
      simp only[go_sem,i65,k1,a1',a2',a3,a4,hb];exact aK
     |false=>
      cases a5:(l.over) with
      |true=>
       have a1':¬(l.gate<0):=of_decide_eq_false a1;have a2':¬(f<l.gate):=of_decide_eq_false a2;have hb:ch f l=true:=by simp only[ch,k1,a1,a2,a3,a4,a5];rfl
       simp only[go_sem,i65,k1,a1',a2',a3,a4,a5,hb];exact aK
      |false=>
       have a1':¬(l.gate<0):=of_decide_eq_false a1;have a2':¬(f<l.gate):=of_decide_eq_false a2;have hb:ch f l=false:=by simp only[ch,k1,a1,a2,a3,a4,a5];rfl
       simp only[go_sem,i65,k1,a1',a2',a3,a4,a5,hb];exact aK
 |false=>
  cases k2:(l.kind==2) with
  |true=>
   cases a1:(l.gate !=0) with
   |true=>
    have hb:ch f l=true:=by simp only[ch,k1,k2,a1];rfl
    simp only[go_sem,i65,k1,k2,a1,hb]
   |false=>
    cases a2:(l.aag !=0) with
    |true=>
     have hb:ch f l=true:=by simp only[ch,k1,k2,a1,a2];rfl
     simp only[go_sem,i65,k1,k2,a1,a2,hb]
    |false=>
     cases a3:(l.sign !=1) with
     |true=>
      cases a4:(l.sign != -1) with
      |true=>
       have hb:ch f l=true:=by simp only[ch,k1,k2,a1,a2,a3,a4];rfl
       simp only[go_sem,i65,k1,k2,a1,a2,a3,a4,hb]
      |false=>
       have hb:ch f l=false:=by simp only[ch,k1,k2,a1,a2,a3,a4];rfl
       simp only[go_sem,i65,k1,k2,a1,a2,a3,a4,hb]
     |false=>
      have hb:ch f l=false:=by simp only[ch,k1,k2,a1,a2,a3];rfl
      simp only[go_sem,i65,k1,k2,a1,a2,a3,hb]
  |false=>
   have hb:ch f l=true:=by simp only[ch,k1,k2];rfl
   simp only[go_sem,i65,k1,k2,hb]
abbrev dfn(f:Int)(x1 x2 x3 x4 x5 x6:PV):PV:=.fn 65 [] [.box [.box [.int .i64 f,x1,x2,x3,x4,x5,x6]]]
theorem Ni(f:Int)(ls:List Let)(x1 x2 x3 x4 x5 x6:PV)(hl:ls.length<=1000000)(hn:x1.norm=x1/\x2.norm=x2/\x3.norm=x3/\x4.norm=x4/\x5.norm=x5/\x6.norm=x6):
  ∃k:Int,(0<=k↔ls.any (ch f)=true)/\aP S 79 [.one (.p (eB ls)),.one (.p (dfn f x1 x2 x3 x4 x5 x6))] (ri k):=by
 have main:∀r:Int,(∀(k:Nat) l,ls[k]?=some l->ch f l=true->(∀(j:Nat) m,j<k->ls[j]?=some m->ch f m=false)->r=k)->((∀(j:Nat) m,ls[j]?=some m->ch f m=false)->r= -1)->
   aP S 79 [.one (.p (eB ls)),.one (.p (dfn f x1 x2 x3 x4 x5 x6))] (ri r):=by
  intro r hr1 hr2;refine aJ c79 ?_;simp only[go_sem,i79];refine aV (fun k env blk=>env 0=.one (.p (eB ls))/\env 1=.one (.p (dfn f x1 x2 x3 x4 x5 x6))/\env 7=vi ls.length/\env 8=vi k/\ ∀j m,j<k->ls[j]?=some m->ch f m=false) 0 ls.length (aan _) ?_ ?_
  .simp only[go_sem];exact⟨rfl,fun j m h=>absurd h (abW j)⟩
  rintro k env blk hk ⟨h0,h1,h7,h8,hn⟩
  by_cases hlt:k<ls.length
  .obtain⟨l,hkl⟩:=ao hlt;have hi:=fQ hkl;have aak:((k:Int)<(ls.length:Int)):=by omega
   have w1:=ak (n:=k) (by omega);have pb:=XL f l x1 x2 x3 x4 x5 x6;cases hb:ch f l with
   |true=>rw[hb] at pb;have hr:=hr1 k l hkl hb hn;subst hr;simp only[go_sem,i79_l1,h0,h1,h7,h8,hi,Let.ps,aak,s65,au pb]
   |false=>
    rw[hb] at pb;simp only[go_sem,i79_l1,h0,h1,h7,h8,hi,Let.ps,aak,w1,s65,au pb];refine⟨hlt,fun j m hj hm=>?_⟩;rcases abC.1 hj with hj|rfl
    .exact hn j m hj hm
    rw[hkl] at hm;cases hm;exact hb
  have:k=ls.length:=by omega
  subst this;have hr:=hr2 fun j m hm=>hn j m (aai.1 hm).1 hm;subst hr;simp only[go_sem,i79_l1,i79_r2,h7,h8,aS]
 cases ha:ls.any (ch f) with
 |true=>
  have hx:ls.findIdx (ch f)<ls.length:=List.findIdx_lt_length_of_exists (by simpa using ha);refine⟨(ls.findIdx (ch f):Nat),⟨fun _=>rfl,fun _=>by omega⟩,main _ ?_ ?_⟩
  .intro k l hkl hb hn;have hk:=(aai.1 hkl).1;have h1:ch f ls[ls.findIdx (ch f)]=true:=List.findIdx_getElem;rcases Nat.lt_trichotomy (ls.findIdx (ch f)) k with h|h|h
   .have:=hn _ _ h (abZ hx);rw[h1] at this;cases this
   .rw[h]
   have:=List.not_of_lt_findIdx h;have e:ls[k]=l:=by rw[abZ hk] at hkl;exact abP hkl
   rw[e,hb] at this;simp at this
  intro hn;have h1:ch f ls[ls.findIdx (ch f)]=true:=List.findIdx_getElem;have:=hn _ _ (abZ hx);rw[h1] at this;cases this
 |false=>refine⟨-1,⟨fun h=>by omega,fun h=>by cases h⟩,main _ ?_ (fun _=>rfl)⟩;intro k l hkl hb _;have:=acW.1 ha l (aae hkl);exact(this hb).elim
theorem I1(f:Int)(ls:List Let)(x1 x2 x3 x4 x5 x6:PV)(hl:ls.length<=1000000)(hn:x1.norm=x1/\x2.norm=x2/\x3.norm=x3/\x4.norm=x4/\x5.norm=x5/\x6.norm=x6):
  aP S 64 [.one (.p (eB ls)),.one (.p (dfn f x1 x2 x3 x4 x5 x6))] (rb (ls.any (ch f))):=by
 obtain⟨k,hk,pk⟩:=Ni f ls x1 x2 x3 x4 x5 x6 hl hn;refine aJ c64 ?_;cases ha:ls.any (ch f) with
 |true=>have h0:=hk.2 ha;simp only[go_sem,i64,s79,a7 pk,h0]
 |false=>
  have h0:¬0<=k:=fun h=>by rw[hk.1 h] at ha;cases ha
  simp only[go_sem,i64,s79,a7 pk,h0]
abbrev ZJ(f:Int)(ls:List Let)(x2 x3 x4 x5 x6:PV):PV:=.box [.int .i64 f,eB ls,x2,x3,x4,x5,x6]
theorem I0(f:Int)(ls:List Let)(x2 x3 x4 x5 x6:PV)(hl:ls.length<=1000000)(hn:x2.norm=x2/\x3.norm=x3/\x4.norm=x4/\x5.norm=x5/\x6.norm=x6):
  aP S 50 [.one (.p (ZJ f ls x2 x3 x4 x5 x6))] (rb (!ls.any (ch f))):=by
 have pc:=I1 f ls (eB ls) x2 x3 x4 x5 x6 hl ⟨rfl,hn.1,hn.2.1,hn.2.2.1,hn.2.2.2.1,hn.2.2.2.2⟩;refine aJ c50 ?_;simp only[go_sem,i50,s64,au pc]
theorem M9(f:Int)(ls:List Let)(l0:Let)(x2 x3 x4 x5 x6:PV)(hl:ls.length<=1000000)(h0:ls[0]?=some l0):
  aP S 51 [.one (.p (ZJ f ls x2 x3 x4 x5 x6))] (rb (l0.kind==1&&aA Let.aH ls%2==0)):=by
 have pp:=yA f ls hl;have hi0:=fQ h0;refine aJ c51 ?_;have e2:((((aA Let.aH ls)%2:Nat):Int)==0)=(aA Let.aH ls%2==0):=by
  cases h:(aA Let.aH ls%2==0) with
  |true=>simp at h ⊢;omega
  |false=>simp at h ⊢;omega
 cases hk:(l0.kind==1) with
 |true=>simp only[go_sem,i51,hi0,Let.ps,hk,s66,a7 pp,iw,bY,e2]
 |false=>simp only[go_sem,i51,hi0,Let.ps,hk]
def Aj(g:Nat)(l:Let):Bool:=l.aH&&l.gate==(g:Int)
abbrev cg(ls:List Let)(g:Nat):Nat:=aA (Aj g) ls
def eK(ls:List Let)(F k:Nat):List Nat:=(List.range (F+1)).map fun g=>cg (ls.take k) g
def counts(ls:List Let)(F:Nat):List Nat:=(List.range (F+1)).map (cg ls)
theorem zR{ls:List Let}{k G:Nat}(h:G<=F):(eK ls F k)[G]?=some (cg (ls.take k) G):=by simp[eK,abT (show G<F+1 by omega)]
theorem qV(ls:List Let)(F:Nat):eK ls F ls.length=counts ls F:=by simp[eK,counts]
theorem pz(ls:List Let)(F:Nat):eK ls F 0=List.replicate (F+1) 0:=by apply acm<;>simp[eK]
theorem uF{ls:List Let}{k:Nat}{l:Let}(h:ls[k]?=some l)(hp:l.aH=false):eK ls F (k+1)=eK ls F k:=by unfold eK;congr 1;funext g;exact nK h (by simp[Aj,hp])
theorem wJ{ls:List Let}{k G:Nat}{l:Let}(h:ls[k]?=some l)(hp:l.aH=true)(hg:l.gate=(G:Int)):
  eK ls F (k+1)=(eK ls F k).set G (cg (ls.take k) G+1):=by
 apply acm
 .simp[eK]
 intro i h1 h2;rw[adu];simp only[eK,ac1,adv];split
 .rename_i e;subst e;exact uJ h (by simp[Aj,hp,hg])
 exact nK h (by simp[Aj,hg];intro _ e;omega)
theorem vj(o:List Nat)(k n:Nat):(nP o).set k [.int .i64 (n:Int)]=nP (o.set k n):=by simp[List.map_set]
theorem Ic(o:List Nat):(nP o).length=o.length:=by simp
theorem Ib(n m:Nat):nP (List.replicate n m)=List.replicate n [.int .i64 (m:Int)]:=by simp
theorem Rm(n:Nat)(b:Bool):bP (List.replicate n b)=List.replicate n [.bool b]:=by simp
theorem zH{ls:List Let}{k:Nat}{l:Let}(h:ls[k]?=some l)(hp:l.aH=true):dn ls (k+1)= !dn ls k:=by
 unfold dn;rw[uJ h hp];cases hc:(aA Let.aH (ls.take k)%2==0) with
 |true=>simp at hc ⊢;omega
 |false=>simp at hc ⊢;omega
theorem uD{ls:List Let}{k:Nat}{l:Let}(h:ls[k]?=some l)(hp:l.aH=false):dn ls (k+1)=dn ls k:=by unfold dn;rw[nK h hp]
def r8(ls:List Let)(i:Nat):Bool:=match ls[i]? with|some l=>l.aH&&dn ls i|none=>false
def im(ls:List Let)(k:Nat):List Bool:=(List.range ls.length).map fun i=>decide (i<k)&&r8 ls i
def eN(ls:List Let):List Bool:=(List.range ls.length).map (r8 ls)
theorem GB(ls:List Let):im ls 0=List.replicate ls.length false:=by apply acm<;>simp[im]
theorem IZ(ls:List Let):im ls ls.length=eN ls:=by unfold im eN;apply ac2;intro i hi;simp[aaX.1 hi]
theorem IX(ls:List Let)(k:Nat):(im ls k).length=ls.length:=by simp[im]
theorem GC{ls:List Let}{k:Nat}{l:Let}(h:ls[k]?=some l)(hp:l.aH=false):im ls (k+1)=im ls k:=by
 unfold im;apply ac2;intro i hi;by_cases e:i=k
 .subst e;simp[r8,h,hp]
 have:(i<k+1)↔(i<k):=by omega
 simp[this]
theorem IY{ls:List Let}{k:Nat}{l:Let}(h:ls[k]?=some l)(hp:l.aH=true):im ls (k+1)=(im ls k).set k (dn ls k):=by
 apply acm
 .simp[im]
 intro i h1 h2;rw[adu];simp only[im,ac1,adv];split
 .rename_i e;subst e;simp[r8,h,hp]
 have:(i<k+1)↔(i<k):=by omega
 simp[this]
def bi(ls:List Let)(g:Nat):Nat:=((List.range g).map (cg ls)).sum
theorem cE(ls:List Let)(g:Nat):bi ls (g+1)=bi ls g+cg ls g:=by simp[bi,ack]
def gY(ls:List Let)(F k:Nat):List Nat:=(List.range (F+1)).map fun g=>if g<k then bi ls g else 0
def vz(ls:List Let)(F:Nat):List Nat:=(List.range (F+1)).map (bi ls)
theorem DW(ls:List Let)(F:Nat):gY ls F 0=List.replicate (F+1) 0:=by apply acm<;>simp[gY]
theorem Gl(ls:List Let)(F:Nat):gY ls F (F+1)=vz ls F:=by unfold gY vz;apply ac2;intro i hi;simp[aaX.1 hi]
theorem Gk(ls:List Let)(F k:Nat):(gY ls F k).length=F+1:=by simp[gY]
theorem Gj(ls:List Let)(F k:Nat):gY ls F (k+1)=(gY ls F k).set k (bi ls k):=by
 apply acm
 .simp[gY]
 intro i h1 h2;rw[adu];simp only[gY,ac1,adv];by_cases e:k=i
 .subst e;simp
 have:(i<k+1)↔(i<k):=by omega
 simp only[this,if_neg e]
theorem nJ{ls:List Let}{G:Nat}(h:G<=F):(counts ls F)[G]?=some (cg ls G):=by simp[counts,abT (show G<F+1 by omega)]
theorem MV{ls:List Let}{G:Nat}(h:G<=F):(vz ls F)[G]?=some (bi ls G):=by simp[vz,abT (show G<F+1 by omega)]
theorem eo{ls:List Let}{a b:Nat}(h:a<=b):bi ls a<=bi ls b:=by
 induction h with
 |refl=>exact aaj _
 |step _ ih=>rw[cE];omega
theorem Nq(g:Nat)(a:Let):((a.aH&&(decide (0<=a.gate)&&decide (a.gate<((g+1:Nat):Int))))=true)↔((a.aH&&(decide (0<=a.gate)&&decide (a.gate<(g:Int))))=true\/Aj g a=true):=by
 simp only[Aj,aay,decide_eq_true_eq,beq_iff_eq];constructor
 .rintro ⟨h1,h2,h3⟩
  by_cases h:a.gate=(g:Int)
  .exact Or.inr ⟨h1,h⟩
  exact Or.inl ⟨h1,h2,by omega⟩
 rintro (⟨h1,h2,h3⟩|⟨h1,h2⟩)
 .exact⟨h1,h2,by omega⟩
 exact⟨h1,by omega,by omega⟩
theorem UT(g:Nat)(a:Let):(a.aH&&(decide (0<=a.gate)&&decide (a.gate<(g:Int))))=true->Aj g a=true->False:=by simp only[Aj,aay,decide_eq_true_eq,beq_iff_eq];omega
theorem vG{p q r:Let->Bool}(h:∀a,r a=true↔(p a=true\/q a=true))(hn:∀a,p a=true->q a=true->False):∀ls:List Let,ls.countP r=ls.countP p+ls.countP q:=by
 intro ls
 induction ls with
 |nil=>rfl
 |cons a ls ih=>rw[acl,acl,acl,ih];have h1:=h a;have h2:=hn a;cases ep:p a<;>cases eq:q a<;>cases er:r a<;>simp_all<;>omega
theorem zq(ls:List Let):∀g,bi ls g=aA (fun l=>l.aH&&(decide (0<=l.gate)&&decide (l.gate<((g:Nat):Int)))) ls:=by
 intro g
 induction g with
 |zero=>symm;show ls.countP _=0;rw[adh];intro a _;simp only[aay,decide_eq_true_eq];omega
 |succ g ih=>rw[cE,ih];exact(vG (Nq g) (UT g) ls).symm
theorem vA(ls:List Let)(g:Nat):bi ls g<=ls.length:=by rw[zq];exact kI _ _
def cY(ls:List Let)(l:Let):Nat:=bi ls l.gate.toNat+l.aag.toNat-1
def j7(ls:List Let)(p i:Nat):Bool:=match ls[i]? with|some l=>l.aH&&cY ls l==p|none=>false
def jz(ls:List Let)(T k:Nat):List Bool:=(List.range T).map fun p=>(List.range k).any (j7 ls p)
def ZW(ls:List Let)(k p:Nat):Nat:=((List.range k).find? (j7 ls p)).getD 0
def rh(ls:List Let)(T k:Nat):List Nat:=(List.range T).map (ZW ls k)
def Sg(ls:List Let)(i:Nat):Nat:=match ls[i]? with|some l=>if l.aH then cY ls l else 0|none=>0
def sC(ls:List Let)(k:Nat):List Nat:=(List.range ls.length).map fun i=>if i<k then Sg ls i else 0
def qB(ls:List Let)(i:Nat):Bool:=match ls[i]? with
 |some l=> !l.aH||(decide (1<=l.aag)&&decide (l.aag<=(cg ls l.gate.toNat:Int)))&& !(List.range i).any (j7 ls (cY ls l))
 |none=>true
def kz(ls:List Let):Bool:=(List.range ls.length).all (qB ls)
theorem EN(ls:List Let)(T:Nat):jz ls T 0=List.replicate T false:=by apply acm<;>simp[jz]
theorem No(ls:List Let)(T:Nat):rh ls T 0=List.replicate T 0:=by apply acm<;>simp[rh,ZW]
theorem O4(ls:List Let):sC ls 0=List.replicate ls.length 0:=by apply acm<;>simp[sC]
theorem G9(ls:List Let)(T k:Nat):(rh ls T k).length=T:=by simp[rh]
theorem Ts(ls:List Let)(k:Nat):(sC ls k).length=ls.length:=by simp[sC]
theorem Lt{ls:List Let}{T k p:Nat}(h:p<T):(jz ls T k)[p]?=some ((List.range k).any (j7 ls p)):=by simp[jz,h]
theorem yY{ls:List Let}{k p:Nat}{l:Let}(h:ls[k]?=some l)(hp:l.aH=false):j7 ls p k=false:=by simp[j7,h,hp]
theorem EO{ls:List Let}{T k:Nat}{l:Let}(h:ls[k]?=some l)(hp:l.aH=false):jz ls T (k+1)=jz ls T k:=by unfold jz;congr 1;funext p;simp[ack,List.any_append,yY h hp]
theorem Np{ls:List Let}{T k:Nat}{l:Let}(h:ls[k]?=some l)(hp:l.aH=false):rh ls T (k+1)=rh ls T k:=by unfold rh;congr 1;funext p;simp[ZW,ack,List.find?_append,yY h hp]
theorem O5{ls:List Let}{k:Nat}{l:Let}(h:ls[k]?=some l)(hp:l.aH=false):sC ls (k+1)=sC ls k:=by
 unfold sC;apply ac2;intro i hi;by_cases e:i=k
 .subst e;simp[Sg,h,hp]
 have:(i<k+1)↔(i<k):=by omega
 simp[this]
theorem qN{ls:List Let}{k p:Nat}{l:Let}(h:ls[k]?=some l)(hp:l.aH=true):j7 ls p k=(cY ls l==p):=by simp[j7,h,hp]
theorem Hz{ls:List Let}{T k:Nat}{l:Let}(h:ls[k]?=some l)(hp:l.aH=true):jz ls T (k+1)=(jz ls T k).set (cY ls l) true:=by
 apply acm
 .simp[jz]
 intro i h1 h2;rw[adu];simp only[jz,ac1,adv,ack,List.any_append,List.any_cons,List.any_nil,Bool.or_false,qN h hp];split
 .rename_i e;simp[e]
 rename_i e;simp[e]
theorem Ro{ls:List Let}{T k:Nat}{l:Let}(h:ls[k]?=some l)(hp:l.aH=true)(hn:(List.range k).any (j7 ls (cY ls l))=false):rh ls T (k+1)=(rh ls T k).set (cY ls l) k:=by
 apply acm
 .simp[rh]
 intro i h1 h2;rw[adu];simp only[rh,ac1,adv,ZW,ack,List.find?_append];by_cases e:cY ls l=i
 .have h3:(List.range k).find? (j7 ls i)=none:=by
   rw[<- e,adn];intro x hx hq;rw[acW] at hn;exact hn x hx hq
  have h4:j7 ls i k=true:=by rw[qN h hp];simp[e]
  rw[h3,if_pos e,List.find?_cons,h4];rfl
 have h4:j7 ls i k=false:=by rw[qN h hp];simp[e]
 rw[if_neg e,List.find?_cons,h4];simp
theorem Tt{ls:List Let}{k:Nat}{l:Let}(h:ls[k]?=some l)(hp:l.aH=true):sC ls (k+1)=(sC ls k).set k (cY ls l):=by
 apply acm
 .simp[sC]
 intro i h1 h2;rw[adu];simp only[sC,ac1,adv];by_cases e:k=i
 .subst e;simp[Sg,h,hp]
 have:(i<k+1)↔(i<k):=by omega
 simp only[this,if_neg e]
theorem yn{ls:List Let}{k:Nat}(hk:k<ls.length)(h:qB ls k=false):kz ls=false:=by unfold kz;rw[List.all_eq_false];exact⟨k,aaX.2 hk,by simp[h]⟩
theorem L1{ls:List Let}(h:∀i,i<ls.length->qB ls i=true):kz ls=true:=by unfold kz;rw[aba];exact fun i hi=>h i (aaX.1 hi)
abbrev Nx(id:Nat):Prop:=id=1280320128\/cH id=52
abbrev KP(F:Nat)(ls:List Let)(c2 c3 c4 c5 c6:C):List C:=[.p (.int .i64 (F:Int)),.p (eB ls),c2,c3,c4,c5,c6]
abbrev hs(id g n:Nat):C:=.hsl id g 1 0 n
abbrev iV(F:Nat)(ls:List Let):Prop:=∀l∈ls,l.aH=true->0<=l.gate/\l.gate<=(F:Int)
def u7(F:Nat)(ls:List Let)(g:Nat)(c5:C)(abf:aw)(v:V)(aaf:aw):Prop:=
 v=vb (kz ls)/\Kept Nx abf aaf/\(kz ls=true->∃g1 g2 g3 g5,aaf 1280320128=(g,some (.var (KP F ls (hs 3328128448 g2 ls.length) (hs 3329344128 g5 (bi ls (F+1))) (hs 3328192448 g3 ls.length) c5 (hs 3328064448 g1 (F+1)))))/\
  aaf 3328064448=(g1,some (.arr 3 1 (nP (counts ls F))))/\aaf 3328128448=(g2,some (.arr 4 1 (bP (eN ls))))/\aaf 3328192448=(g3,some (.arr 3 1 (nP (sC ls ls.length))))/\
  aaf 3329344128=(g5,some (.arr 3 1 (nP (rh ls (bi ls (F+1)) ls.length)))))
theorem rk3{al:Al}(okD:al.ok 1280320128=true)(ok:∀id,cH id=52->al.ok id=true){abf blk:aw}{env:Env}{g g1 g2 g3 g4 F:Nat}{ls:List Let}{c3 c5:C}(hl:ls.length<=1000000)(hF:F<=1000000)(hg:iV F ls)
  (h0:env 0=.one (.aam 1280320128 g 0)) (h6:env 6=.one (hs 3328832384 g4 (F+1))) (h7:env 7=vi (bi ls (F+1)))
  (bD:blk 1280320128=(g,some (.var (KP F ls (hs 3328128448 g2 ls.length) c3 (hs 3328192448 g3 ls.length) c5 (hs 3328064448 g1 (F+1))))))
  (bC:blk 3328064448=(g1,some (.arr 3 1 (nP (counts ls F))))) (bW:blk 3328128448=(g2,some (.arr 4 1 (bP (eN ls))))) (bP':blk 3328192448=(g3,some (.arr 3 1 (nP (sC ls 0)))))
  (bF:blk 3328832384=(g4,some (.arr 3 1 (nP (vz ls F))))) (hk:Kept Nx abf blk):W S al i52_r5 (lh al [(2,none)] (u7 F ls g c5 abf)) env blk:=by
 have o1:=ok 3328064448 rfl;have o2:=ok 3328128448 rfl;have o3:=ok 3328192448 rfl;have o4:=ok 3328448192 rfl;have o5:=ok 3328832384 rfl;have o6:=ok 3329344128 rfl;have o7:=ok 3329408064 rfl;have o8:=ok 3329600192 rfl;have hT:=vA ls (F+1);have hr8:bi ls (F+1)*8<=140737488355328:=by omega
 have hr1:bi ls (F+1)<=140737488355328:=by omega
 simp only[go_sem,i52_r5,h0,h7,bD,hr8,hr1,okD,o6,o7];refine aV (fun k env aaf=>env 0=.one (.aam 1280320128 g 0)/\env 6=.one (hs 3328832384 g4 (F+1))/\env 10=.one (hs 3329408064 ((blk 3329408064).1+1) (bi ls (F+1)))/\env 114=.one (.p (eB ls))/\env 115=vi ls.length/\env 116=vi k/\
  aaf 1280320128=(g,some (.var (KP F ls (hs 3328128448 g2 ls.length) (hs 3329344128 ((blk 3329344128).1+1) (bi ls (F+1))) (hs 3328192448 g3 ls.length) c5 (hs 3328064448 g1 (F+1)))))/\
  aaf 3328064448=(g1,some (.arr 3 1 (nP (counts ls F))))/\aaf 3328128448=(g2,some (.arr 4 1 (bP (eN ls))))/\aaf 3328192448=(g3,some (.arr 3 1 (nP (sC ls k))))/\
  aaf 3328832384=(g4,some (.arr 3 1 (nP (vz ls F))))/\aaf 3329344128=((blk 3329344128).1+1,some (.arr 3 1 (nP (rh ls (bi ls (F+1)) k))))/\aaf 3329408064=((blk 3329408064).1+1,some (.arr 4 1 (bP (jz ls (bi ls (F+1)) k))))/\
  (∀i,i<k->qB ls i=true)/\Kept Nx abf aaf) 0 ls.length (aan _) ?_ ?_
 .simp only[go_sem,h0,h6,bC,bW,bP',bF,No,EN,Ib,Rm];refine⟨rfl,rfl,fun i h=>absurd h (abW i),?_⟩;repeat(first|exact hk|refine Kept.fY ?_ (by first|exact Or.inl rfl|exact Or.inr rfl) _)
 rintro k env aaf hk ⟨h0,h6,h10,ahd,afW,aeo,bD,bC,bW,bP',bF,bA,bT,hok,hkp⟩
 by_cases hlt:k<ls.length
 .obtain⟨l,hkl⟩:=ao hlt;have hi:=fQ hkl;have aak:((k:Int)<(ls.length:Int)):=by omega
  have w1:=ak (n:=k) (by omega);cases hp:(l.kind==1) with
  |false=>
   have hp':l.aH=false:=hp;have hp2:(l.kind !=1)=true:=by simp[bne,hp]
   have hrk:qB ls k=true:=by simp[qB,hkl,hp']
   simp only[go_sem,i52_l3,h0,h6,h10,ahd,afW,aeo,bD,bC,bW,bF,bP',bA,bT,hi,Let.ps,aak,hp2,w1,o8];refine⟨hlt,?_,?_,?_,?_,?_⟩
   .rw[O5 hkl hp']
   .rw[Np hkl hp']
   .rw[EO hkl hp']
   .intro i hi;rcases abC.1 hi with h|rfl
    .exact hok i h
    exact hrk
   repeat(first|exact hkp|refine Kept.fY ?_ (by first|exact Or.inl rfl|exact Or.inr rfl) _)
  |true=>
   have hp':l.aH=true:=hp;have hp2:(l.kind !=1)=false:=by simp[bne,hp]
   obtain⟨hg1,hg2⟩:=hg l (aae hkl) hp';obtain⟨G,hG⟩:=abX hg1;have hGF:G<=F:=by omega
   have aeR:G<F+1:=by omega
   have hca:=eZ (nJ (ls:=ls) hGF);have hfa:=eZ (MV (ls:=ls) hGF);have hgt:l.gate.toNat=G:=by omega
   cases r1:decide (l.aag<1) with
   |true=>
    have r1':l.aag<1:=of_decide_eq_true r1;have r1n:¬1<=l.aag:=by omega
    have hno:=yn hlt (show qB ls k=false by simp[qB,hkl,hp',r1n]);simp only[go_sem,i52_l3,ahd,afW,aeo,hi,Let.ps,aak,hp2,r1',o8];refine⟨aK,?_⟩;unfold u7;refine⟨by rw[hno],?_,fun h=>by rw[hno] at h;cases h⟩;repeat(first|exact hkp|refine Kept.fY ?_ (by first|exact Or.inl rfl|exact Or.inr rfl) _)
   |false=>
    have r1':¬l.aag<1:=of_decide_eq_false r1;obtain⟨R,hR⟩:=abX (show 0<=l.aag by omega);have r1R:¬((R:Int)<1):=by omega
    cases r2:decide ((cg ls G:Int)<(R:Int)) with
    |true=>
     have r2':(cg ls G:Int)<(R:Int):=of_decide_eq_true r2;have r2n:¬l.aag<=(cg ls l.gate.toNat:Int):=by rw[hgt];omega
     have hno:=yn hlt (show qB ls k=false by simp[qB,hkl,hp',r2n]);simp only[go_sem,i52_l3,h0,ahd,afW,aeo,bD,bC,hi,Let.ps,aak,hp2,hR,hG,r1R,r2',hca,aeR,okD,o1,o8];refine⟨aK,?_⟩;unfold u7;refine⟨by rw[hno],?_,fun h=>by rw[hno] at h;cases h⟩;repeat(first|exact hkp|refine Kept.fY ?_ (by first|exact Or.inl rfl|exact Or.inr rfl) _)
    |false=>
     have r2':¬(cg ls G:Int)<(R:Int):=of_decide_eq_false r2;have hfle:=vA ls G;have hmono:=eo (ls:=ls) (show G+1<=F+1 by omega);have hgs:=cE ls G;have hPT:cY ls l<bi ls (F+1):=by unfold cY;rw[hgt];omega
     have hpl:bi ls G+R-1=cY ls l:=by unfold cY;rw[hgt];omega
     have hcl:cg ls G<=ls.length:=kI _ _;have w2:=wrap_add (a:=bi ls G) (b:=R) (by omega);have w3:=lB (a:=bi ls G+R) (by omega) (by omega);rw[hpl] at w3;have hta:=l5 (Lt (ls:=ls) (k:=k) hPT);cases hu:(List.range k).any (j7 ls (cY ls l)) with
     |true=>rw[hu] at hta;have hno:=yn hlt (show qB ls k=false by simp[qB,hkl,hp',hu]);simp only[go_sem,i52_l3,h0,h6,h10,ahd,afW,aeo,bD,bC,bF,bT,hi,Let.ps,aak,hp2,hR,hG,r1R,r2',hca,hfa,aeR,w2,w3,hta,hPT,okD,o1,o5,o7,o8];refine⟨aK,aK,?_⟩;unfold u7;refine⟨by rw[hno],?_,fun h=>by rw[hno] at h;cases h⟩;repeat(first|exact hkp|refine Kept.fY ?_ (by first|exact Or.inl rfl|exact Or.inr rfl) _)
     |false=>
      rw[hu] at hta;have hrk:qB ls k=true:=by
       have e1:1<=l.aag:=by omega
       have e2:l.aag<=(cg ls l.gate.toNat:Int):=by rw[hgt];omega
       simp[qB,hkl,e1,e2,hu]
      obtain⟨a0,haa⟩:=ao (show cY ls l<(rh ls (bi ls (F+1)) k).length by rw[G9];exact hPT);obtain⟨p0,hpa⟩:=ao (show k<(sC ls k).length by rw[Ts];exact hlt);have haa:=eZ haa;have hpa:=eZ hpa;have s1:=Ah (jz ls (bi ls (F+1)) k) (cY ls l) true;rw[<- Hz hkl hp'] at s1;have s2:=vj (rh ls (bi ls (F+1)) k) (cY ls l) k;rw[<- Ro hkl hp' hu] at s2;have s3:=vj (sC ls k) k (cY ls l);rw[<- Tt hkl hp'] at s3;simp only[go_sem,i52_l3,h0,h6,h10,ahd,afW,aeo,bD,bC,bW,bF,bP',bA,bT,hi,Let.ps,aak,hlt,hp2,w1,hR,hG,r1R,r2',hca,hfa,aeR,w2,w3,hta,hPT,haa,hpa,s1,s2,s3,okD,o1,o3,o5,o6,o7,o8];refine⟨aK,aK,aK,?_,?_⟩
      .intro i hi;rcases abC.1 hi with h|rfl
       .exact hok i h
       exact hrk
      repeat(first|exact hkp|refine Kept.fY ?_ (by first|exact Or.inl rfl|exact Or.inr rfl) _)
 have:k=ls.length:=by omega
 subst this;have hr:=L1 hok;simp only[go_sem,i52_l3,i52_r4,afW,aeo,aS];exact⟨by rw[hr],hkp,fun _=>⟨g1,g2,g3,(blk 3329344128).1+1,bD,bC,bW,bP',bA⟩⟩
theorem rk2{al:Al}(okD:al.ok 1280320128=true)(ok:∀id,cH id=52->al.ok id=true){abf blk:aw}{env:Env}{g g1 g2 g3 F:Nat}{ls:List Let}{c3 c5:C}(hl:ls.length<=1000000)(hF:F<=1000000)(hg:iV F ls)
  (h0:env 0=.one (.aam 1280320128 g 0))
  (bD:blk 1280320128=(g,some (.var (KP F ls (hs 3328128448 g2 ls.length) c3 (hs 3328192448 g3 ls.length) c5 (hs 3328064448 g1 (F+1))))))
  (bC:blk 3328064448=(g1,some (.arr 3 1 (nP (counts ls F))))) (bW:blk 3328128448=(g2,some (.arr 4 1 (bP (eN ls))))) (bP':blk 3328192448=(g3,some (.arr 3 1 (nP (sC ls 0)))))
  (hk:Kept Nx abf blk):W S al i52_r6 (lh al [(2,none)] (u7 F ls g c5 abf)) env blk:=by
 have o1:=ok 3328064448 rfl;have o2:=ok 3328128448 rfl;have o3:=ok 3328192448 rfl;have o4:=ok 3328448192 rfl;have o5:=ok 3328832384 rfl;have o6:=ok 3329344128 rfl;have o7:=ok 3329408064 rfl;have o8:=ok 3329600192 rfl;have hr8:(F+1)*8<=140737488355328:=by omega
 have wF:=ak (n:=F) (by omega);simp only[go_sem,i52_r6,h0,bD,wF,hr8,okD,o5];refine aV (fun k env aaf=>env 0=.one (.aam 1280320128 g 0)/\env 6=.one (hs 3328832384 ((blk 3328832384).1+1) (F+1))/\env 7=vi (bi ls k)/\env 88=.one (hs 3328064448 g1 (F+1))/\env 89=vi ((F+1:Nat):Int)/\env 90=vi k/\
  aaf 1280320128=(g,some (.var (KP F ls (hs 3328128448 g2 ls.length) c3 (hs 3328192448 g3 ls.length) c5 (hs 3328064448 g1 (F+1)))))/\
  aaf 3328064448=(g1,some (.arr 3 1 (nP (counts ls F))))/\aaf 3328128448=(g2,some (.arr 4 1 (bP (eN ls))))/\aaf 3328192448=(g3,some (.arr 3 1 (nP (sC ls 0))))/\
  aaf 3328832384=((blk 3328832384).1+1,some (.arr 3 1 (nP (gY ls F k))))/\Kept Nx abf aaf) 0 (F+1) (aan _) ?_ ?_
 .simp only[go_sem,h0,bD,bC,bW,bP',DW,Ib];refine⟨rfl,rfl,rfl,?_⟩;repeat(first|exact hk|refine Kept.fY ?_ (by first|exact Or.inl rfl|exact Or.inr rfl) _)
 rintro k env aaf hk ⟨h0,h6,h7,h88,h89,h90,bD,bC,bW,bP',bF,hkp⟩
 by_cases hlt:k<F+1
 .have aak:((k:Int)<((F+1:Nat):Int)):=by omega
  have w1:=ak (n:=k) (by omega);have hc:=eZ (nJ (ls:=ls) (show k<=F by omega));obtain⟨a0,ha⟩:=ao (show k<(gY ls F k).length by rw[Gk];exact hlt);have ha:=eZ ha;have s1:=vj (gY ls F k) k (bi ls k);rw[<- Gj] at s1;have hs:=cE ls k;have hle:=vA ls (k+1);have w2:=wrap_add (a:=bi ls k) (b:=cg ls k) (by omega);rw[<- hs] at w2;simp only[go_sem,i52_l2,h0,h6,h7,h88,h89,h90,bD,bC,bW,bP',bF,hlt,aak,hc,ha,s1,w1,w2,o1,o5];repeat(first|exact hkp|refine Kept.fY ?_ (by first|exact Or.inl rfl|exact Or.inr rfl) _)
 have:k=F+1:=by omega
 subst this;simp only[go_sem,i52_l2,h89,h90,aS];exact rk3 okD ok hl hF hg h0 h6 h7 bD bC bW bP' (by rw[bF,Gl]) hkp
theorem Tk{al:Al}(okD:al.ok 1280320128=true)(ok:∀id,cH id=52->al.ok id=true){blk:aw}{g F:Nat}{ls:List Let}{c2 c3 c4 c5 c6:C}(hl:ls.length<=1000000)(hF:F<=1000000)(hg:iV F ls)
  (bD:blk 1280320128=(g,some (.var (KP F ls c2 c3 c4 c5 c6)))):∃v aaf,nQ S 52 [.one (.aam 1280320128 g 0)] al blk v aaf/\u7 F ls g c5 blk v aaf:=by
 have o1:=ok 3328064448 rfl;have o2:=ok 3328128448 rfl;have o3:=ok 3328192448 rfl;have o4:=ok 3328448192 rfl;have o5:=ok 3328832384 rfl;have o6:=ok 3329344128 rfl;have o7:=ok 3329408064 rfl;have o8:=ok 3329600192 rfl;refine dO c52 (aaW rfl) ?_;have hr8:(F+1)*8<=140737488355328:=by omega
 have hn8:ls.length*8<=140737488355328:=by omega
 have hn1:ls.length<=140737488355328:=by omega
 have wF:=ak (n:=F) (by omega);simp only[go_sem,i52,bD,wF,hr8,hn8,hn1,okD,o1,o2,o3];refine aV (fun k env aaf=>env 0=.one (.aam 1280320128 g 0)/\env 3=vb (dn ls k)/\env 48=.one (.p (eB ls))/\env 49=vi ls.length/\env 50=vi k/\
  aaf 1280320128=(g,some (.var (KP F ls (hs 3328128448 ((blk 3328128448).1+1) ls.length) c3 (hs 3328192448 ((blk 3328192448).1+1) ls.length) c5 (hs 3328064448 ((blk 3328064448).1+1) (F+1)))))/\
  aaf 3328064448=((blk 3328064448).1+1,some (.arr 3 1 (nP (eK ls F k))))/\aaf 3328128448=((blk 3328128448).1+1,some (.arr 4 1 (bP (im ls k))))/\aaf 3328192448=((blk 3328192448).1+1,some (.arr 3 1 (nP (sC ls 0))))/\
  Kept Nx blk aaf) 0 ls.length (aan _) ?_ ?_
 .simp only[go_sem,bD,pz,GB,O4,Ib,Rm];refine⟨rfl,rfl,rfl,rfl,?_⟩;repeat(first|exact(Kept.refl _ _)|refine Kept.fY ?_ (by first|exact Or.inl rfl|exact Or.inr rfl) _)
 rintro k env aaf hk ⟨h0,h3,h48,h49,h50,bD,bC,bW,bP',hkp⟩
 by_cases hlt:k<ls.length
 .obtain⟨l,hkl⟩:=ao hlt;have hi:=fQ hkl;have aak:((k:Int)<(ls.length:Int)):=by omega
  have w1:=ak (n:=k) (by omega);cases hp:(l.kind==1) with
  |false=>
   have hp':l.aH=false:=hp;simp only[go_sem,i52_l1,h0,h3,h48,h49,h50,bD,bC,bW,bP',hi,Let.ps,aak,hp,w1,o4];refine⟨hlt,?_,?_,?_,?_⟩
   .rw[uD hkl hp']
   .rw[uF hkl hp']
   .rw[GC hkl hp']
   repeat(first|exact hkp|refine Kept.fY ?_ (by first|exact Or.inl rfl|exact Or.inr rfl) _)
  |true=>
   have hp':l.aH=true:=hp;obtain⟨hg1,hg2⟩:=hg l (aae hkl) hp';obtain⟨G,hG⟩:=abX hg1;have hGF:G<=F:=by omega
   have aeR:G<F+1:=by omega
   have hca:=eZ (zR (ls:=ls) (k:=k) hGF);have hcl:cg (ls.take k) G<=k:=mE _ _ _;have w2:=ak (n:=cg (ls.take k) G) (by omega);have s1:=vj (eK ls F k) G (cg (ls.take k) G+1);rw[<- wJ hkl hp' hG] at s1;obtain⟨b0,hb⟩:=ao (show k<(im ls k).length by rw[IX];exact hlt);have hb:=l5 hb;have s2:=Ah (im ls k) k (dn ls k);rw[<- IY hkl hp'] at s2;have hd:=zH hkl hp';simp only[go_sem,i52_l1,h0,h3,h48,h49,h50,bD,bC,bW,bP',hi,Let.ps,aak,hlt,hp,w1,hG,hca,aeR,w2,s1,hb,s2,hd,okD,o1,o2,o4];refine⟨aK,?_⟩;repeat(first|exact hkp|refine Kept.fY ?_ (by first|exact Or.inl rfl|exact Or.inr rfl) _)
 have:k=ls.length:=by omega
 subst this;simp only[go_sem,i52_l1,h49,h50,aS];exact rk2 okD ok hl hF hg h0 bD (by rw[bC,qV]) (by rw[bW,IZ]) bP' hkp
def DQ(ls:List Let)(id:Int)(o:Bool)(j:Nat):Bool:=match ls[j]? with|some m=>m.aD&&(m.id==id&&m.over==o)|none=>false
def eY(ls:List Let)(k:Nat)(id:Int)(o:Bool):Option Nat:=(List.range k).find? (DQ ls id o)
def AQ:Option Nat->Int
 |some j=>j
 |none=> -1
def dI(ls:List Let):Nat->List Int
 |0=>[]
 |k+1=>match ls[k]? with
  |some l=>if l.aD&& !(dI ls k).contains l.id then dI ls k++[l.id] else dI ls k
  |none=>dI ls k
def o0(ls:List Let)(k:Nat)(id:Int):List PV:=[.int .i64 (AQ (eY ls k id false)),.int .i64 (AQ (eY ls k id true))]
def mS(ls:List Let)(k:Nat):List (PV×List PV):=(dI ls k).map fun id=>(PV.int .i64 id,o0 ls k id)
def nZ(ls:List Let)(j:Nat):Int:=((ls[j]?).map Let.sign).getD 0
def vT(ls:List Let)(n2:Nat)(k:Nat):Bool:=match ls[k]? with
 |some l=> !l.aD||((decide (1<=l.id)&&decide (l.id<=(n2:Int)))&&((eY ls k l.id l.over).isNone&&(match eY ls k l.id (!l.over) with|some j=>nZ ls j==l.sign|none=>true)))
 |none=>true
def dK(ls:List Let):Bool:=(aA Let.aD ls%2==0)&&(List.range ls.length).all (vT ls (aA Let.aD ls/2))&&((dI ls ls.length).length==aA Let.aD ls/2)
theorem vw{ls:List Let}{k:Nat}{l:Let}(h:ls[k]?=some l)(hc:l.aD=true)(id:Int)(o:Bool):DQ ls id o k=(l.id==id&&l.over==o):=by simp[DQ,h,hc]
theorem F5{ls:List Let}{k:Nat}{l:Let}(h:ls[k]?=some l)(hc:l.aD=false)(id:Int)(o:Bool):DQ ls id o k=false:=by simp[DQ,h,hc]
theorem rq(ls:List Let)(k:Nat)(id:Int)(o:Bool):eY ls (k+1) id o=(eY ls k id o).or (if DQ ls id o k then some k else none):=by simp only[eY,ack,List.find?_append,List.find?_cons,List.find?_nil];cases DQ ls id o k<;>rfl
theorem jx{ls:List Let}{k:Nat}{id:Int}{o:Bool}{j:Nat}(h:eY ls k id o=some j):j<k/\DQ ls id o j=true:=
 ⟨aaX.1 (ads h),List.find?_some h⟩
theorem iF{ls:List Let}{id:Int}{o:Bool}{j:Nat}(h:DQ ls id o j=true):∃m,ls[j]?=some m/\m.aD=true/\m.id=id/\m.over=o:=by
 unfold DQ at h;split at h
 .rename_i m hm;simp only[aay,beq_iff_eq] at h;exact⟨m,hm,h.1,h.2.1,h.2.2⟩
 cases h
theorem m8{ls:List Let}{k:Nat}{id:Int}{o:Bool}(h:eY ls k id o=none){j:Nat}(hj:j<k):DQ ls id o j=false:=by
 have:=adn.1 h j (aaX.2 hj)
 simpa using this
theorem F3{ls:List Let}{k:Nat}{l:Let}(h:ls[k]?=some l)(hc:l.aD=false):dI ls (k+1)=dI ls k:=by simp[dI,h,hc]
theorem Ks{ls:List Let}{k:Nat}{l:Let}(h:ls[k]?=some l)(hc:l.aD=true)(hn:l.id∉dI ls k):dI ls (k+1)=dI ls k++[l.id]:=by simp[dI,h,hc,hn]
theorem Kr{ls:List Let}{k:Nat}{l:Let}(h:ls[k]?=some l)(hn:l.id∈dI ls k):dI ls (k+1)=dI ls k:=by simp[dI,h,hn]
theorem Ps{ls:List Let}{k:Nat}{l:Let}(h:ls[k]?=some l)(hc:l.aD=false):mS ls (k+1)=mS ls k:=by unfold mS o0;rw[F3 h hc];simp[rq,F5 h hc]
theorem Qj{ls:List Let}{id:Int}:∀(k:Nat),k<=ls.length->(id∈dI ls k↔ ∃j o,j<k/\DQ ls id o j=true):=by
 intro k
 induction k with
 |zero=>intro _;simp[dI]
 |succ k ih=>
  intro hk;obtain⟨l,hl⟩:=ao (show k<ls.length by omega);have ih:=ih (by omega);have old:(∃j o,j<k/\DQ ls id o j=true)->∃j o,j<k+1/\DQ ls id o j=true:=fun⟨j,o,h1,h2⟩=>⟨j,o,by omega,h2⟩;cases hc:l.aD with
  |false=>
   rw[F3 hl hc,ih];refine⟨old,?_⟩;rintro ⟨j,o,h1,h2⟩
   rcases abC.1 h1 with h|rfl
   .exact⟨j,o,h,h2⟩
   rw[F5 hl hc] at h2;cases h2
  |true=>
   have key:id∈dI ls (k+1)↔(id∈dI ls k\/id=l.id):=by
    by_cases hm:l.id∈dI ls k
    .rw[Kr hl hm];exact⟨Or.inl,fun h=>h.elim id' (fun e=>e▸hm)⟩
    rw[Ks hl hc hm];simp
   rw[key,ih];constructor
   .rintro (h|rfl)
    .exact old h
    exact⟨k,l.over,by omega,by rw[vw hl hc];simp⟩
   rintro ⟨j,o,h1,h2⟩
   rcases abC.1 h1 with h|rfl
   .exact Or.inl ⟨j,o,h,h2⟩
   rw[vw hl hc] at h2;simp only[aay,beq_iff_eq] at h2;exact Or.inr h2.1.symm
where id' {p:Prop} (h:p):p:=h
theorem oQ{ls:List Let}{id:Int}{k:Nat}(h:k<=ls.length):id∈dI ls k↔ ∃j o,j<k/\DQ ls id o j=true:=Qj k h
theorem rW(ls:List Let):∀k,(dI ls k).Nodup:=by
 intro k
 induction k with
 |zero=>simp[dI]
 |succ k ih=>
  unfold dI;split
  .split
   .rename_i h;simp only[aay,abB,List.contains_eq_mem,decide_eq_false_iff_not] at h;rw[adi];refine⟨ih,by simp,?_⟩;intro a ha b hb;simp only[abJ] at hb;subst hb;rintro rfl
    exact h.2 ha
   exact ih
  exact ih
theorem Sz{ls:List Let}{k:Nat}(hk:k<=ls.length){id:Int}(h:id∉dI ls k)(o:Bool):eY ls k id o=none:=by
 cases hv:eY ls k id o with
 |none=>rfl
 |some j=>obtain⟨h1,h2⟩:=jx hv;exact absurd ((oQ hk).2 ⟨j,o,h1,h2⟩) h
theorem Ju{ls:List Let}{k:Nat}(hk:k<=ls.length){id:Int}(h:id∈dI ls k)(o:Bool)(hn:eY ls k id o=none):∃j m,eY ls k id (!o)=some j/\ls[j]?=some m/\j<k:=by
 obtain⟨j,o',h1,h2⟩:=(oQ hk).1 h;by_cases e:o'=o
 .subst e;rw[m8 hn h1] at h2;cases h2
 have e:o'= !o:=by cases o<;>cases o'<;>simp_all
 subst e;cases hv:eY ls k id (!o) with
 |none=>rw[m8 hv h1] at h2;cases h2
 |some i=>obtain⟨h3,h4⟩:=jx hv;obtain⟨m,hm,_⟩:=iF h4;exact⟨i,m,rfl,hm,h3⟩
theorem A6{ls:List Let}{k:Nat}{l:Let}(h:ls[k]?=some l)(hc:l.aD=true){id:Int}(hn:¬l.id=id)(o:Bool):eY ls (k+1) id o=eY ls k id o:=by rw[rq,vw h hc];simp[hn]
theorem xJ{ls:List Let}{k:Nat}{l:Let}(h:ls[k]?=some l)(hc:l.aD=true)(hn:eY ls k l.id l.over=none):eY ls (k+1) l.id l.over=some k:=by rw[rq,vw h hc,hn];simp
theorem xK{ls:List Let}{k:Nat}{l:Let}(h:ls[k]?=some l)(hc:l.aD=true):eY ls (k+1) l.id (!l.over)=eY ls k l.id (!l.over):=by rw[rq,vw h hc];cases l.over<;>simp
theorem Cp{ls:List Let}{k:Nat}{l:Let}(h:ls[k]?=some l)(hc:l.aD=true){id:Int}(hn:¬l.id=id):o0 ls (k+1) id=o0 ls k id:=by unfold o0;rw[A6 h hc hn,A6 h hc hn]
theorem TR{ls:List Let}{k:Nat}{l:Let}(h:ls[k]?=some l)(hc:l.aD=true)(hn:l.id∉dI ls k):mS ls (k+1)=mS ls k++[(.int .i64 l.id,o0 ls (k+1) l.id)]:=by unfold mS;rw[Ks h hc hn,abq];congr 1;apply ac2;intro id hid;rw[Cp h hc (by rintro rfl;exact hn hid)]
theorem TQ{ls:List Let}{k:Nat}{l:Let}(h:ls[k]?=some l)(hc:l.aD=true)(hn:l.id∈dI ls k):mS ls (k+1)=(mS ls k).set ((dI ls k).idxOf l.id) (.int .i64 l.id,o0 ls (k+1) l.id):=by
 unfold mS;rw[Kr h hn];apply acm
 .simp
 intro i h1 h2;rw[adu];simp only[aau] at h1;by_cases e:(dI ls k).idxOf l.id=i
 .subst e;simp only[ac1,if_pos,List.getElem_idxOf]
 rw[if_neg e];simp only[ac1];rw[Cp h hc];intro e2;apply e;rw[e2];exact(rW ls k).idxOf_getElem i h1
theorem Gm(ls:List Let)(k:Nat)(q:Int):iG (.int .i64 q) (mS ls k) 0=some (if q∈dI ls k then some ((dI ls k).idxOf q,o0 ls k q) else none):=by unfold mS;rw[IP];simp
theorem nI{ls:List Let}{k:Nat}(hk:k<ls.length)(h:vT ls (aA Let.aD ls/2) k=false):dK ls=false:=by have:(List.range ls.length).all (vT ls (aA Let.aD ls/2))=false:=List.all_eq_false.2 ⟨k,aaX.2 hk,by simp[h]⟩;simp[dK,this]
theorem vE{ls:List Let}(he:aA Let.aD ls%2=0)(h:∀i,i<ls.length->vT ls (aA Let.aD ls/2) i=true):dK ls=((dI ls ls.length).length==aA Let.aD ls/2):=by have:(List.range ls.length).all (vT ls (aA Let.aD ls/2))=true:=aba.2 fun i hi=>h i (aaX.1 hi);simp[dK,this,he]
abbrev aad(id:Nat):Prop:=id=1280320128\/cH id=53
def sW(F:Nat)(ls:List Let)(g:Nat)(c2 c3 c4 c6:C)(abf:aw)(v:V)(aaf:aw):Prop:=v=vb (dK ls)/\Kept aad abf aaf/\(dK ls=true->∃g1,aaf 1280320128=(g,some (.var (KP F ls c2 c3 c4 (.aaT 3392256064 g1) c6)))/\aaf 3392256064=(g1,some (.map true (mS ls ls.length))))
theorem ge0(j:Nat):decide ((0:Int)<=(j:Int))=true:=decide_eq_true (by omega)
theorem wr0:IntKind.i64.wrap 0=0:=by decide
theorem wr1:IntKind.i64.wrap 1=1:=by decide
theorem Mr:((-1:Int)≥0)=False:=by simp
theorem neg1':((0:Int)<= -1)=False:=by simp
theorem QR{al:Al}(okD:al.ok 1280320128=true)(ok:∀id,cH id=53->al.ok id=true){blk:aw}{g F:Nat}{ls:List Let}{c2 c3 c4 c5 c6:C}(hl:ls.length<=1000000)
  (bD:blk 1280320128=(g,some (.var (KP F ls c2 c3 c4 c5 c6)))):∃v aaf,nQ S 53 [.one (.aam 1280320128 g 0)] al blk v aaf/\sW F ls g c2 c3 c4 c6 blk v aaf:=by
 have o1:=ok 3392256064 rfl;have o2:=ok 3392448192 rfl;have o3:=ok 3392704640 rfl;refine dO c53 (aaW rfl) ?_;have pc:=vD F ls hl;have hcl:aA Let.aD ls<=ls.length:=kI _ _;cases he:(((aA Let.aD ls%2:Nat):Int)!=0) with
 |true=>
  have hno:dK ls=false:=by
   have:(aA Let.aD ls%2==0)=false:=by simp at he ⊢;omega
   simp[dK,this]
  simp only[go_sem,i53,bD,s36,jI pc,iw,bY,he,okD];exact⟨by rw[hno],Kept.refl _ _,fun h=>by rw[hno] at h;cases h⟩
 |false=>
  have he0:aA Let.aD ls%2=0:=by simp at he;omega
  simp only[go_sem,i53,bD,s36,jI pc,iw,bY,he,okD,o1];refine aV (fun k env aaf=>env 0=.one (.aam 1280320128 g 0)/\env 3=vi (aA Let.aD ls)/\env 25=.one (.p (eB ls))/\env 26=vi ls.length/\env 27=vi k/\
   aaf 1280320128=(g,some (.var (KP F ls c2 c3 c4 (.aaT 3392256064 ((blk 3392256064).1+1)) c6)))/\aaf 3392256064=((blk 3392256064).1+1,some (.map true (mS ls k)))/\
   (∀i,i<k->vT ls (aA Let.aD ls/2) i=true)/\Kept aad blk aaf) 0 ls.length (aan _) ?_ ?_
  .simp only[go_sem,bD];refine⟨rfl,rfl,fun i h=>absurd h (abW i),?_⟩;repeat(first|exact(Kept.refl _ _)|refine Kept.fY ?_ (by first|exact Or.inl rfl|exact Or.inr rfl) _)
  rintro k env aaf hk ⟨h0,h3,h25,h26,h27,bD,bM,hok,hkp⟩
  have wq:IntKind.i64.wrap ((aA Let.aD ls/2:Nat):Int)=((aA Let.aD ls/2:Nat):Int):=wrap_small (by omega);by_cases hlt:k<ls.length
  .obtain⟨l,hkl⟩:=ao hlt;have hi:=fQ hkl;have aak:((k:Int)<(ls.length:Int)):=by omega
   have w1:=ak (n:=k) (by omega);cases hc:(l.kind==2) with
   |false=>
    have hc':l.aD=false:=hc;have hp:(l.kind !=2)=true:=by simp[bne,hc]
    have hrk:vT ls (aA Let.aD ls/2) k=true:=by simp[vT,hkl,hc']
    simp only[go_sem,i53_l1,h0,h3,h25,h26,h27,bD,bM,hi,Let.ps,aak,hp,w1,o2];refine⟨hlt,?_,?_,?_⟩
    .rw[Ps hkl hc']
    .intro i hi;rcases abC.1 hi with h|rfl
     .exact hok i h
     exact hrk
    repeat(first|exact hkp|refine Kept.fY ?_ (by first|exact Or.inl rfl|exact Or.inr rfl) _)
   |true=>
    have hc':l.aD=true:=hc;have hp:(l.kind !=2)=false:=by simp[bne,hc]
    cases r1:decide (l.id<1) with
    |true=>
     have r1':l.id<1:=of_decide_eq_true r1;have r1n:¬1<=l.id:=by omega
     have hno:=nI hlt (show vT ls (aA Let.aD ls/2) k=false by simp[vT,hkl,hc',r1n]);simp only[go_sem,i53_l1,h25,h26,h27,hi,Let.ps,aak,hp,r1',o2];unfold sW;refine⟨by rw[hno],?_,fun h=>by rw[hno] at h;cases h⟩;repeat(first|exact hkp|refine Kept.fY ?_ (by first|exact Or.inl rfl|exact Or.inr rfl) _)
    |false=>
     have r1':¬l.id<1:=of_decide_eq_false r1;have r1y:1<=l.id:=by omega
     cases r2:decide (((aA Let.aD ls/2:Nat):Int)<l.id) with
     |true=>
      have r2':((aA Let.aD ls/2:Nat):Int)<l.id:=of_decide_eq_true r2;have r2n:¬l.id<=((aA Let.aD ls/2:Nat):Int):=by omega
      have hno:=nI hlt (show vT ls (aA Let.aD ls/2) k=false by simp only[vT,hkl,hc',r2n];simp);simp only[go_sem,i53_l1,h3,h25,h26,h27,hi,Let.ps,aak,hp,r1',r2',dZ,bY,wq,o2];unfold sW;refine⟨by rw[hno],?_,fun h=>by rw[hno] at h;cases h⟩;repeat(first|exact hkp|refine Kept.fY ?_ (by first|exact Or.inl rfl|exact Or.inr rfl) _)
     |false=>
      have r2':¬((aA Let.aD ls/2:Nat):Int)<l.id:=of_decide_eq_false r2;have r2y:l.id<=((aA Let.aD ls/2:Nat):Int):=by omega
      have hf:=Gm ls k l.id;have hx0:vT ls (aA Let.aD ls/2) k=((eY ls k l.id l.over).isNone&&(match eY ls k l.id (!l.over) with|some j=>nZ ls j==l.sign|none=>true)):=by simp only[vT,hkl,hc',r1y,r2y,decide_true];rfl
      by_cases hm:l.id∈dI ls k
      .rw[if_pos hm] at hf;obtain⟨e0,hse⟩:=ao (show(dI ls k).idxOf l.id<(mS ls k).length by simp[mS];exact List.idxOf_lt_length_of_mem hm);have hmo:=TQ hkl hc' hm;have ag2:o0 ls k l.id=[.int .i64 (AQ (eY ls k l.id false)),.int .i64 (AQ (eY ls k l.id true))]:=rfl;rw[ag2] at hf;cases ho:l.over with
       |true=>
        cases hv:eY ls k l.id true with
        |some j=>have hno:=nI hlt (show vT ls (aA Let.aD ls/2) k=false by rw[hx0,ho,hv];rfl);rw[hv] at hf;simp only[AQ] at hf;simp only[go_sem,i53_l1,h0,h3,h25,h26,h27,bD,bM,hi,Let.ps,aak,hp,r1',r2',dZ,bY,wq,hf,ho,ge0,mapOf,mapVal,dD,Int.reduceNeg,okD,o1,o2,o3];refine⟨aK,aK,?_⟩;unfold sW;refine⟨by rw[hno],?_,fun h=>by rw[hno] at h;cases h⟩;repeat(first|exact hkp|refine Kept.fY ?_ (by first|exact Or.inl rfl|exact Or.inr rfl) _)
        |none=>
         obtain⟨j,m,hj,hjm,hjk⟩:=Ju hk hm true hv;have hj:eY ls k l.id false=some j:=hj;have hjp:=fQ hjm;have hsj:nZ ls j=m.sign:=by simp[nZ,hjm]
         rw[hv,hj] at hf;simp only[AQ] at hf;cases hs:(m.sign==l.sign) with
         |false=>
          have hs2:(m.sign !=l.sign)=true:=by simp[bne,hs]
          have hno:=nI hlt (show vT ls (aA Let.aD ls/2) k=false by rw[hx0,ho,hv];simp only[acE,hj,hsj,hs];rfl);simp only[go_sem,i53_l1,h0,h3,h25,h26,h27,bD,bM,hi,Let.ps,aak,hp,r1',r2',dZ,bY,wq,hf,ho,Mr,hjp,hs2,wr0,mapOf,mapVal,dD,Int.reduceNeg,Int.reduceSub,okD,o1,o2,o3];refine⟨aK,aK,?_⟩;unfold sW;refine⟨by rw[hno],?_,fun h=>by rw[hno] at h;cases h⟩;repeat(first|exact hkp|refine Kept.fY ?_ (by first|exact Or.inl rfl|exact Or.inr rfl) _)
         |true=>
          have hs2:(m.sign !=l.sign)=false:=by simp[bne,hs]
          have hrk:vT ls (aA Let.aD ls/2) k=true:=by rw[hx0,ho,hv];simp only[acE,hj,hsj,hs];rfl
          have hvs:=xJ hkl hc' (show eY ls k l.id l.over=none by rw[ho];exact hv);have hve:=xK hkl hc';rw[ho] at hvs hve;rw[show eY ls k l.id (!true)=some j from hj] at hve;have ag1:o0 ls (k+1) l.id=[.int .i64 (j:Int),.int .i64 (k:Int)]:=by simp only[o0];rw[hvs,show eY ls (k+1) l.id false=some j from hve];rfl
          rw[ag1] at hmo;simp only[go_sem,i53_l1,h0,h3,h25,h26,h27,bD,bM,hi,Let.ps,aak,hp,w1,r1',r2',dZ,bY,wq,hf,ho,Mr,hjp,hs2,wr0,mapOf,mapVal,dD,iK,Int.reduceNeg,Int.reduceSub,okD,o1,o2,o3];refine⟨aK,aK,aK,?_⟩;refine⟨hlt,?_,?_,?_⟩
          .rw[hmo]
          .intro i hi;rcases abC.1 hi with h|rfl
           .exact hok i h
           exact hrk
          repeat(first|exact hkp|refine Kept.fY ?_ (by first|exact Or.inl rfl|exact Or.inr rfl) _)
       |false=>
        cases hv:eY ls k l.id false with
        |some j=>have hno:=nI hlt (show vT ls (aA Let.aD ls/2) k=false by rw[hx0,ho,hv];rfl);rw[hv] at hf;simp only[AQ] at hf;simp only[go_sem,i53_l1,h0,h3,h25,h26,h27,bD,bM,hi,Let.ps,aak,hp,r1',r2',dZ,bY,wq,hf,ho,ge0,mapOf,mapVal,dD,Int.reduceNeg,okD,o1,o2,o3];refine⟨aK,aK,?_⟩;unfold sW;refine⟨by rw[hno],?_,fun h=>by rw[hno] at h;cases h⟩;repeat(first|exact hkp|refine Kept.fY ?_ (by first|exact Or.inl rfl|exact Or.inr rfl) _)
        |none=>
         obtain⟨j,m,hj,hjm,hjk⟩:=Ju hk hm false hv;have hj:eY ls k l.id true=some j:=hj;have hjp:=fQ hjm;have hsj:nZ ls j=m.sign:=by simp[nZ,hjm]
         rw[hv,hj] at hf;simp only[AQ] at hf;cases hs:(m.sign==l.sign) with
         |false=>
          have hs2:(m.sign !=l.sign)=true:=by simp[bne,hs]
          have hno:=nI hlt (show vT ls (aA Let.aD ls/2) k=false by rw[hx0,ho,hv];simp only[Bool.not_false,hj,hsj,hs];rfl);simp only[go_sem,i53_l1,h0,h3,h25,h26,h27,bD,bM,hi,Let.ps,aak,hp,r1',r2',dZ,bY,wq,hf,ho,Mr,hjp,hs2,wr1,mapOf,mapVal,dD,Int.reduceNeg,Int.reduceSub,okD,o1,o2,o3];refine⟨aK,aK,?_⟩;unfold sW;refine⟨by rw[hno],?_,fun h=>by rw[hno] at h;cases h⟩;repeat(first|exact hkp|refine Kept.fY ?_ (by first|exact Or.inl rfl|exact Or.inr rfl) _)
         |true=>
          have hs2:(m.sign !=l.sign)=false:=by simp[bne,hs]
          have hrk:vT ls (aA Let.aD ls/2) k=true:=by rw[hx0,ho,hv];simp only[Bool.not_false,hj,hsj,hs];rfl
          have hvs:=xJ hkl hc' (show eY ls k l.id l.over=none by rw[ho];exact hv);have hve:=xK hkl hc';rw[ho] at hvs hve;rw[show eY ls k l.id (!false)=some j from hj] at hve;have ag1:o0 ls (k+1) l.id=[.int .i64 (k:Int),.int .i64 (j:Int)]:=by simp only[o0];rw[hvs,show eY ls (k+1) l.id true=some j from hve];rfl
          rw[ag1] at hmo;simp only[go_sem,i53_l1,h0,h3,h25,h26,h27,bD,bM,hi,Let.ps,aak,hp,w1,r1',r2',dZ,bY,wq,hf,ho,Mr,hjp,hs2,wr1,mapOf,mapVal,dD,iK,Int.reduceNeg,Int.reduceSub,okD,o1,o2,o3];refine⟨aK,aK,aK,?_⟩;refine⟨hlt,?_,?_,?_⟩
          .rw[hmo]
          .intro i hi;rcases abC.1 hi with h|rfl
           .exact hok i h
           exact hrk
          repeat(first|exact hkp|refine Kept.fY ?_ (by first|exact Or.inl rfl|exact Or.inr rfl) _)
      rw[if_neg hm] at hf;have hv:=Sz hk hm;have hmn:=TR hkl hc' hm;have hrk:vT ls (aA Let.aD ls/2) k=true:=by rw[hx0,hv,hv];rfl
      have hvs:=xJ hkl hc' (hv _);have hve:=xK hkl hc';rw[hv] at hve;cases ho:l.over with
      |true=>
       rw[ho] at hvs hve;have ag2:o0 ls (k+1) l.id=[.int .i64 (-1),.int .i64 (k:Int)]:=by simp only[o0];rw[hvs,show eY ls (k+1) l.id false=none from hve];rfl
       rw[ag2] at hmn;simp only[go_sem,i53_l1,h0,h3,h25,h26,h27,bD,bM,hi,Let.ps,aak,hp,w1,r1',r2',dZ,bY,wq,hf,ho,Mr,mapOf,mapVal,dD,iK,Option.map_none,Int.reduceNeg,okD,o1,o2,o3];refine⟨aK,aK,aK,?_⟩;refine⟨hlt,?_,?_,?_⟩
       .rw[hmn]
       .intro i hi;rcases abC.1 hi with h|rfl
        .exact hok i h
        exact hrk
       repeat(first|exact hkp|refine Kept.fY ?_ (by first|exact Or.inl rfl|exact Or.inr rfl) _)
      |false=>
       rw[ho] at hvs hve;have ag2:o0 ls (k+1) l.id=[.int .i64 (k:Int),.int .i64 (-1)]:=by simp only[o0];rw[hvs,show eY ls (k+1) l.id true=none from hve];rfl
       rw[ag2] at hmn;simp only[go_sem,i53_l1,h0,h3,h25,h26,h27,bD,bM,hi,Let.ps,aak,hp,w1,r1',r2',dZ,bY,wq,hf,ho,Mr,mapOf,mapVal,dD,iK,Option.map_none,Int.reduceNeg,okD,o1,o2,o3];refine⟨aK,aK,aK,?_⟩;refine⟨hlt,?_,?_,?_⟩
       .rw[hmn]
       .intro i hi;rcases abC.1 hi with h|rfl
        .exact hok i h
        exact hrk
       repeat(first|exact hkp|refine Kept.fY ?_ (by first|exact Or.inl rfl|exact Or.inr rfl) _)
  have:k=ls.length:=by omega
  subst this;have hr:=vE he0 hok;have hml:(mS ls ls.length).length=(dI ls ls.length).length:=by simp[mS]
  have hb:((((dI ls ls.length).length:Nat):Int)==((aA Let.aD ls/2:Nat):Int))=((dI ls ls.length).length==aA Let.aD ls/2):=by
   cases h:((dI ls ls.length).length==aA Let.aD ls/2) with
   |true=>simp at h ⊢;omega
   |false=>simp at h ⊢;omega
  simp only[go_sem,i53_l1,i53_r2,h0,h3,h26,h27,bD,bM,aS,yL,Int.reduceNeg,hml,dZ,bY,wq,hb,okD,o1];exact⟨by rw[hr],hkp,fun _=>⟨_,bD,bM⟩⟩
theorem pG{p:Let->Bool}{ls:List Let}{i:Nat}{l:Let}(h:ls[i]?=some l)(hp:p l=true):aA p ls=1↔ ∀j m,ls[j]?=some m->p m=true->j=i:=by
 obtain⟨hi,e⟩:=aai.1 h;have hs:ls=ls.take i++l::ls.drop (i+1):=by rw[<- e,abY];simp
 have hc:aA p ls=aA p (ls.take i)+(aA p (ls.drop (i+1))+1):=by
  conv=>lhs;rw[hs]
  simp[aA,acb,hp]
 constructor
 .intro h1 j m hj hm;have z1:aA p (ls.take i)=0:=by omega
  have z2:aA p (ls.drop (i+1))=0:=by omega
  have z1:=adh.1 z1;have z2:=adh.1 z2;rcases Nat.lt_trichotomy j i with hji|hji|hji
  .have:m∈ls.take i:=aae (i:=j) (by rw[aby,if_pos hji,hj]);exact absurd hm (z1 m this)
  .exact hji
  have:m∈ls.drop (i+1):=aae (i:=j-(i+1)) (by rw[acB,show i+1+(j-(i+1))=j by omega,hj]);exact absurd hm (z2 m this)
 intro hu;have z1:aA p (ls.take i)=0:=by
  refine adh.2 fun m hm hpm=>?_;obtain⟨j,hj⟩:=abb hm;have hji:j<i:=by have:=(aai.1 hj).1;rw[aa2] at this;omega
  rw[aby,if_pos hji] at hj;have:=hu j m hj hpm;omega
 have z2:aA p (ls.drop (i+1))=0:=by refine adh.2 fun m hm hpm=>?_;obtain⟨j,hj⟩:=abb hm;rw[acB] at hj;have:=hu _ m hj hpm;omega
 omega
theorem I5{p:Let->Bool}{ls:List Let}(h:∀(i j:Nat) (l m:Let),ls[i]?=some l->ls[j]?=some m->p l=true->p m=true->i=j):aA p ls<=1:=by
 by_cases hz:aA p ls=0
 .omega
 have:0<ls.countP p:=Nat.pos_of_ne_zero hz;obtain⟨l,hl,hp⟩:=acJ.1 this;obtain⟨i,hi⟩:=abb hl;have:=(pG hi hp).2 fun j m hj hm=>h j i m l hj hi hm hp;omega
structure lU (F:Nat) (ls:List Let) (l:Let):Prop where
 g0:0<=l.gate
 g1:l.gate<=(F:Int)
 r0:1<=l.aag
 r1:l.aag<=(cg ls l.gate.toNat:Int)
theorem yx{ls:List Let}{l m:Let}(hl:lU F ls l)(hm:lU F ls m):cY ls l=cY ls m↔l.gate=m.gate/\l.aag=m.aag:=by
 obtain⟨l1,l2,l3,l4⟩:=hl;obtain⟨m1,m2,m3,m4⟩:=hm;unfold cY;constructor
 .intro h;have sl:=cE ls l.gate.toNat;have sm:=cE ls m.gate.toNat;rcases Nat.lt_trichotomy l.gate.toNat m.gate.toNat with c|c|c
  .have:=eo (ls:=ls) (show l.gate.toNat+1<=m.gate.toNat by omega);omega
  .rw[c] at h;omega
  have:=eo (ls:=ls) (show m.gate.toNat+1<=l.gate.toNat by omega);omega
 rintro ⟨h1,h2⟩;rw[h1,h2]
theorem Yz{ls:List Let}{l m:Let}(hl:lU F ls l)(hm:lU F ls m):Km l m=true↔cY ls l<cY ls m:=by
 obtain⟨l1,l2,l3,l4⟩:=hl;obtain⟨m1,m2,m3,m4⟩:=hm;unfold cY Km;simp only[acF,aay,decide_eq_true_eq,beq_iff_eq];have sl:=cE ls l.gate.toNat;have sm:=cE ls m.gate.toNat;rcases Nat.lt_trichotomy l.gate.toNat m.gate.toNat with c|c|c
 .have:=eo (ls:=ls) (show l.gate.toNat+1<=m.gate.toNat by omega);omega
 .rw[c];omega
 have:=eo (ls:=ls) (show m.gate.toNat+1<=l.gate.toNat by omega);omega
theorem WP{ls:List Let}{l:Let}(hl:lU F ls l):cY ls l<bi ls (F+1):=by obtain⟨l1,l2,l3,l4⟩:=hl;unfold cY;have sl:=cE ls l.gate.toNat;have:=eo (ls:=ls) (show l.gate.toNat+1<=F+1 by omega);omega
theorem Dl{ls:List Let}{i:Nat}{l:Let}(h:ls[i]?=some l)(hp:l.aH=true):qB ls i=true↔1<=l.aag/\l.aag<=(cg ls l.gate.toNat:Int)/\ ∀j m,j<i->ls[j]?=some m->m.aH=true->cY ls m≠cY ls l:=by
 simp only[qB,h,hp,acE,acG,aay,decide_eq_true_eq,abB,acW,aaX];constructor
 .rintro ⟨⟨h1,h2⟩,h3⟩
  refine⟨h1,h2,fun j m hj hm hpm e=>?_⟩;have:=h3 j hj;rw[qN hm hpm] at this;simp[e] at this
 rintro ⟨h1,h2,h3⟩
 refine⟨⟨h1,h2⟩,fun j hj=>?_⟩;unfold j7;split
 .rename_i m hm;cases hpm:m.aH with
  |false=>simp
  |true=>simpa using h3 j m hj hm hpm
 simp
theorem jD{ls:List Let}(hg:iV F ls):kz ls=true↔(∀l∈ls,l.aH=true->lU F ls l)/\ ∀(i j:Nat) (l m:Let),ls[i]?=some l->ls[j]?=some m->l.aH=true->m.aH=true->cY ls l=cY ls m->i=j:=by
 unfold kz;rw[aba];constructor
 .intro h;refine⟨fun l hl hp=>?_,fun i j l m hi hj hpl hpm e=>?_⟩
  .obtain⟨i,hi⟩:=abb hl;have:=(Dl hi hp).1 (h i (aaX.2 (aai.1 hi).1));exact⟨(hg l hl hp).1,(hg l hl hp).2,this.1,this.2.1⟩
  have ci:=(Dl hi hpl).1 (h i (aaX.2 (aai.1 hi).1));have cj:=(Dl hj hpm).1 (h j (aaX.2 (aai.1 hj).1));rcases Nat.lt_trichotomy i j with c|c|c
  .exact absurd e (cj.2.2 i l c hi hpl)
  .exact c
  exact absurd e.symm (ci.2.2 j m c hj hpm)
 rintro ⟨h1,h2⟩ i hi
 obtain⟨l,hl⟩:=ao (aaX.1 hi);cases hp:l.aH with
 |false=>simp[qB,hl,hp]
 |true=>have hg:=h1 l (aae hl) hp;refine(Dl hl hp).2 ⟨hg.r0,hg.r1,fun j m hj hm hpm e=>?_⟩;have:=h2 j i m l hm hl hpm hp e;omega
theorem xn(g:Int)(h:0<=g)(l:Let):VZ g l=Aj g.toNat l:=by unfold VZ Aj;rw[Int.toNat_of_nonneg h]
theorem dG{l:Let}(hp:l.aH=true):ch f l=false↔(((0<=l.gate/\l.gate<=f)/\l.id=0)/\l.sign=0)/\l.over=false:=by unfold Let.aH at hp;simp only[ch,hp,if_true,adV,decide_eq_false_iff_not,bne_eq_false_iff_eq,Int.not_lt]
theorem rM{ls:List Let}{l:Let}(hp:l.aH=true):YD f ls l=true↔ch f l=false/\1<=l.aag/\l.aag<=(aA (VZ l.gate) ls:Int)/\aA (JM l) ls=1:=by
 rw[dG hp];unfold YD;simp only[abB,adV,decide_eq_false_iff_not,bne_eq_false_iff_eq];constructor
 .rintro ⟨⟨⟨⟨⟨⟨⟨a,b⟩,c⟩,d⟩,e⟩,g⟩,h⟩,i⟩
  exact⟨⟨⟨⟨⟨by omega,by omega⟩,a⟩,b⟩,c⟩,by omega,by omega,by omega⟩
 rintro ⟨⟨⟨⟨⟨d,e⟩,a⟩,b⟩,c⟩,g,h,i⟩
 exact⟨⟨⟨⟨⟨⟨⟨a,b⟩,c⟩,by omega⟩,by omega⟩,by omega⟩,by omega⟩,by omega⟩
theorem tR{l m:Let}(hp:l.aH=true):JM l m=true↔m.aH=true/\m.gate=l.gate/\m.aag=l.aag:=by unfold Let.aH at hp ⊢;simp only[beq_iff_eq] at hp;unfold JM;simp only[aay,beq_iff_eq,hp,and_assoc]
theorem HZ{ls:List Let}:(∀l∈ls,l.aH=true->YD F ls l=true)↔(∀l∈ls,l.aH=true->ch F l=false)/\kz ls=true:=by
 constructor
 .intro h;have hb:∀l∈ls,l.aH=true->ch F l=false:=fun l hl hp=>((rM hp).1 (h l hl hp)).1;have hg:iV F ls:=fun l hl hp=>((dG hp).1 (hb l hl hp)).1.1.1;refine⟨hb,(jD hg).2 ⟨fun l hl hp=>?_,fun i j l m hi hj hpl hpm e=>?_⟩⟩
  .obtain⟨_,h2,h3,_⟩:=(rM hp).1 (h l hl hp);have:=hg l hl hp;refine⟨this.1,this.2,h2,?_⟩;have e:aA (VZ l.gate) ls=cg ls l.gate.toNat:=by unfold cg aA;congr 1;funext m;exact xn _ this.1 m
   omega
  have gl:lU F ls l:=by
   obtain⟨_,h2,h3,_⟩:=(rM hpl).1 (h l (aae hi) hpl);have:=hg l (aae hi) hpl;have e:aA (VZ l.gate) ls=cg ls l.gate.toNat:=by unfold cg aA;congr 1;funext m;exact xn _ this.1 m
   exact⟨this.1,this.2,h2,by omega⟩
  have gm:lU F ls m:=by
   obtain⟨_,h2,h3,_⟩:=(rM hpm).1 (h m (aae hj) hpm);have:=hg m (aae hj) hpm;have e:aA (VZ m.gate) ls=cg ls m.gate.toNat:=by unfold cg aA;congr 1;funext m;exact xn _ this.1 m
   exact⟨this.1,this.2,h2,by omega⟩
  have e2:=(yx gl gm).1 e;have hs:=((rM hpm).1 (h m (aae hj) hpm)).2.2.2;exact(pG hj ((tR hpm).2 ⟨hpm,rfl,rfl⟩)).1 hs i l hi ((tR hpm).2 ⟨hpl,e2.1,e2.2⟩)
 rintro ⟨hb,hr⟩ l hl hp
 have hg:iV F ls:=fun l hl hp=>((dG hp).1 (hb l hl hp)).1.1.1;obtain⟨h1,h2⟩:=(jD hg).1 hr;have gl:=h1 l hl hp;have e:aA (VZ l.gate) ls=cg ls l.gate.toNat:=by unfold cg aA;congr 1;funext m;exact xn _ gl.g0 m
 obtain⟨i,hi⟩:=abb hl;refine(rM hp).2 ⟨hb l hl hp,gl.r0,by rw[e];exact gl.r1,(pG hi ((tR hp).2 ⟨hp,rfl,rfl⟩)).2 fun j m hj hs=>?_⟩;obtain⟨hpm,eg,er⟩:=(tR hp).1 hs;exact h2 j i m l hj hi hpm hp ((yx (h1 m (aae hj) hpm) gl).2 ⟨eg,er⟩)
def qf(id:Int)(o:Bool)(l:Let):Bool:=l.aD&&(l.id==id&&l.over==o)
theorem nA{ls:List Let}{j:Nat}{m:Let}(h:ls[j]?=some m)(id:Int)(o:Bool):DQ ls id o j=qf id o m:=by simp[DQ,qf,h]
theorem dy{id:Int}{o:Bool}{l:Let}:qf id o l=true↔l.aD=true/\l.id=id/\l.over=o:=by unfold qf;simp only[aay,beq_iff_eq]
def oE(ls:List Let):Prop:=∀(i j:Nat) (l m:Let),ls[i]?=some l->ls[j]?=some m->l.aD=true->m.aD=true->l.id=m.id->i≠j->l.over≠m.over/\l.sign=m.sign
def Qk(ls:List Let):Prop:=∀l∈ls,l.aD=true->1<=l.id/\l.id<=((aA Let.aD ls/2:Nat):Int)
theorem Jt{ls:List Let}{n2 k:Nat}{l:Let}(h:ls[k]?=some l)(hc:l.aD=true):vT ls n2 k=true↔(1<=l.id/\l.id<=(n2:Int))/\eY ls k l.id l.over=none/\ ∀j,eY ls k l.id (!l.over)=some j->nZ ls j=l.sign:=by
 simp only[vT,h,hc,acE,acG,aay,decide_eq_true_eq,Option.isNone_iff_eq_none];constructor
 .rintro ⟨h1,h2,h3⟩
  refine⟨h1,h2,fun j hj=>?_⟩;rw[hj] at h3
  simpa using h3
 rintro ⟨h1,h2,h3⟩
 refine⟨h1,h2,?_⟩;split
 .rename_i j hj
  simpa using h3 j hj
 rfl
theorem xA{ls:List Let}:(∀k,k<ls.length->vT ls (aA Let.aD ls/2) k=true)↔Qk ls/\oE ls:=by
 constructor
 .intro h;have hx:∀ {k:Nat} {l:Let},ls[k]?=some l->l.aD=true->_:=fun {k l} hk hc=>(Jt (n2:=aA Let.aD ls/2) hk hc).1 (h k (aai.1 hk).1);refine⟨fun l hl hc=>?_,?_⟩
  .obtain⟨i,hi⟩:=abb hl;exact(hx hi hc).1
  have key:∀(i j:Nat) (l m:Let),ls[i]?=some l->ls[j]?=some m->l.aD=true->m.aD=true->l.id=m.id->i<j->l.over≠m.over/\l.sign=m.sign:=by
   intro i j l m hi hj hcl hcm he hij;obtain⟨_,hn,hs⟩:=hx hj hcm;have ho:l.over≠m.over:=by intro e;have:=m8 hn hij;rw[nA hi,dy.2 ⟨hcl,he,e⟩] at this;cases this
   refine⟨ho,?_⟩;have ho':l.over= !m.over:=by revert ho;cases l.over<;>cases m.over<;>simp
   cases hv:eY ls j m.id (!m.over) with
   |none=>have:=m8 hv hij;rw[nA hi,dy.2 ⟨hcl,he,ho'⟩] at this;cases this
   |some p=>
    have h3:=hs p hv;obtain⟨hp1,hp2⟩:=jx hv;obtain⟨x,hpx,hxc,hxi,hxo⟩:=iF hp2;have:p=i:=by
     rcases Nat.lt_trichotomy p i with c|c|c
     .have hn2:=(hx hi hcl).2.1;have:=m8 hn2 c;rw[nA hpx,dy.2 ⟨hxc,by rw[hxi,he],by rw[hxo,ho']⟩] at this;cases this
     .exact c
     have h4:(List.range j).find? (DQ ls m.id (!m.over))=some p:=hv;rw[List.find?_range_eq_some] at h4;have:=h4.2.2 i c;rw[nA hi,dy.2 ⟨hcl,he,ho'⟩] at this;cases this
    subst this;rw[hi] at hpx;cases hpx
    simpa [nZ,hi] using h3
  intro i j l m hi hj hcl hcm he hij;rcases Nat.lt_or_gt_of_ne hij with c|c
  .exact key i j l m hi hj hcl hcm he c
  have:=key j i m l hj hi hcm hcl he.symm c;exact⟨fun e=>this.1 e.symm,this.2.symm⟩
 rintro ⟨h1,h2⟩ k hk
 obtain⟨l,hl⟩:=ao hk;cases hc:l.aD with
 |false=>simp[vT,hl,hc]
 |true=>
  refine(Jt hl hc).2 ⟨h1 l (aae hl) hc,?_,fun j hj=>?_⟩
  .cases hv:eY ls k l.id l.over with
   |none=>rfl
   |some p=>obtain⟨hp1,hp2⟩:=jx hv;obtain⟨x,hpx,hxc,hxi,hxo⟩:=iF hp2;exact absurd hxo (h2 p k x l hpx hl hxc hc hxi (by omega)).1
  obtain⟨hp1,hp2⟩:=jx hj;obtain⟨x,hpx,hxc,hxi,hxo⟩:=iF hp2;have:=(h2 j k x l hpx hl hxc hc hxi (by omega)).2;simp[nZ,hpx,this]
theorem SO(ls:List Let):∀ids:List Int,ids.Nodup->(ids.map fun id=>aA (tj id) ls).sum=aA (fun l=>l.aD&&ids.contains l.id) ls:=by
 intro ids
 induction ids with
 |nil=>intro _;simp[aA]
 |cons a ids ih=>
  intro hn;rw[abQ] at hn;rw[aaK,List.sum_cons,ih hn.2];refine(vG (p:=tj a) (q:=fun l=>l.aD&&ids.contains l.id) (r:=fun l=>l.aD&&(a::ids).contains l.id) ?_ ?_ ls).symm
  .intro l;simp only[tj,aay,beq_iff_eq,List.contains_eq_mem,decide_eq_true_eq,aat];constructor
   .rintro ⟨h1,h2|h2⟩
    .exact .inl ⟨h1,h2⟩
    exact .inr ⟨h1,h2⟩
   rintro (⟨h1,h2⟩|⟨h1,h2⟩)
   .exact⟨h1,.inl h2⟩
   exact⟨h1,.inr h2⟩
  intro l;simp only[tj,aay,beq_iff_eq,List.contains_eq_mem,decide_eq_true_eq];rintro ⟨_,h1⟩ ⟨_,h2⟩
  exact hn.1 (h1▸h2)
theorem rX{ls:List Let}{l:Let}(hl:l∈ls)(hc:l.aD=true):l.id∈dI ls ls.length:=by obtain⟨i,hi⟩:=abb hl;refine(oQ (aaj _)).2 ⟨i,l.over,(aai.1 hi).1,?_⟩;rw[nA hi];exact dy.2 ⟨hc,rfl,rfl⟩
theorem CX(ls:List Let):((dI ls ls.length).map fun id=>aA (tj id) ls).sum=aA Let.aD ls:=by
 rw[SO _ _ (rW ls _)];apply List.countP_congr;intro l hl;cases hc:l.aD with
 |false=>simp
 |true=>simp[rX hl hc]
theorem oL(id:Int)(ls:List Let):aA (tj id) ls=aA (qf id true) ls+aA (qf id false) ls:=by
 refine vG ?_ ?_ ls
 .intro l;rw[dy,dy];simp only[tj,aay,beq_iff_eq];cases l.over<;>simp
 intro l;rw[dy,dy];rintro ⟨_,_,h1⟩ ⟨_,_,h2⟩
 rw[h1] at h2;cases h2
theorem qM(id:Int)(o:Bool)(ls:List Let):aA (tj id) ls=aA (qf id o) ls+aA (qf id (!o)) ls:=by
 rw[oL];cases o with
 |true=>rfl
 |false=>simp only[Bool.not_false];omega
theorem jP{ls:List Let}(h:oE ls)(id:Int)(o:Bool):aA (qf id o) ls<=1:=by refine I5 fun i j l m hi hj hl hm=>?_;obtain⟨l1,l2,l3⟩:=dy.1 hl;obtain⟨m1,m2,m3⟩:=dy.1 hm;refine Decidable.byContradiction fun hne=>?_;exact(h i j l m hi hj l1 m1 (by rw[l2,m2]) hne).1 (by rw[l3,m3])
theorem NZ{f:Int->Nat}:∀ids:List Int,(∀x∈ids,f x<=2)->(ids.map f).sum<=2*ids.length:=by
 intro ids
 induction ids with
 |nil=>intro _;simp
 |cons a ids ih=>intro h;have:=ih fun x hx=>h x (acI _ hx);have:=h a adQ;simp only[aaK,List.sum_cons,aaz];omega
theorem Le{f:Int->Nat}:∀ids:List Int,(∀x∈ids,f x<=2)->(ids.map f).sum=2*ids.length->∀x∈ids,f x=2:=by
 intro ids
 induction ids with
 |nil=>intro _ _ x hx;cases hx
 |cons a ids ih=>
  intro h hs;have h1:=NZ ids fun x hx=>h x (acI _ hx);have h2:=h a adQ;simp only[aaK,List.sum_cons,aaz] at hs;intro x hx;rcases aat.1 hx with rfl|hx
  .omega
  exact ih (fun x hx=>h x (acI _ hx)) (by omega) x hx
theorem SN{f:Int->Nat}:∀ids:List Int,(∀x∈ids,f x=2)->(ids.map f).sum=2*ids.length:=by
 intro ids
 induction ids with
 |nil=>intro _;simp
 |cons a ids ih=>intro h;have:=ih fun x hx=>h x (acI _ hx);have:=h a adQ;simp only[aaK,List.sum_cons,aaz];omega
theorem yB{l m:Let}(hc:l.aD=true):Bv l m=true↔m.aD=true/\m.id=l.id/\m.sign=l.sign/\m.over= !l.over:=by unfold Let.aD at hc ⊢;simp only[beq_iff_eq] at hc;unfold Bv;simp only[aay,beq_iff_eq,hc,and_assoc,abB,beq_eq_false_iff_ne,ne_eq];cases l.over<;>cases m.over<;>simp
theorem uf{l:Let}(hc:l.aD=true):ch f l=false↔(l.gate=0/\l.aag=0)/\(l.sign !=1&&l.sign != -1)=false:=by
 unfold Let.aD at hc;have h1:(l.kind==1)=false:=by simp only[beq_iff_eq] at hc;rw[hc];rfl
 simp only[ch,hc,h1,if_true];simp
theorem JX{ls:List Let}{l:Let}(hc:l.aD=true):Mp ls l=true↔ch f l=false/\(1<=l.id/\l.id<=((aA Let.aD ls/2:Nat):Int))/\aA (Bv l) ls=1/\aA (tj l.id) ls=2:=by
 rw[uf hc];unfold Mp;simp only[abB,adV,decide_eq_false_iff_not,bne_eq_false_iff_eq];constructor
 .rintro ⟨⟨⟨⟨⟨⟨a,b⟩,c⟩,d⟩,e⟩,g⟩,h⟩
  exact⟨⟨⟨a,b⟩,c⟩,⟨by omega,by omega⟩,by omega,by omega⟩
 rintro ⟨⟨⟨a,b⟩,c⟩,⟨d,e⟩,g,h⟩
 exact⟨⟨⟨⟨⟨⟨a,b⟩,c⟩,by omega⟩,by omega⟩,by omega⟩,by omega⟩
theorem Na{ls:List Let}:(∀l∈ls,l.aD=true->Mp ls l=true)↔(∀l∈ls,l.aD=true->ch f l=false)/\dK ls=true:=by
 have agB:=CX ls;constructor
 .intro h;have aas:=fun l hl hc=>(JX (f:=f) hc).1 (h l hl hc);have hp:oE ls:=by
   intro i j l m hi hj hcl hcm he hij;obtain⟨_,_,h3,h4⟩:=aas l (aae hi) hcl;have e1:=qM l.id l.over ls;have g1:0<aA (qf l.id l.over) ls:=acJ.2 ⟨l,aae hi,dy.2 ⟨hcl,rfl,rfl⟩⟩;obtain⟨x,hx,hxp⟩:=acJ.1 (show 0<ls.countP (Bv l) by show 0<aA (Bv l) ls;omega);obtain⟨x1,x2,x3,x4⟩:=(yB hcl).1 hxp;have g2:0<aA (qf l.id (!l.over)) ls:=acJ.2 ⟨x,hx,dy.2 ⟨x1,x2,x4⟩⟩;have u1:aA (qf l.id l.over) ls=1:=by omega
   have u2:aA (qf l.id (!l.over)) ls=1:=by omega
   have ho:l.over≠m.over:=by intro e;have:=(pG hi (dy.2 ⟨hcl,rfl,rfl⟩)).1 u1 j m hj (dy.2 ⟨hcm,he.symm,e.symm⟩);exact hij this.symm
   refine⟨ho,?_⟩;have ho':m.over= !l.over:=by revert ho;cases l.over<;>cases m.over<;>simp
   obtain⟨p,hpx⟩:=abb hx;have:=(pG hj (dy.2 ⟨hcm,he.symm,ho'⟩)).1 u2 p x hpx (dy.2 ⟨x1,x2,x4⟩);subst this;rw[hpx] at hj;cases hj;exact x3.symm
  have aql:∀id∈dI ls ls.length,aA (tj id) ls=2:=by intro id hid;obtain⟨j,o,h1,h2⟩:=(oQ (aaj _)).1 hid;obtain⟨m,hm,hc,hi,_⟩:=iF h2;rw[<- hi];exact(aas m (aae hm) hc).2.2.2
  rw[SN _ aql] at agB;refine⟨fun l hl hc=>(aas l hl hc).1,?_⟩;have hx:=(xA (ls:=ls)).2 ⟨fun l hl hc=>(aas l hl hc).2.1,hp⟩;rw[vE (by omega) hx];simp only[beq_iff_eq];omega
 rintro ⟨hb,hr⟩ l hl hc
 unfold dK at hr;simp only[aay,beq_iff_eq,aba,aaX] at hr;obtain⟨⟨he,hx⟩,hlen⟩:=hr;obtain⟨hid,hp⟩:=xA.1 hx;have hle:∀id∈dI ls ls.length,aA (tj id) ls<=2:=fun id _=>by rw[oL id];have:=jP hp id true;have:=jP hp id false;omega
 have h2:=Le _ hle (by rw[agB,hlen];omega) l.id (rX hl hc);have e1:=qM l.id l.over ls;have b1:=jP hp l.id l.over;have b2:=jP hp l.id (!l.over);refine(JX hc).2 ⟨hb l hl hc,hid l hl hc,?_,h2⟩;have u2:aA (qf l.id (!l.over)) ls=1:=by omega
 obtain⟨i,hi⟩:=abb hl;obtain⟨x,hx,hxp⟩:=acJ.1 (show 0<ls.countP (qf l.id (!l.over)) by show 0<aA (qf l.id (!l.over)) ls;omega);obtain⟨p,hpx⟩:=abb hx;obtain⟨x1,x2,x3⟩:=dy.1 hxp;have hpi:p≠i:=by
  rintro rfl
  rw[hi] at hpx;cases hpx;revert x3;cases l.over<;>simp
 have hsg:=(hp p i x l hpx hi x1 hc x2 hpi).2;refine(pG hpx ((yB hc).2 ⟨x1,x2,hsg,x3⟩)).2 fun j m hj hm=>?_;obtain⟨m1,m2,m3,m4⟩:=(yB hc).1 hm;exact(pG hpx hxp).1 u2 j m hj (dy.2 ⟨m1,m2,m4⟩)
theorem fU{l:Let}(h:ch f l=false):l.aH=true\/l.aD=true:=by
 unfold Let.aH Let.aD;cases h1:(l.kind==1) with
 |true=>exact .inl rfl
 |false=>
  cases h2:(l.kind==2) with
  |true=>exact .inr rfl
  |false=>simp only[ch,h1,h2] at h;cases h
theorem dL{l:Let}(hp:l.aH=true):l.aD=false:=by unfold Let.aH at hp;unfold Let.aD;simp only[beq_iff_eq] at hp;rw[hp];rfl
theorem Vq{ls:List Let}{l:Let}(hp:l.aH=true):Yd f ls l=YD f ls l:=by unfold Let.aH at hp;simp only[Yd,hp,if_true]
theorem Vr{ls:List Let}{l:Let}(hp:l.aD=true):Yd f ls l=Mp ls l:=by
 unfold Let.aD at hp;have h1:(l.kind==1)=false:=by simp only[beq_iff_eq] at hp;rw[hp];rfl
 simp only[Yd,hp,h1,if_true];simp
theorem j4{ls:List Let}:j5 F ls=true↔ls.any (ch F)=false/\kz ls=true/\dK ls=true:=by
 unfold j5;rw[aba,acW];have e1:=HZ (F:=F) (ls:=ls);have e2:=Na (f:=(F:Int)) (ls:=ls);constructor
 .intro h;have hk:=fun {l:Let} (hl:l∈ls)=>DJ (f:=F) (ls:=ls) (aba.2 h) (abb hl).choose_spec;obtain⟨p1,p2⟩:=e1.1 fun l hl hp=>by rw[<- Vq hp];exact h l hl
  obtain⟨c1,c2⟩:=e2.1 fun l hl hc=>by rw[<- Vr (f:=F) hc];exact h l hl
  refine⟨fun l hl=>?_,p2,c2⟩;rcases hk hl with hp|hc
  .rw[p1 l hl hp];simp
  rw[c1 l hl hc];simp
 rintro ⟨hb,hr,hc⟩ l hl
 have hb:∀l∈ls,ch F l=false:=fun l hl=>by simpa using hb l hl
 rcases fU (hb l hl) with hp|hc'
 .rw[Vq hp];exact e1.2 ⟨fun l hl _=>hb l hl,hr⟩ l hl hp
 rw[Vr hc'];exact e2.2 ⟨fun l hl _=>hb l hl,hc⟩ l hl hc'
theorem Db{o:List Nat}(hs:o.Pairwise (· < ·))(hlt:∀x∈o,x<o.length):∀(k:Nat) (h:k<o.length),o[k]=k:=by
 rw[adY] at hs;have lo:∀(k:Nat) (h:k<o.length),k<=o[k]:=by
  intro k
  induction k with
  |zero=>intro _;omega
  |succ k ih=>intro h;have:=ih (by omega);have:=hs k (k+1) (by omega) h (by omega);omega
 have hi:∀(d k:Nat) (h:k<o.length),k+d+1=o.length->o[k]<=k:=by
  intro d
  induction d with
  |zero=>intro k h e;have:=hlt _ (List.getElem_mem h);omega
  |succ d ih=>intro k h e;have:=ih (k+1) (by omega) (by omega);have:=hs k (k+1) h (by omega) (by omega);omega
 intro k h;have:=lo k h;have:=hi (o.length-k-1) k h (by omega);omega
theorem Iv{key:Nat->Nat}{p:Nat->Bool}{i:Nat}:∀ {o:List Nat},o.Pairwise (fun a b=>key a<key b)->(∀x∈o,p x=decide (key x<key i))->(∀x∈o,key x≠key i)->
  (o.take (o.takeWhile p).length++i::o.drop (o.takeWhile p).length).Pairwise (fun a b=>key a<key b):=by
 intro o
 induction o with
 |nil=>intro _ _ _;simp
 |cons a o ih=>
  intro hs hp hn;rw[ab0] at hs;have pa:=hp a adQ;have na:=hn a adQ;by_cases hlt:key a<key i
  .have pa':p a=true:=by rw[pa];simpa using hlt
   rw[List.takeWhile_cons,if_pos pa'];simp only[aaz,List.take_succ_cons,List.drop_succ_cons,acp];rw[ab0];refine⟨fun b hb=>?_,ih hs.2 (fun x hx=>hp x (acI _ hx)) (fun x hx=>hn x (acI _ hx))⟩;rcases aaR.1 hb with hb|hb
   .exact hs.1 b (acf hb)
   rcases aat.1 hb with rfl|hb
   .exact hlt
   exact hs.1 b (acd hb)
  have pa':¬p a=true:=by rw[pa];simpa using hlt
  rw[List.takeWhile_cons,if_neg pa'];simp only[aaL,List.take_zero,List.drop_zero,aaZ];rw[ab0,ab0];refine⟨fun b hb=>?_,hs⟩;rcases aat.1 hb with rfl|hb
  .omega
  have:=hs.1 b hb;omega
theorem te{ls:List Let}{i:Nat}{l:Let}(h:ls[i]?=some l)(hp:l.aH=true):Sg ls i=cY ls l:=by simp[Sg,h,hp]
structure Eo (F:Nat) (ls:List Let):Prop where
 dX:∀l∈ls,l.aH=true->lU F ls l
 inj:∀(i j:Nat) (l m:Let),ls[i]?=some l->ls[j]?=some m->l.aH=true->m.aH=true->cY ls l=cY ls m->i=j
theorem uM{ls:List Let}(h:Eo F ls):∀k,k<=ls.length->(l7 ls k).Pairwise (fun a b=>Sg ls a<Sg ls b):=by
 intro k
 induction k with
 |zero=>intro _;simp[l7]
 |succ k ih=>
  intro hk;have ih:=ih (by omega);rw[l6];obtain⟨l,hl⟩:=ao (show k<ls.length by omega);unfold pL;rw[hl];simp only;cases hp:l.aH with
  |false=>simpa using ih
  |true=>
   simp only[if_true];unfold F2;have hm:=fun {x:Nat} (hx:x∈l7 ls k)=>(CH (ls:=ls) (k:=k) (by omega)).1 hx;refine Iv ih (fun x hx=>?_) (fun x hx e=>?_)
   .obtain⟨h1,m,hm,hmp⟩:=hm hx;rw[te hm hmp,te hl hp];unfold yM;rw[hm,hl];simp only;have:=Yz (h.dX m (aae hm) hmp) (h.dX l (aae hl) hp);cases hb:Km m l with
    |true=>simpa using this.1 hb
    |false=>symm;rw[decide_eq_false_iff_not];intro hc;rw[this.2 hc] at hb;cases hb
   obtain⟨h1,m,hm,hmp⟩:=hm hx;rw[te hm hmp,te hl hp] at e;have:=h.inj x k m l hm hl hmp hp e;omega
theorem Nm{ls:List Let}:∀k,k<=ls.length->(l7 ls k).length=aA Let.aH (ls.take k):=by
 intro k
 induction k with
 |zero=>intro _;simp[l7,aA]
 |succ k ih=>
  intro hk;have ih:=ih (by omega);rw[l6];obtain⟨l,hl⟩:=ao (show k<ls.length by omega);unfold pL;rw[hl];simp only;cases hp:l.aH with
  |false=>rw[nK hl hp];simpa using ih
  |true=>simp only[if_true];rw[Qd,uJ hl hp,ih]
theorem lK{ls:List Let}:(ae ls).length=aA Let.aH ls:=by have:=Nm (ls:=ls) ls.length (aaj _);rwa[abw] at this
theorem Ar{ls:List Let}(h:iV F ls):bi ls (F+1)=(ae ls).length:=by
 rw[lK,zq];apply List.countP_congr;intro l hl;cases hp:l.aH with
 |false=>simp
 |true=>have:=h l hl hp;simp only[acH,aay,decide_eq_true_eq,iff_true];omega
theorem Eo.iV{ls:List Let}(h:Eo F ls):iV F ls:=fun l hl hp=>⟨(h.dX l hl hp).g0,(h.dX l hl hp).g1⟩
theorem lz{ls:List Let}(h:Eo F ls){k i:Nat}(hk:(ae ls)[k]?=some i):∃l,ls[i]?=some l/\l.aH=true/\cY ls l=k:=by
 have hs:((ae ls).map (Sg ls)).Pairwise (· < ·):=by rw[acr];exact uM h ls.length (aaj _)
 have hT:=Ar h.iV;have hlt:∀x∈(ae ls).map (Sg ls),x<((ae ls).map (Sg ls)).length:=by intro x hx;obtain⟨j,hj,rfl⟩:=aaF.1 hx;obtain⟨l,hl,hp⟩:=dT.1 hj;rw[te hl hp,aau,<- hT];exact WP (h.dX l (aae hl) hp)
 obtain⟨hk1,hk2⟩:=aai.1 hk;have:=Db hs hlt k (by rw[aau];exact hk1);rw[ac1,hk2] at this;obtain⟨l,hl,hp⟩:=dT.1 (aae hk);exact⟨l,hl,hp,by rw[<- te hl hp];exact this⟩
theorem pK{ls:List Let}(h:Eo F ls){i:Nat}{l:Let}(hl:ls[i]?=some l)(hp:l.aH=true):(ae ls)[cY ls l]?=some i:=by have hlt:=WP (h.dX l (aae hl) hp);rw[Ar h.iV] at hlt;obtain⟨j,hj⟩:=ao hlt;obtain⟨m,hm,hmp,he⟩:=lz h hj;rw[hj,h.inj j i m l hm hl hmp hp he]
theorem nN{ls:List Let}(h:Eo F ls){i:Nat}{l:Let}(hl:ls[i]?=some l)(hp:l.aH=true):(ae ls).idxOf i=cY ls l:=by have h1:=pK h hl hp;have h2:=MH (aae h1);obtain⟨m,hm,hmp,he⟩:=lz h h2;rw[hl] at hm;cases hm;exact he.symm
theorem Rn{ls:List Let}(h:Eo F ls):rh ls (bi ls (F+1)) ls.length=ae ls:=by
 apply acm
 .rw[G9,Ar h.iV]
 intro k h1 h2;simp only[rh,ac1,adv];obtain⟨l,hl,hp,he⟩:=lz h (abZ h2);generalize (ae ls)[k]=i at hl;unfold ZW;have hin:=(aai.1 hl).1;have hf:(List.range ls.length).find? (j7 ls k)=some i:=by
  refine gH hin (fun j hj=>?_) ?_
  .cases hh:j7 ls k j with
   |false=>rfl
   |true=>
    unfold j7 at hh;split at hh
    .rename_i m hm;simp only[aay,beq_iff_eq] at hh;have:=h.inj j i m l hm hl hh.1 hp (by rw[hh.2,he]);omega
    cases hh
  rw[qN hl hp];simp[he]
 rw[hf];rfl
theorem rL{ls:List Let}(hr:dK ls=true){i:Nat}{l:Let}(hl:ls[i]?=some l)(hc:l.aD=true):eY ls ls.length l.id (!l.over)=some (bN ls i)/\bN ls i<ls.length:=by
 have agB:=CX ls;unfold dK at hr;simp only[aay,beq_iff_eq,aba,aaX] at hr;obtain⟨⟨he,hx⟩,hlen⟩:=hr;obtain⟨hid,hp⟩:=xA.1 hx;have hle:∀id∈dI ls ls.length,aA (tj id) ls<=2:=fun id _=>by rw[oL id];have:=jP hp id true;have:=jP hp id false;omega
 have h2:=Le _ hle (by rw[agB,hlen];omega) l.id (rX (aae hl) hc);have e1:=qM l.id l.over ls;have b1:=jP hp l.id l.over;have b2:=jP hp l.id (!l.over);obtain⟨x,hx,hxp⟩:=acJ.1 (show 0<ls.countP (qf l.id (!l.over)) by show 0<aA (qf l.id (!l.over)) ls;omega);obtain⟨p,hpx⟩:=abb hx;obtain⟨x1,x2,x3⟩:=dy.1 hxp;have hpn:=(aai.1 hpx).1;have hpi:p≠i:=by
  rintro rfl
  rw[hl] at hpx;cases hpx;revert x3;cases l.over<;>simp
 have uniq:∀(j:Nat) (m:Let),ls[j]?=some m->m.aD=true->m.id=l.id->j≠i->j=p:=by intro j m hj mc mi hji;refine Decidable.byContradiction fun hne=>?_;have o1:=(hp j i m l hj hl mc hc mi hji).1;have o2:=(hp j p m x hj hpx mc x1 (by rw[mi,x2]) hne).1;rw[x3] at o2;revert o1 o2;cases m.over<;>cases l.over<;>simp
 have hfo:(List.range ls.length).find? (vf ls i)=some p:=by
  refine gH hpn (fun j hj=>?_) ?_
  .cases hh:vf ls i j with
   |false=>rfl
   |true=>
    unfold vf at hh;simp only[aay,bne_iff_ne,ne_eq] at hh;obtain⟨h1,h2⟩:=hh;split at h2
    .rename_i m hm;simp only[aay,beq_iff_eq,hl,abx,abv] at h2;have:=uniq j m hm h2.1 h2.2 h1;omega
    cases h2
  unfold vf;rw[hpx];simp[hpi,x1,hl,x2]
 have ho:bN ls i=p:=by unfold bN;rw[hfo];rfl
 rw[ho];refine⟨?_,hpn⟩;unfold eY;refine gH hpn (fun j hj=>?_) ?_
 .cases hh:DQ ls l.id (!l.over) j with
  |false=>rfl
  |true=>
   obtain⟨m,hm,mc,mi,mo⟩:=iF hh;have hji:j≠i:=by
    rintro rfl
    rw[hl] at hm;cases hm;revert mo;cases l.over<;>simp
   have:=uniq j m hm mc mi hji;omega
 rw[nA hpx];exact hxp
end
end Go.Abs
