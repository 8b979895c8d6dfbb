/- A part. -/
import Derived.Test.YtanhekelecofdaaGreatDoorSa
set_option linter.all false
set_option maxRecDepth 100000
set_option maxHeartbeats 16000000
namespace Go.Abs
section
variable{f:Int}{F:Nat}
structure Let where
 kind:Int
 gate:Int
 aA:Int
 id:Int
 sign:Int
 over:Bool
 deriving DecidableEq
abbrev ai:=List Let
abbrev x_:=List ai
def Let.ps(l:Let):b_:=[.int .i64 l.kind,.int .i64 l.gate,.int .i64 l.aA,.int .i64 l.id,.int .i64 l.sign,.bool l.over]
def Let.aF(l:Let):Bool:=l.kind==1
def Let.aD(l:Let):Bool:=l.kind==2
abbrev dJ(ls:ai):PV:=.sl (ls.map Let.ps)
abbrev fe(f:Int)(ls:ai):V:=.agg [.p (.int .i64 f),.p (dJ ls)]
abbrev sT(f:Int)(ls:ai):f_:=[.p (.int .i64 f),.p (dJ ls)]
abbrev vi(k:Int):V:=.one (.p (.int .i64 k))
abbrev vb(b:Bool):V:=.one (.p (.bool b))
abbrev ri(k:Int):RV:=.one (.p (.int .i64 k))
abbrev rb(k:Bool):RV:=.one (.p (.bool k))
abbrev aq(p:Let->Bool)(ls:ai):Nat:=ls.countP p
def aN{α:Type}{ls:List α}{k:Nat}(h:k<ls.length):∃l,ls[k]?=some l:=⟨ls[k],by simp[h]⟩
def sQ{p:Let->Bool}{ls:ai}{k:Nat}{l:Let}(h:ls[k]?=some l)(hp:p l=true):aq p (ls.take (k+1))=aq p (ls.take k)+1:=by unfold aq;obtain⟨hk,rfl⟩:=aW.1 h;rw[List.take_succ_eq_append_getElem hk,xz,List.countP_singleton,aG hp]
def jR{p:Let->Bool}{ls:ai}{k:Nat}{l:Let}(h:ls[k]?=some l)(hp:p l=false):aq p (ls.take (k+1))=aq p (ls.take k):=by unfold aq;obtain⟨hk,rfl⟩:=aW.1 h;rw[List.take_succ_eq_append_getElem hk,xz,List.countP_singleton,hp];rfl
def Av(p:Let->Bool)(ls:ai)(k:Nat):aq p (ls.take k)<=k:=oZ List.countP_le_length (by rw[iH];exact Nat.min_le_left _ _)
def sR(p:Let->Bool)(ls:ai):aq p ls<=ls.length:=List.countP_le_length
def jo{ls:ai}{k:Nat}{l:Let}(h:ls[k]?=some l):(ls.map Let.ps)[k]?=some l.ps:=by simp[h]
def wrap_add{a b:Nat}(h:a+b<=9223372036854775807):IntKind.i64.wrap ((a:Int)+(b:Int))=((a+b:Nat):Int):=wrap_small (n:=a+b) h
def uZ{a:Nat}(h:2*a<=9223372036854775807):IntKind.i64.wrap (2*(a:Int))=((2*a:Nat):Int):=wrap_small (n:=2*a) h
def aac{a b:Nat}(h:b<=a)(h2:a<=9223372036854775807):IntKind.i64.wrap ((a:Int)-(b:Int))=((a-b:Nat):Int):=by have:((a:Int)-(b:Int))=((a-b:Nat):Int):=aa;rw[this];exact wrap_small aa
def LU{a:Nat}(h:1<=a)(h2:a<=9223372036854775807):IntKind.i64.wrap ((a:Int)-1)=((a-1:Nat):Int):=aac (b:=1) h h2
def ZJ(x y:Option (b_×a_))(f:Nat):Option (PV×a_):=match x,y with
 |some (x,r),some (y,s)=>some (.fn f x y,r++s)
 |_,_=>none
def at4{x y:b_}{r s:a_}{f:Nat}:ZJ (some (x,r)) (some (y,s)) f=some (.fn f x y,r++s):=rfl
def aua{aj:aE}{f:Nat}{a b:f_}:snap aj gZ (.hfn f a b)=ZJ (collect (snap aj 5) a) (collect (snap aj 5) b) f:=by unfold gZ;rw[snap];unfold ZJ;rfl
def aub{aj:aE}{n id g off:Nat}:snap aj (n+1) (.bt id g off)=Vi (aj id) (collect (snap aj n)) id g off:=by rw[snap];rfl
def auc{aj:aE}{n id g z off len:Nat}:snap aj (n+1) (.hsl id g z off len)=Vj (aj id) (collect (collect (snap aj n))) id g off len:=by rw[snap];rfl
def aL{b:Bool}(h:b=true:=by kernel_rfl):b=true:=h
def bY{f:Nat}{fn:bG}{args:e_}{r:RV}(hf:S.fns f=some fn)(h:W S .all fn.body (tW .all fn.results fun v aj=>j6 aj v=some r) (tA args) xe)(hp:S.prim f args=none:=by rfl)(hl:args.length<=fn.ntmps:=by exact iI rfl):aO S f args r:=ai0 hp hf hl h
def dZ:¬((2:Int)=0):=ae
def xv(a b:Nat):(a:Int).tmod b=((a%b:Nat):Int):=by rw[Int.tmod_eq_emod_of_nonneg aa];rfl
def jI(a:Nat):(a:Int).tmod 2=((a%2:Nat):Int):=xv a 2
def eQ(a:Nat):(a:Int).tdiv 2=((a/2:Nat):Int):=by rw[Int.tdiv_eq_ediv_of_nonneg aa];rfl
def fh{n:Nat}:¬((n:Int)<(n:Int)):=aa
def eG(l:Let):l.ps.length=6:=rfl
def am5{aj:aE}{all:a_}:vp aj all []=some []:=rfl
attribute [go_sem] aua at4 aub auc am5
def qe(g:Int)(l:Let):Bool:=l.aF&&l.gate==g
def mu(g:Int)(l:Let):Bool:=l.aD&&l.id==g
def O8(f:Int)(ls:ai)(hl:ls.length<=1000000):aO S 7 [fe f ls] (ri (aq Let.aF ls)):=by
 refine bY c7 ?_;simp only[go_sem,i7];refine dG (fun k ak _=>ak 7=.one (.p (dJ ls))/\ak 8=vi ls.length/\ak 9=vi k/\ak 3=vi (aq Let.aF (ls.take k))) 0 ls.length (cA _) ?_ ?_
 .simp only[go_sem];exact⟨rfl,rfl⟩
 rintro k ak aj hk ⟨h7,h8,h9,h3⟩
 by_cases aB:k<ls.length
 .obtain⟨l,dp⟩:=aN aB;have hi:=jo dp;have aP:((k:Int)<(ls.length:Int)):=aa;have hb:=Av (Let.aF) ls k;have w1:=df (n:=k) aa;have w2:=df (n:=aq (Let.aF) (ls.take k)) aa;cases hp:(l.kind==1) with
  |true=>have hc:=sQ (p:=Let.aF) dp hp;simp only[go_sem,i7_l1,h3,h7,h8,h9,hi,Let.ps,aP,w1,w2,hp,hc];first|exact aB|exact⟨aB,rfl⟩
  |false=>have hc:=jR (p:=Let.aF) dp hp;simp only[go_sem,i7_l1,h3,h7,h8,h9,hi,Let.ps,aP,w1,hp,hc];first|exact aB|exact⟨aB,rfl⟩
 have:k=ls.length:=aa;subst this;rw[lR] at h3;simp only[go_sem,i7_l1,i7_r2,h3,h8,h9,fh]
def WS(f:Int)(ls:ai)(hl:ls.length<=1000000):aO S 24 [fe f ls] (ri (aq Let.aD ls)):=by
 refine bY c24 ?_;simp only[go_sem,i24];refine dG (fun k ak _=>ak 7=.one (.p (dJ ls))/\ak 8=vi ls.length/\ak 9=vi k/\ak 3=vi (aq Let.aD (ls.take k))) 0 ls.length (cA _) ?_ ?_
 .simp only[go_sem];exact⟨rfl,rfl⟩
 rintro k ak aj hk ⟨h7,h8,h9,h3⟩
 by_cases aB:k<ls.length
 .obtain⟨l,dp⟩:=aN aB;have hi:=jo dp;have aP:((k:Int)<(ls.length:Int)):=aa;have hb:=Av (Let.aD) ls k;have w1:=df (n:=k) aa;have w2:=df (n:=aq (Let.aD) (ls.take k)) aa;cases hp:(l.kind==2) with
  |true=>have hc:=sQ (p:=Let.aD) dp hp;simp only[go_sem,i24_l1,h3,h7,h8,h9,hi,Let.ps,aP,w1,w2,hp,hc];first|exact aB|exact⟨aB,rfl⟩
  |false=>have hc:=jR (p:=Let.aD) dp hp;simp only[go_sem,i24_l1,h3,h7,h8,h9,hi,Let.ps,aP,w1,hp,hc];first|exact aB|exact⟨aB,rfl⟩
 have:k=ls.length:=aa;subst this;rw[lR] at h3;simp only[go_sem,i24_l1,i24_r2,h3,h8,h9,fh]
def Qo(f:Int)(ls:ai)(hl:ls.length<=1000000):aO S 8 [fe f ls] (ri ((aq Let.aD ls/2:Nat))):=by
 have hb:=sR Let.aD ls;have e1:IntKind.i64.wrap ((aq Let.aD ls:Int).tdiv 2)=((aq Let.aD ls/2:Nat):Int):=by
  have:(aq Let.aD ls:Int).tdiv 2=((aq Let.aD ls/2:Nat):Int):=by rw[Int.tdiv_eq_ediv_of_nonneg aa];omega
  rw[this];exact wrap_small aa
 refine bY c8 ?_;simp only[go_sem,i8,s24,eF (WS f ls hl),e1,(by decide:¬(2:Int)=0)]
def arb(f:Int)(ls:ai)(hl:ls.length<=1000000):aO S 27 [fe f ls] (ri (aq Let.aF ls)):=by
 refine bY c27 ?_;simp only[go_sem,i27];refine dG (fun k ak aj=>ak 1=.one (.bt 1728000000 1 0)/\aj 1728000000=(1,some (.var (sT f ls)))/\ak 4=vi k/\ak 3=vi (aq Let.aF (ls.take k))) 0 ls.length (cA _) ?_ ?_
 .simp only[go_sem];first|exact⟨rfl,rfl⟩|exact⟨rfl,rfl,rfl⟩
 rintro k ak aj hk ⟨dN,hB,kX,hJ⟩
 by_cases aB:k<ls.length
 .obtain⟨l,dp⟩:=aN aB;have hi:=jo dp;have aP:((k:Int)<(ls.length:Int)):=aa;have hb:=Av (Let.aF) ls k;have w1:=df (n:=k) aa;have w2:=df (n:=aq (Let.aF) (ls.take k)) aa;cases hp:(l.kind==1) with
  |true=>have hc:=sQ (p:=Let.aF) dp hp;simp only[go_sem,i27_l1,dN,hB,kX,hJ,hi,Let.ps,aP,w1,w2,hp,hc];first|exact aB|exact⟨aB,rfl⟩
  |false=>have hc:=jR (p:=Let.aF) dp hp;simp only[go_sem,i27_l1,dN,hB,kX,hJ,hi,Let.ps,aP,w1,hp,hc];first|exact aB|exact⟨aB,rfl⟩
 have:k=ls.length:=aa;subst this;rw[lR] at hJ;simp only[go_sem,i27_l1,i27_r2,dN,hB,kX,hJ,fh]
def Z4(f:Int)(ls:ai)(hl:ls.length<=1000000):aO S 26 [fe f ls] (ri (aq Let.aD ls)):=by
 refine bY c26 ?_;simp only[go_sem,i26];refine dG (fun k ak aj=>ak 1=.one (.bt 1664000000 1 0)/\aj 1664000000=(1,some (.var (sT f ls)))/\ak 4=vi k/\ak 3=vi (aq Let.aD (ls.take k))) 0 ls.length (cA _) ?_ ?_
 .simp only[go_sem];first|exact⟨rfl,rfl⟩|exact⟨rfl,rfl,rfl⟩
 rintro k ak aj hk ⟨dN,hB,kX,hJ⟩
 by_cases aB:k<ls.length
 .obtain⟨l,dp⟩:=aN aB;have hi:=jo dp;have aP:((k:Int)<(ls.length:Int)):=aa;have hb:=Av (Let.aD) ls k;have w1:=df (n:=k) aa;have w2:=df (n:=aq (Let.aD) (ls.take k)) aa;cases hp:(l.kind==2) with
  |true=>have hc:=sQ (p:=Let.aD) dp hp;simp only[go_sem,i26_l1,dN,hB,kX,hJ,hi,Let.ps,aP,w1,w2,hp,hc];first|exact aB|exact⟨aB,rfl⟩
  |false=>have hc:=jR (p:=Let.aD) dp hp;simp only[go_sem,i26_l1,dN,hB,kX,hJ,hi,Let.ps,aP,w1,hp,hc];first|exact aB|exact⟨aB,rfl⟩
 have:k=ls.length:=aa;subst this;rw[lR] at hJ;simp only[go_sem,i26_l1,i26_r2,dN,hB,kX,hJ,fh]
def als(f:Int)(ls:ai)(hl:ls.length<=1000000):aO S 30 [fe f ls] (ri ((aq Let.aD ls/2:Nat))):=by
 have hb:=sR Let.aD ls;have e1:IntKind.i64.wrap ((aq Let.aD ls:Int).tdiv 2)=((aq Let.aD ls/2:Nat):Int):=by
  have:(aq Let.aD ls:Int).tdiv 2=((aq Let.aD ls/2:Nat):Int):=by rw[Int.tdiv_eq_ediv_of_nonneg aa];omega
  rw[this];exact wrap_small aa
 refine bY c30 ?_;simp only[go_sem,i30,s26,eF (Z4 f ls hl),e1,(by decide:¬(2:Int)=0)]
def in_r(f:Int)(ls:ai)(hl:ls.length<=1000000)(g:Int):aO S 49 [fe f ls,vi g] (ri (aq (qe g) ls)):=by
 refine bY c49 ?_;simp only[go_sem,i49];refine dG (fun k ak aj=>ak 2=.one (.bt 3136000000 1 0)/\aj 3136000000=(1,some (.var (sT f ls)))/\ak 6=vi k/\ak 5=vi (aq (qe g) (ls.take k))/\ak 1=vi g) 0 ls.length (cA _) ?_ ?_
 .simp only[go_sem];first|exact⟨rfl,rfl⟩|exact⟨rfl,rfl,rfl⟩
 rintro k ak aj hk ⟨dN,hB,kX,hJ,DB⟩
 by_cases aB:k<ls.length
 .obtain⟨l,dp⟩:=aN aB;have hi:=jo dp;have aP:((k:Int)<(ls.length:Int)):=aa;have hb:=Av ((qe g)) ls k;have w1:=df (n:=k) aa;have w2:=df (n:=aq ((qe g)) (ls.take k)) aa;cases hp:(l.kind==1) with
  |true=>
   cases hq:(l.gate==g) with
   |true=>have hc:=sQ (p:=(qe g)) dp (by simp only[qe,Let.aF,hp,hq];rfl);simp only[go_sem,i49_l1,dN,hB,kX,hJ,hi,Let.ps,aP,w1,w2,DB,hp,hq,hc];first|exact aB|exact⟨aB,rfl⟩
   |false=>have hc:=jR (p:=(qe g)) dp (by simp only[qe,Let.aF,hp,hq];rfl);simp only[go_sem,i49_l1,dN,hB,kX,hJ,hi,Let.ps,aP,w1,DB,hp,hq,hc];first|exact aB|exact⟨aB,rfl⟩
  |false=>have hc:=jR (p:=(qe g)) dp (by simp only[qe,Let.aF,hp];rfl);simp only[go_sem,i49_l1,dN,hB,kX,hJ,hi,Let.ps,aP,w1,DB,hp,hc];first|exact aB|exact⟨aB,rfl⟩
 have:k=ls.length:=aa;subst this;rw[lR] at hJ;simp only[go_sem,i49_l1,i49_r2,dN,hB,kX,hJ,fh]
def auU(f:Int)(ls:ai)(hl:ls.length<=1000000)(g:Int):aO S 50 [fe f ls,vi g] (ri (aq (mu g) ls)):=by
 refine bY c50 ?_;simp only[go_sem,i50];refine dG (fun k ak aj=>ak 2=.one (.bt 3200000000 1 0)/\aj 3200000000=(1,some (.var (sT f ls)))/\ak 6=vi k/\ak 5=vi (aq (mu g) (ls.take k))/\ak 1=vi g) 0 ls.length (cA _) ?_ ?_
 .simp only[go_sem];first|exact⟨rfl,rfl⟩|exact⟨rfl,rfl,rfl⟩
 rintro k ak aj hk ⟨dN,hB,kX,hJ,DB⟩
 by_cases aB:k<ls.length
 .obtain⟨l,dp⟩:=aN aB;have hi:=jo dp;have aP:((k:Int)<(ls.length:Int)):=aa;have hb:=Av ((mu g)) ls k;have w1:=df (n:=k) aa;have w2:=df (n:=aq ((mu g)) (ls.take k)) aa;cases hp:(l.kind==2) with
  |true=>
   cases hq:(l.id==g) with
   |true=>have hc:=sQ (p:=(mu g)) dp (by simp only[mu,Let.aD,hp,hq];rfl);simp only[go_sem,i50_l1,dN,hB,kX,hJ,hi,Let.ps,aP,w1,w2,DB,hp,hq,hc];first|exact aB|exact⟨aB,rfl⟩
   |false=>have hc:=jR (p:=(mu g)) dp (by simp only[mu,Let.aD,hp,hq];rfl);simp only[go_sem,i50_l1,dN,hB,kX,hJ,hi,Let.ps,aP,w1,DB,hp,hq,hc];first|exact aB|exact⟨aB,rfl⟩
  |false=>have hc:=jR (p:=(mu g)) dp (by simp only[mu,Let.aD,hp];rfl);simp only[go_sem,i50_l1,dN,hB,kX,hJ,hi,Let.ps,aP,w1,DB,hp,hc];first|exact aB|exact⟨aB,rfl⟩
 have:k=ls.length:=aa;subst this;rw[lR] at hJ;simp only[go_sem,i50_l1,i50_r2,dN,hB,kX,hJ,fh]
def dn (ls:ai)(i:Nat):Bool:=aq Let.aF (ls.take i)%2==0
def WX(f:Int)(ls:ai)(i:Nat)(hl:ls.length<=1000000)(A5:i<=ls.length):aO S 75 [fe f ls,vi i] (rb (dn ls i)):=by
 refine bY c75 ?_;simp only[go_sem,i75];refine dG (fun k ak aj=>ak 1=vi i/\ak 2=.one (.bt 4800000000 1 0)/\aj 4800000000=(1,some (.var (sT f ls)))/\ak 6=vi k/\ak 5=vi (aq Let.aF (ls.take k))) 0 i (cA _) ?_ ?_
 .simp only[go_sem];exact⟨rfl,rfl⟩
 rintro k ak aj hk ⟨h1,dN,hB,kX,hJ⟩
 have hb:=Av Let.aF ls k;by_cases aB:k<i
 .obtain⟨l,dp⟩:=aN (ls:=ls) (k:=k) aa;have hi:=jo dp;have aP:((k:Int)<(i:Int)):=aa;have w1:=df (n:=k) aa;have w2:=df (n:=aq Let.aF (ls.take k)) aa;cases hp:(l.kind==1) with
  |true=>have hc:=sQ (p:=Let.aF) dp hp;simp only[go_sem,i75_l1,h1,dN,hB,kX,hJ,hi,Let.ps,aP,w1,w2,hp,hc];exact aB
  |false=>have hc:=jR (p:=Let.aF) dp hp;simp only[go_sem,i75_l1,h1,dN,hB,kX,hJ,hi,Let.ps,aP,w1,hp,hc];exact aB
 have:k=i:=aa;subst this;have e2:((((aq Let.aF (ls.take k))%2:Nat):Int)==0)=dn ls k:=by
  unfold dn;cases h:(aq Let.aF (ls.take k)%2==0) with
  |true=>simp at h |-;omega
  |false=>simp at h |-;omega
 simp only[go_sem,i75_l1,i75_r2,h1,kX,hJ,fh,dZ,jI,e2]
def apM(a b:Let):aO S 73 [.agg (a.ps.map .p),.agg (b.ps.map .p)] (rb (decide (a.gate<b.gate)||(a.gate==b.gate&&decide (a.aA<b.aA)))):=by
 refine bY c73 ?_;by_cases h1:a.gate<b.gate
 .simp only[go_sem,i73,Let.ps,h1]
 cases h2:(a.gate==b.gate) with
 |true=>simp only[go_sem,i73,Let.ps,h1,h2]
 |false=>simp only[go_sem,i73,Let.ps,h1,h2]
def dB(n i:Nat)(fw:Bool):Nat:=if fw then 2*i else 2*((i+n-1)%n)+1
def V6(f:Int)(ls:ai)(i:Nat)(fw:Bool)(hl:ls.length<=1000000)(hi:i<ls.length):aO S 74 [fe f ls,vi i,vb fw] (ri (dB ls.length i fw)):=by
 refine bY c74 ?_;cases fw with
 |true=>have e:IntKind.i64.wrap (2*(i:Int))=((2*i:Nat):Int):=wrap_small (n:=2*i) aa;simp only[go_sem,i74,e,dB]
 |false=>
  have w1:IntKind.i64.wrap ((i:Int)+(ls.length:Int))=((i+ls.length:Nat):Int):=wrap_small (n:=i+ls.length) aa;have w2:IntKind.i64.wrap (((i+ls.length:Nat):Int)-1)=((i+ls.length-1:Nat):Int):=by have:(((i+ls.length:Nat):Int)-1)=((i+ls.length-1:Nat):Int):=aa;rw[this];exact wrap_small aa
  have e1:=xv (i+ls.length-1) ls.length;have hm:=dk (i+ls.length-1) (show 0<ls.length by omega);have w3:IntKind.i64.wrap (2*(((i+ls.length-1)%ls.length:Nat):Int))=((2*((i+ls.length-1)%ls.length):Nat):Int):=wrap_small (n:=2*((i+ls.length-1)%ls.length)) aa;have w4:=df (n:=2*((i+ls.length-1)%ls.length)) aa;have hz:¬((ls.length:Int)=0):=aa;simp only[go_sem,i74,w1,w2,e1,w3,w4,hz,dB]
def Bi(ls:ai)(i j:Nat):Bool:=j !=i&&(match ls[j]? with|some l=>l.aD&&l.id==((ls[i]?).map Let.id).getD 0|none=>false)
def fQ(ls:ai)(i:Nat):Nat:=((List.range ls.length).find? (Bi ls i)).getD i
def Dw{p:Nat->Bool}:∀ {n k:Nat},k<n->(∀j,j<k->p j=false)->p k=true->(List.range n).find? p=some k:=by intro n k hk hn hp;exact List.find?_range_eq_some.2 ⟨hp,by simpa using hk,fun j hj=>by simp[hn j hj]⟩
def JP{p:Nat->Bool}{n:Nat}(hn:∀j,j<n->p j=false):(List.range n).find? p=none:=by rw[II];intro x hx;simp[hn x (by simpa using hx)]
def aq0(f:Int)(ls:ai)(i:Nat)(hl:ls.length<=1000000)(A5:i<ls.length):aO S 76 [fe f ls,vi i] (ri (fQ ls i)):=by
 obtain⟨li,vA⟩:=aN A5;have iD:=jo vA;have key:∀j l,ls[j]?=some l->Bi ls i j=(j !=i&&(l.aD&&l.id==li.id)):=fun j l h=>by simp[Bi,h,vA]
 refine bY c76 ?_;simp only[go_sem,i76];refine dG (fun k ak aj=>ak 1=vi i/\ak 2=.one (.bt 4864000000 1 0)/\aj 4864000000=(1,some (.var (sT f ls)))/\ak 5=vi k/\ ∀j,j<k->Bi ls i j=false) 0 ls.length (cA _) ?_ ?_
 .simp only[go_sem];exact⟨rfl,fun j h=>absurd h (o9 j)⟩
 rintro k ak aj hk ⟨h1,dN,hB,kX,hn⟩
 by_cases aB:k<ls.length
 .obtain⟨l,dp⟩:=aN aB;have hi:=jo dp;have aP:((k:Int)<(ls.length:Int)):=aa;have w1:=df (n:=k) aa;have FH:=key k l dp;have step:Bi ls i k=false->∀j,j<k+1->Bi ls i j=false:=fun h j hj=>by
   rcases og.1 hj with h2|rfl
   .exact hn j h2
   exact h
  by_cases hki:k=i
  .have hb:((k:Int)!=(i:Int))=false:=by simp[hki]
   have hs:=step (by rw[FH];simp[hki]);simp only[go_sem,i76_l1,h1,dN,hB,kX,aP,w1,hb];exact⟨ah,aB,hs⟩
  have hb:((k:Int)!=(i:Int))=true:=by simp;omega
  have bR:(k !=i)=true:=by simp[hki]
  cases hp:(l.kind==2) with
  |false=>have hs:=step (by rw[FH,bR,Let.aD,hp];rfl);simp only[go_sem,i76_l1,h1,dN,hB,kX,hi,Let.ps,aP,w1,hb,hp];exact⟨ah,aB,hs⟩
  |true=>
   cases hq:(l.id==li.id) with
   |false=>have hs:=step (by rw[FH,bR,Let.aD,hp,hq];rfl);simp only[go_sem,i76_l1,h1,dN,hB,kX,hi,iD,Let.ps,aP,w1,hb,hp,hq];exact⟨ah,aB,hs⟩
   |true=>
    have hf:fQ ls i=k:=by unfold fQ;rw[Dw aB hn (by rw[FH,bR,Let.aD,hp,hq];rfl)];rfl
    simp only[go_sem,i76_l1,h1,dN,hB,kX,hi,iD,Let.ps,aP,hb,hp,hq,hf];show ui _ _ _=true
    kernel_rfl
 have:k=ls.length:=aa;subst this;have hf:fQ ls i=i:=by unfold fQ;rw[JP hn];rfl
 simp only[go_sem,i76_l1,i76_r2,h1,dN,hB,kX,fh,hf]
abbrev Ct(l:a_):PV:=.sl (l.map fun n:Nat=>[.int .i64 (n:Int)])
def at_r(l:a_)(n k0:Nat)(hl:l.length<=1000000)(DL:l[k0]?=some n)(hn:∀j,j<k0->l[j]? ≠some n):aO S 77 [.one (.p (Ct l)),vi n] (ri k0):=by
 have hk0l:=(aW.1 DL).1;refine bY c77 ?_;simp only[go_sem,i77];refine dG (fun k ak aj=>ak 0=.one (.p (Ct l))/\ak 1=vi n/\ak 5=vi k) 0 k0 (cA _) ?_ ?_
 .simp only[go_sem];rfl
 rintro k ak aj hk ⟨h0,h1,h5⟩
 have aP:((k:Int)<(l.length:Int)):=aa;have w1:=df (n:=k) aa;obtain⟨m,hm⟩:=aN (ls:=l) (k:=k) aa;have hi:(l.map fun n:Nat=>[PV.int .i64 (n:Int)])[k]?=some [.int .i64 (m:Int)]:=by simp[hm]
 by_cases aB:k<k0
 .have aK:((m:Int)==(n:Int))=false:=by
   have:m≠n:=fun e=>hn k aB (by rw[hm,e]);simp;omega
  simp only[go_sem,i77_l1,h0,h1,h5,aP,w1,hi,aK];exact aB
 have:k=k0:=aa;subst this;have e:m=n:=by rw[hm] at DL;exact pz DL
 subst e;simp only[go_sem,i77_l1,h0,h1,h5,aP,hi]
abbrev KV(l:Let):V:=.agg [.p (.int .i64 l.kind),.p (.int .i64 l.gate),.p (.int .i64 l.aA),.p (.int .i64 l.id),.p (.int .i64 l.sign),.p (.bool l.over)]
def HZ(a b:Let):Bool:=decide (a.gate<b.gate)||(a.gate==b.gate&&decide (a.aA<b.aA))
def apN(a b:Let):aO S 73 [KV a,KV b] (rb (HZ a b)):=apM a b
abbrev nP(o:a_):s_:=o.map fun n:Nat=>[PV.int .i64 (n:Int)]
def kI{o:a_}{k n:Nat}(h:o[k]?=some n):(nP o)[k]?=some [.int .i64 (n:Int)]:=by simp[h]
def Ck(ls:ai)(i j:Nat):Bool:=match ls[j]?,ls[i]? with
 |some a,some b=>HZ a b
 |_,_=>false
def Be(ls:ai)(o:a_)(i:Nat):a_:=o.take (o.takeWhile (Ck ls i)).length++i::o.drop (o.takeWhile (Ck ls i)).length
def Bz(ls:ai)(o:a_)(i:Nat):a_:=match ls[i]? with
 |some l=>if l.aF then Be ls o i else o
 |none=>o
def aI(ls:ai):a_:=(List.range ls.length).foldl (Bz ls) []
def pJ(ls:ai)(k:Nat):a_:=(List.range k).foldl (Bz ls) []
def Jd(ls:ai)(k:Nat):pJ ls (k+1)=Bz ls (pJ ls k) k:=by unfold pJ;rw[yO,IK];rfl
def ajV{ls:ai}{o:a_}{i:Nat}{x:Nat}(h:x∈Bz ls o i):x∈o\/x=i:=by
 unfold Bz at h;split at h
 .split at h
  .unfold Be at h;rcases eX.1 h with h|h
   .exact .inl (xD h)
   rcases ch.1 h with h|h
   .exact .inr h
   exact .inl (xC h)
  exact .inl h
 exact .inl h
def Qb{ls:ai}:∀ {k x:Nat},x∈pJ ls k->x<k:=by
 intro k
 induction k with
 |zero=>intro x h;simp[pJ] at h
 |succ k ih=>
  intro x h;rw[Jd] at h;rcases ajV h with h|h
  .have:=ih h;omega
  omega
def xN(ls:ai):∀k,(pJ ls k).length<=k:=by
 intro k
 induction k with
 |zero=>simp[pJ]
 |succ k ih=>
  rw[Jd];unfold Bz;split
  .split
   .unfold Be;simp only[gJ,dL,iH,lD];omega
   omega
  omega
def F4(site:Nat)(o:a_)(v:V)(aj:aE):Prop:=(o=[]/\v=.one (.p .nils))\/(o≠[]/\ ∃g,v=.one (.hsl site g 1 0 o.length)/\aj site=(g,some (.arr 3 1 (nP o))))
def ajX{o:a_}{i K:Nat}{ak:Env}{aj:aE}{Q:eK}(ho:F4 3264576640 o (ak 3) aj)(h4:ak 4=vi i)(h5:ak 5=vi K)(hK:K<=o.length)(hl:o.length<=1000000)
  (hq:∀aH ao,aH 1=ak 1->aH 4=ak 4->ao 3264000000=aj 3264000000->F4 3264576640 (o.take K++i::o.drop K) (aH 3) ao->Q .normal aH ao):
  W S .all i51_r2 Q ak aj:=by
 rcases ho with ⟨rfl,h3⟩|⟨ho,g,h3,hC⟩
 .have hK0:K=0:=by simpa using hK
  subst hK0;simp only[go_sem,i51_r2,h3,h4,h5,au,aw];refine⟨ah,hq _ _ ?_ ?_ ?_ (.inr ⟨af,(aj 3264576640).1+1,?_,?_⟩)⟩;all_goals simp only[go_sem]
 have lf:∀n:Nat,n<=1000001->n*8<=140737488355328:=fun n hn=>aa;by_cases hK0:K=0
 .subst hK0;have ht:List.take o.length (nP o)=nP o:=gT af;have k9:=lf (1+o.length) aa;simp only[go_sem,i51_r2,h3,h4,h5,hC,ht,k9,au,aw];refine⟨ah,hq _ _ ?_ ?_ ?_ (.inr ⟨af,g+1,?_,?_⟩)⟩;all_goals simp only[go_sem]
  simp;omega
 have ht:(List.take K (nP o)).length=K:=by simp;omega
 have htt:List.take K (List.take K (nP o))=List.take K (nP o):=by rw[Gp,Nat.min_self]
 have oN:List.take (K+1) (List.take K (nP o)++[[PV.int .i64 (i:Int)]])=List.take K (nP o)++[[PV.int .i64 (i:Int)]]:=gT (by simp;omega);have htd:List.take (o.length-K) (List.drop K (nP o))=List.drop K (nP o):=gT af;have hld:(List.drop K (nP o)).length=o.length-K:=af;have tm:(List.take K (nP o)++[[PV.int .i64 (i:Int)]]).length=K+1:=by simp;omega
 have k9:=lf K aa;have wS:=lf (K+1) aa;have hr3:=lf (K+1+(o.length-K)) aa;have hle:K+(o.length-K)<=o.length:=aa;simp only[go_sem,i51_r2,h3,h4,h5,hC,hK,ht,hK0,k9,wS,hr3,htt,oN,htd,hld,tm,hle,au,aw];refine⟨ah,hq _ _ ?_ ?_ ?_ (.inr ⟨af,g+1,?_,?_⟩)⟩;all_goals simp only[go_sem]
 .simp;omega
 simp
def auM{α:Type}{p:α->Bool}{l:List α}{K:Nat}(hK:K<=l.length)(h1:∀j x,j<K->l[j]?=some x->p x=true)(h2:∀x,l[K]?=some x->p x=false):(l.takeWhile p).length=K:=by
 induction l generalizing K with
 |nil=>simp at hK |-;omega
 |cons a l ih=>
  cases K with
  |zero=>have:=h2 a rfl;simp[List.takeWhile,this]
  |succ K=>have:=h1 0 a aa rfl;simp only[List.takeWhile,this,dL];rw[ih (by simpa using hK) (fun j x hj hx=>h1 (j+1) x aa (by simpa using hx)) (fun x hx=>h2 x (by simpa using hx))]
def aj0{ls:ai}{f:Int}{o:a_}{i:Nat}{li:Let}{ak:Env}{aj:aE}{Q:eK}(ho:F4 3264576640 o (ak 3) aj)(h1:ak 1=.one (.bt 3264000000 1 0))(hB:aj 3264000000=(1,some (.var (sT f ls))))(h4:ak 4=vi i)(h5:ak 5=vi 0)
  (vA:ls[i]?=some li) (aB:∀x∈o,x<ls.length) (hl:o.length<=1000000)
  (hq:∀aH ao,aH 1=ak 1->aH 4=ak 4->ao 3264000000=aj 3264000000->F4 3264576640 (Be ls o i) (aH 3) ao->Q .normal aH ao):
  W S .all (.loop i51_l1) (rV 2 (Ew S .all i51_r2 Q)) ak aj:=by
 have iD:=jo vA;refine dG (fun k aH ao=>aH 1=ak 1/\aH 4=ak 4/\aH 3=ak 3/\ao=aj/\aH 5=vi k/\ ∀j x,j<k->o[j]?=some x->Ck ls i x=true) 0 o.length (cA _) ?_ ?_
 .exact⟨rfl,rfl,rfl,rfl,h5,fun j x hj=>absurd hj (o9 j)⟩
 rintro k aH ao hk ⟨jT,vr,rC,rfl,Fu,hp⟩
 rw[h1] at jT;rw[h4] at vr;have fin:∀e:Env,e 1=aH 1->e 4=aH 4->e 3=aH 3->e 5=aH 5->(∀x,o[k]?=some x->Ck ls i x=false)->W S .all i51_r2 Q e ao:=by
  intro e e1 e4 e3 e5 jv;have hK:=auM hk hp jv;have lW:F4 3264576640 o (e 3) ao:=by rw[e3,rC];exact ho
  refine ajX (i:=i) (K:=k) lW (by rw[e4,vr]) (by rw[e5,Fu]) hk hl ?_;intro dE bN q1 q2 q3 q4;refine hq dE bN (by rw[q1,e1,jT,h1]) (by rw[q2,e4,vr,h4]) q3 ?_;unfold Be;rw[hK];exact q4
 by_cases dp:k<o.length
 .obtain⟨x,hx⟩:=aN dp;have wX:=aB x (aZ hx);obtain⟨lx,hlx⟩:=aN wX;have jN:=jo hlx;have FK:=kI hx;have aP:((k:Int)<(o.length:Int)):=aa;have w1:=df (n:=k) aa;have ad5:Ck ls i x=HZ lx li:=by simp[Ck,hlx,vA]
  have UE:=apN lx li;rcases ho with ⟨rfl,_⟩|⟨ho,g,h3,hC⟩
  .simp at dp
  rw[h3] at rC;cases hb:HZ lx li with
  |true=>
   rw[hb] at UE;simp only[go_sem,i51_l1,h1,h3,h4,jT,rC,vr,Fu,hB,hC,aP,FK,jN,iD,Let.ps,dp,w1,s73,dA UE];refine⟨ah,fun j y hj hy=>?_⟩;rcases og.1 hj with hj|rfl
   .exact hp j y hj hy
   rw[hx] at hy;cases hy;rw[ad5,hb]
  |false=>rw[hb] at UE;simp only[go_sem,i51_l1,jT,rC,vr,Fu,hB,hC,aP,FK,jN,iD,Let.ps,dp,s73,dA UE];refine⟨ah,fin _ ?_ ?_ ?_ ?_ (fun y hy=>by rw[hx] at hy;cases hy;rw[ad5,hb])⟩;all_goals simp only[go_sem,jT,rC,vr,Fu]
 have:k=o.length:=aa;subst this;have eh:∀x,o[o.length]?=some x->Ck ls i x=false:=fun x hx=>by simp at hx
 rcases ho with ⟨rfl,h3⟩|⟨ho,g,h3,hC⟩
 .rw[h3] at rC;simp only[go_sem,i51_l1,rC,Fu,fh];refine⟨ah,fin _ ?_ ?_ ?_ ?_ eh⟩;all_goals simp only[go_sem,jT,rC,vr,Fu]
 rw[h3] at rC;simp only[go_sem,i51_l1,rC,Fu,fh];refine⟨ah,fin _ ?_ ?_ ?_ ?_ eh⟩;all_goals simp only[go_sem,jT,rC,vr,Fu]
def ao8(ls:ai)(o:a_)(i:Nat):(Be ls o i).length=o.length+1:=by unfold Be;simp only[gJ,dL,iH,lD];have:=(List.takeWhile_sublist (Ck ls i) (l:=o)).length_le;omega
def Le{aj:aE}{id g z len ty:Nat}{es:s_}(h:aj id=(g,some (.arr ty z es)))(hl:len=es.length):j6 aj (.one (.hsl id g z 0 len))=some (.one (.own ty z es)):=by subst hl;simp only[j6,uH,pO,nU,kJ,h,cD,and_self,if_true,lR];rfl
def Qc(o:a_):RC:=if o=[] then .p .nils else .own 3 1 (nP o)
def aj5(f:Int)(ls:ai)(hl:ls.length<=1000000):aO S 51 [fe f ls] (.one (Qc (aI ls))):=by
 refine bY c51 ?_;simp only[go_sem,i51];refine dG (fun k ak aj=>ak 1=.one (.bt 3264000000 1 0)/\aj 3264000000=(1,some (.var (sT f ls)))/\ak 4=vi k/\F4 3264576640 (pJ ls k) (ak 3) aj) 0 ls.length (cA _) ?_ ?_
 .simp only[go_sem];exact⟨rfl,.inl ⟨rfl,rfl⟩⟩
 rintro k ak aj hk ⟨h1,hB,h4,ho⟩
 have eT:=xN ls k;by_cases aB:k<ls.length
 .obtain⟨l,dp⟩:=aN aB;have hi:=jo dp;have aP:((k:Int)<(ls.length:Int)):=aa;have w1:=df (n:=k) aa;have hs:=Jd ls k;unfold Bz at hs;rw[dp] at hs;cases hp:(l.kind==1) with
  |false=>
   have ml:(l.kind !=1)=true:=by simp[bne,hp]
   simp only[Let.aF,hp] at hs;have hs:pJ ls (k+1)=pJ ls k:=hs;simp only[go_sem,i51_l4,i51_r3,h1,hB,h4,hi,Let.ps,aP,ml,w1,hs,aB];rcases ho with ⟨e,h3⟩|⟨ho,g,h3,hC⟩
   .exact .inl ⟨e,by simp only[go_sem,h3]⟩
   exact .inr ⟨ho,g,by simp only[go_sem,h3],by simp only[go_sem,hC]⟩
  |true=>
   have ml:(l.kind !=1)=false:=by simp[bne,hp]
   simp only[Let.aF,hp] at hs;have hs:pJ ls (k+1)=Be ls (pJ ls k) k:=hs;simp only[go_sem,i51_l4,h1,hB,h4,hi,Let.ps,aP,ml];refine aj0 (ls:=ls) (f:=f) (o:=pJ ls k) (i:=k) ?_ ?_ ?_ ?_ ?_ dp (fun x hx=>Nat.lt_trans (Qb hx) aB) aa ?_
   .rcases ho with ⟨e,h3⟩|⟨ho,g,h3,hC⟩
    .exact .inl ⟨e,by simp only[go_sem,h3]⟩
    exact .inr ⟨ho,g,by simp only[go_sem,h3],by simp only[go_sem,hC]⟩
   .simp only[go_sem,h1]
   .simp only[go_sem,hB]
   .simp only[go_sem,h4]
   .rfl
   intro aH ao q1 q2 q3 q4;simp only[go_sem,h1,h4,hB] at q1 q2 q3;simp only[go_sem,i51_r3,q1,q2,q3,w1,hs,aB];rcases q4 with ⟨e,h3⟩|⟨ho,g,h3,hC⟩
   .exact .inl ⟨e,by simp only[go_sem,h3]⟩
   exact .inr ⟨ho,g,by simp only[go_sem,h3],by simp only[go_sem,hC]⟩
 have:k=ls.length:=aa;subst this;have he:aI ls=pJ ls ls.length:=rfl;rw[<- he] at ho;rcases ho with ⟨e,h3⟩|⟨ho,g,h3,hC⟩
 .simp only[go_sem,i51_l4,i51_r5,h1,hB,h3,h4,fh,Qc,e]
 simp only[go_sem,i51_l4,i51_r5,h1,hB,h3,h4,fh,Qc,ho];exact Le hC af
def iA(ls:ai)(ax:a_)(d:Nat):Nat:=
 if 2*ls.length<=d then
  if d%2=0 then dB ls.length (ax.getD (((d-2*ls.length)/2+1)%ax.length) 0) (!dn ls (ax.getD (((d-2*ls.length)/2+1)%ax.length) 0))
  else dB ls.length (ax.getD ((d-2*ls.length)/2) 0) (dn ls (ax.getD ((d-2*ls.length)/2) 0))
 else
  let fw:=d%2==0
  let v:=if fw then (d/2+1)%ls.length else d/2
  match ls[v]? with
  |none=>0
  |some l=>if l.kind==2 then dB ls.length (fQ ls v) (fw==(l.over==(l.sign==1)))
   else if dn ls v==fw then 2*ls.length+2*ax.idxOf v else 2*ls.length+2*((ax.idxOf v+ax.length-1)%ax.length)+1
def agz{ls:ai}{i:Nat}(hi:i<ls.length):fQ ls i<ls.length:=by
 unfold fQ;cases h:(List.range ls.length).find? (Bi ls i) with
 |none=>exact hi
 |some k=>
  have:=IL h
  simpa using this
def Ja{n i:Nat}{fw:Bool}(hi:i<n):dB n i fw<2*n:=by unfold dB;have:=dk (i+n-1) (show 0<n by omega);split<;>omega
def Vx{ls:ai}{ax:a_}{d:Nat}(kD:∀x∈ax,x<ls.length)(hp:∀v l,ls[v]?=some l->(l.kind==2)=false->v∈ax)(hd:d<2*ls.length+2*ax.length):iA ls ax d<2*ls.length+2*ax.length:=by
 have DJ:∀k,k<ax.length->ax.getD k 0<ls.length:=fun k hk=>by obtain⟨x,hx⟩:=aN hk;rw[dK,hx];exact kD x (aZ hx)
 unfold iA;by_cases h:2*ls.length<=d
 .rw[aG h];have hm:=dk ((d-2*ls.length)/2+1) (show 0<ax.length by omega);by_cases h2:d%2=0
  .rw[aG h2];exact EN (Ja (DJ _ hm)) aa
  rw[aC h2];exact EN (Ja (DJ _ aa)) aa
 rw[aC h];have hn:0<ls.length:=aa;have hv:(if (d%2==0)=true then (d/2+1)%ls.length else d/2)<ls.length:=by
  split
  .exact dk _ hn
  omega
 simp only;generalize (if (d%2==0)=true then (d/2+1)%ls.length else d/2)=v at hv;obtain⟨l,hl⟩:=aN hv;rw[hl];simp only;by_cases hk:(l.kind==2)=true
 .rw[aG hk];exact EN (Ja (agz hv)) aa
 rw[aC hk];have jC:=hp v l hl (by simpa using hk);have DK:ax.idxOf v<ax.length:=PH.2 jC;have hm:=dk (ax.idxOf v+ax.length-1) (show 0<ax.length by omega);split<;>omega
def aoX{ax:a_}{v:Nat}:∀j,j<ax.idxOf v->ax[j]? ≠some v:=by
 induction ax with
 |nil=>intro j h;simp at h
 |cons a ax ih=>
  intro j h e;rw[List.idxOf_cons] at h;by_cases ha:a=v
  .simp[ha] at h
  have hb:(a==v)=false:=by simpa using ha
  rw[hb] at h;cases j with
  |zero=>simp at e;exact ha e
  |succ j=>exact ih j (by simp at h;omega) (by simpa using e)
def aeo{ax:a_}{v:Nat}(h:v∈ax):ax[ax.idxOf v]?=some v:=by have hl:ax.idxOf v<ax.length:=PH.2 h;rw[rR hl,List.getElem_idxOf hl]
def avd(f:Int)(ls:ai)(ax:a_)(d:Nat)(hl:ls.length<=1000000)(iC:ax.length<=1000000)(kD:∀x∈ax,x<ls.length)(hp:∀v l,ls[v]?=some l->(l.kind==2)=false->v∈ax)
  (hd:d<2*ls.length+2*ax.length):aO S 52 [fe f ls,.one (.p (Ct ax)),vi d] (ri (iA ls ax d)):=by
 have m1:IntKind.i64.wrap (2*(ls.length:Int))=((2*ls.length:Nat):Int):=wrap_small (n:=2*ls.length) aa;unfold iA;by_cases h:2*ls.length<=d
 .rw[aG h];refine bY c52 ?_;have h':((2*ls.length:Nat):Int)<=(d:Int):=aa;have m2:IntKind.i64.wrap ((d:Int)-((2*ls.length:Nat):Int))=((d-2*ls.length:Nat):Int):=by
   have:((d:Int)-((2*ls.length:Nat):Int))=((d-2*ls.length:Nat):Int):=aa;rw[this];exact wrap_small aa
  have m3:=wrap_small (n:=(d-2*ls.length)/2) aa;have hm:=dk ((d-2*ls.length)/2+1) (show 0<ax.length by omega);have qL:¬((ax.length:Int)=0):=aa;by_cases h2:d%2=0
  .rw[aG h2];have m4:=df (n:=(d-2*ls.length)/2) aa;have ju:(((d%2:Nat):Int)==0)=true:=by simp[h2]
   have m5:=xv ((d-2*ls.length)/2+1) ax.length;obtain⟨v,hv⟩:=aN hm;have qP:ax.getD (((d-2*ls.length)/2+1)%ax.length) 0=v:=by rw[dK,hv];rfl
   rw[qP];have tx:=kD v (aZ hv);have BZ:=kI hv;have pd:=WX f ls v hl aa;have pa:=V6 f ls v (!dn ls v) hl tx;simp only[go_sem,i52,m1,m2,m3,m4,m5,h',ju,BZ,qL,jI,eQ,dZ,s75,s74,dA pd,dI pa];exact aL
  rw[aC h2];have ju:(((d%2:Nat):Int)==0)=false:=by simp;omega
  obtain⟨v,hv⟩:=aN (ls:=ax) (k:=(d-2*ls.length)/2) aa;have qP:ax.getD ((d-2*ls.length)/2) 0=v:=by rw[dK,hv];rfl
  rw[qP];have tx:=kD v (aZ hv);have BZ:=kI hv;have pd:=WX f ls v hl aa;have pa:=V6 f ls v (dn ls v) hl tx;simp only[go_sem,i52,m1,m2,m3,h',ju,BZ,jI,eQ,dZ,s75,s74,dA pd,dI pa];exact aL
 rw[aC h];have h':¬(((2*ls.length:Nat):Int)<=(d:Int)):=aa;have m3:=wrap_small (n:=d/2) aa;have fE:¬((ls.length:Int)=0):=aa;have qL:=dk (d/2+1) (show 0<ls.length by omega);have m4:=df (n:=d/2) aa;have m5:=xv (d/2+1) ls.length;have body:∀v:Nat,v<ls.length->∀fw:Bool,v=(if fw then (d/2+1)%ls.length else d/2)->(d%2==0)=fw->(((d%2:Nat):Int)==0)=fw->aO S 52 [fe f ls,.one (.p (Ct ax)),vi d] (ri ((match ls[v]? with
   |none=>0
   |some l=>if l.kind==2 then dB ls.length (fQ ls v) (fw==(l.over==(l.sign==1)))
    else if dn ls v==fw then 2*ls.length+2*ax.idxOf v else 2*ls.length+2*((ax.idxOf v+ax.length-1)%ax.length)+1:Nat):Int)):=by
  intro v hv fw fO zx r6;obtain⟨l,jD⟩:=aN hv;have iE:=jo jD;rw[jD];simp only;refine bY c52 ?_;cases hk:(l.kind==2) with
  |true=>
   have po:=aq0 f ls v hl hv;have pa:=V6 f ls (fQ ls v) (fw==(l.over==(l.sign==1))) hl (agz hv);cases fw with
   |true=>have fO:v=(d/2+1)%ls.length:=fO;rw[fO] at iE po pa |-;simp only[go_sem,i52,m1,m3,m4,m5,h',r6,iE,Let.ps,fE,hk,jI,eQ,dZ,s76,s74,dI po,dI pa];exact aL
   |false=>have fO:v=d/2:=fO;rw[fO] at iE po pa |-;simp only[go_sem,i52,m1,m3,h',r6,iE,Let.ps,hk,jI,eQ,dZ,s76,s74,dI po,dI pa];exact aL
  |false=>
   have jC:=hp v l jD hk;have DK:ax.idxOf v<ax.length:=PH.2 jC;have pat:=at_r ax v (ax.idxOf v) iC (aeo jC) aoX;have pd:=WX f ls v hl aa;have DQ:¬((ax.length:Int)=0):=aa;have kY:=dk (ax.idxOf v+ax.length-1) (show 0<ax.length by omega);have n1:=uZ (a:=ax.idxOf v) aa;have n2:=wrap_add (a:=2*ls.length) (b:=2*ax.idxOf v) aa;have n3:=wrap_add (a:=ax.idxOf v) (b:=ax.length) aa;have n4:=LU (a:=ax.idxOf v+ax.length) aa aa;have n5:=xv (ax.idxOf v+ax.length-1) ax.length;have n6:=uZ (a:=(ax.idxOf v+ax.length-1)%ax.length) aa;have n7:=wrap_add (a:=2*ls.length) (b:=2*((ax.idxOf v+ax.length-1)%ax.length)) aa;have n8:=df (n:=2*ls.length+2*((ax.idxOf v+ax.length-1)%ax.length)) aa;cases fw with
   |true=>
    have fO:v=(d/2+1)%ls.length:=fO;cases fD:dn ls v with
    |true=>rw[fD] at pd;subst fO;simp only[go_sem,i52,m1,m3,m4,m5,h',r6,iE,Let.ps,fE,hk,jI,eQ,dZ,s77,s75,eF pat,aJ pd,n1,n2]
    |false=>rw[fD] at pd;subst fO;simp only[go_sem,i52,m1,m3,m4,m5,h',r6,iE,Let.ps,fE,hk,jI,eQ,dZ,s77,s75,eF pat,aJ pd,n3,n4,n5,n6,n7,n8,DQ]
   |false=>
    have fO:v=d/2:=fO;cases fD:dn ls v with
    |true=>rw[fD] at pd;subst fO;simp only[go_sem,i52,m1,m3,h',r6,iE,Let.ps,hk,jI,eQ,dZ,s77,s75,eF pat,aJ pd,n3,n4,n5,n6,n7,n8,DQ]
    |false=>rw[fD] at pd;subst fO;simp only[go_sem,i52,m1,m3,h',r6,iE,Let.ps,hk,jI,eQ,dZ,s77,s75,eF pat,aJ pd,n1,n2]
 have tx:(if (d%2==0)=true then (d/2+1)%ls.length else d/2)<ls.length:=by
  split
  .exact qL
  omega
 have:=body _ tx (d%2==0) rfl rfl (by cases hq:(d%2==0)<;>simp at hq |- <;>omega);exact this
abbrev bP(o:l_):s_:=o.map fun b:Bool=>[PV.bool b]
def tR{o:l_}{k:Nat}{b:Bool}(h:o[k]?=some b):(bP o)[k]?=some [.bool b]:=by simp[h]
def Jf(o:l_)(k:Nat)(b:Bool):(bP o).set k [.bool b]=bP (o.set k b):=by simp[List.map_set]
def fK(next:Nat->Nat):Nat->Nat->l_->a_×l_
 |0,_,seen=>([],seen)
 |k+1,x,seen=>if seen.getD x true then ([],seen) else (x::(fK next k (next x) (seen.set x true)).1,(fK next k (next x) (seen.set x true)).2)
def Aa(s:l_):Nat:=s.countP (fun b=> !b)
def Pt{s:l_}{x:Nat}(h:s[x]?=some false):Aa (s.set x true)+1=Aa s:=by
 induction s generalizing x with
 |nil=>simp at h
 |cons b s ih=>
  cases x with
  |zero=>simp at h;subst h;simp[Aa]
  |succ x=>have:=ih (x:=x) (by simpa using h);unfold Aa at this |-;simp only[List.set_cons_succ,vY];omega
def avm(next:Nat->Nat):∀(k x:Nat) (s:l_),(fK next k x s).2.length=s.length:=by
 intro k
 induction k with
 |zero=>intro x s;rfl
 |succ k ih=>
  intro x s;unfold fK;split
  .rfl
  simp[ih]
def vT(next:Nat->Nat)(st:List a_×l_)(d:Nat):List a_×l_:=if st.2.getD d true then st else (st.1++[(fK next (st.2.length+1) d st.2).1],(fK next (st.2.length+1) d st.2).2)
def eB(next:Nat->Nat)(N k:Nat):List a_×l_:=(List.range k).foldl (vT next) ([],List.replicate N false)
def gO(next:Nat->Nat)(N:Nat):List a_:=(eB next N N).1
def Ab(next:Nat->Nat)(N k:Nat):eB next N (k+1)=vT next (eB next N k) k:=by unfold eB;rw[yO,IK];rfl
def IA(next:Nat->Nat)(N:Nat):∀k,(eB next N k).2.length=N:=by
 intro k
 induction k with
 |zero=>simp[eB]
 |succ k ih=>
  rw[Ab];unfold vT;split
  .exact ih
  simp[avm,ih]
def avt(next:Nat->Nat)(N k:Nat)(hk:1<=k)(hN:1<=N):(eB next N k).1≠[]:=by
 induction k with
 |zero=>omega
 |succ k ih=>
  rw[Ab];by_cases h0:k=0
  .subst h0;have hz:(eB next N 0)=([],List.replicate N false):=rfl;have hg:(List.replicate N false).getD 0 true=false:=by
    obtain⟨n,rfl⟩:∃n,N=n+1:=⟨N-1,aa⟩;rfl
   rw[hz];unfold vT;simp only[hg];simp
  have:=ih aa;unfold vT;split
  .exact this
  simp
def Px(next:Nat->Nat)(N:Nat):∀k,(eB next N k).1.length<=k:=by
 intro k
 induction k with
 |zero=>simp[eB]
 |succ k ih=>
  rw[Ab];unfold vT;split
  .omega
  simp;exact ih
def LQ(s:l_):Aa s<=s.length:=List.countP_le_length
def avp{ls:ai}{ax:a_}(hl:ls.length<=1000000)(iC:ax.length<=1000000)(kD:∀x∈ax,x<ls.length)(hp:∀v l,ls[v]?=some l->(l.kind==2)=false->v∈ax){Q:eK}:
  ∀(fuel x:Nat) (sn:l_) (w:a_) (ak:Env) (aj:aE),ak 1=.one (.bt 1856000000 1 0)->aj 1856000000=(1,some (.var (sT f ls)))->
   ak 4=.one (.hsl 1856128064 1 1 0 ax.length)->aj 1856128064=(1,some (.arr 3 1 (nP ax)))->ak 5=.one (.hsl 1856192512 1 1 0 sn.length)->aj 1856192512=(1,some (.arr 4 1 (bP sn)))->
   F4 1856832192 w (ak 7) aj->ak 8=vi x->x<sn.length->sn.length=2*ls.length+2*ax.length->Aa sn<fuel->w.length+Aa sn<=5000000->
   (∀aH ao,aH 1=ak 1->aH 3=ak 3->aH 4=ak 4->aH 5=ak 5->aH 6=ak 6->ao 1856000000=aj 1856000000->ao 1856128064=aj 1856128064->ao 1856896192=aj 1856896192->ao 1856896128=aj 1856896128->
    ao 1856192512=(1,some (.arr 4 1 (bP (fK (iA ls ax) fuel x sn).2)))->F4 1856832192 (w++(fK (iA ls ax) fuel x sn).1) (aH 7) ao->Q .normal aH ao)->
   W S .all (.loop i29_l1) (rV 2 Q) ak aj:=by
 intro fuel
 induction fuel with
 |zero=>intro x sn w ak aj _ _ _ _ _ _ _ _ _ _ h;omega
 |succ fuel ih=>
  intro x sn w ak aj h1 hB h4 hA h5 hS ho h8 hx hsl hu hw hq;obtain⟨b,hb⟩:=aN hx;have kV:=tR hb;have A3:sn.getD x true=b:=by rw[dK,hb];rfl
  unfold fK at hq;rw[A3] at hq;refine sJ ?_;cases b with
  |true=>
   simp only[go_sem,i29_l1,h5,hS,h8,hx,kV];refine hq _ _ ?_ ?_ ?_ ?_ ?_ rfl rfl rfl rfl hS ?_;all_goals simp only[go_sem]
   exact ho
  |false=>
   have FR:=Pt hb;have pt:=avd f ls ax x hl iC kD hp aa;have jW:=Vx (d:=x) kD hp aa;have iF:=Jf sn x true;have lf:∀n:Nat,n<=5000001->n*8<=140737488355328:=fun n hn=>aa;have HK:List.take ax.length (nP ax)=nP ax:=gT af;rcases ho with ⟨rfl,h7⟩|⟨T8,g,h7,hC⟩
   .simp only[go_sem,i29_l1,h1,hB,h4,hA,h5,hS,h7,h8,hx,kV,iF,HK,s52,eF pt,au,aw];refine ih (iA ls ax x) (sn.set x true) [x] _ _ ?_ ?_ ?_ ?_ ?_ ?_ ?_ ?_ (by simpa [hsl] using jW) (by simpa using hsl) aa (by simp;omega) ?_
    .simp only[go_sem,h1]
    .simp only[go_sem,hB]
    .simp only[go_sem,h4]
    .simp only[go_sem,hA]
    .simp only[go_sem,h5,nA]
    .simp only[go_sem]
    .simp only[go_sem];exact .inr ⟨af,_,rfl,rfl⟩
    .simp only[go_sem]
    intro aH ao q1 q3 q4 q5 q6 b1 b2 b3 b4 b5 b6;refine hq aH ao ?_ ?_ ?_ ?_ ?_ ?_ ?_ ?_ ?_ b5 ?_
    .rw[q1];simp only[go_sem]
    .rw[q3];simp only[go_sem]
    .rw[q4];simp only[go_sem]
    .rw[q5];simp only[go_sem]
    .rw[q6];simp only[go_sem]
    .rw[b1];simp only[go_sem]
    .rw[b2];simp only[go_sem]
    .rw[b3];simp only[go_sem]
    .rw[b4];simp only[go_sem]
    simpa using b6
   have uP:List.take w.length (nP w)=nP w:=gT af;have k9:=lf (w.length+1) aa;simp only[go_sem,i29_l1,h1,hB,h4,hA,h5,hS,h7,h8,hx,kV,iF,HK,s52,eF pt,hC,uP,k9,au,aw];refine ih (iA ls ax x) (sn.set x true) (w++[x]) _ _ ?_ ?_ ?_ ?_ ?_ ?_ ?_ ?_ (by simpa [hsl] using jW) (by simpa using hsl) aa (by simp;omega) ?_
   .simp only[go_sem,h1]
   .simp only[go_sem,hB]
   .simp only[go_sem,h4]
   .simp only[go_sem,hA]
   .simp only[go_sem,h5,nA]
   .simp only[go_sem]
   .simp only[go_sem];exact .inr ⟨af,g+1,af,by simp[aU]⟩
   .simp only[go_sem]
   intro aH ao q1 q3 q4 q5 q6 b1 b2 b3 b4 b5 b6;refine hq aH ao ?_ ?_ ?_ ?_ ?_ ?_ ?_ ?_ ?_ b5 ?_
   .rw[q1];simp only[go_sem]
   .rw[q3];simp only[go_sem]
   .rw[q4];simp only[go_sem]
   .rw[q5];simp only[go_sem]
   .rw[q6];simp only[go_sem]
   .rw[b1];simp only[go_sem]
   .rw[b2];simp only[go_sem]
   .rw[b3];simp only[go_sem]
   .rw[b4];simp only[go_sem]
   simpa using b6
def outW(site:Nat)(o:List a_)(v:V)(aj:aE):Prop:=(o=[]/\v=.one (.p .nils))\/(o≠[]/\ ∃g,v=.one (.hsl site g 1 0 o.length)/\aj site=(g,some (.arr 98 1 (o.map fun w=>[Ct w]))))
def avx(f:Int)(ls:ai)(hl:ls.length<=1000000)(aK:aI ls≠[])(hp:∀v l,ls[v]?=some l->(l.kind==2)=false->v∈aI ls):
  aO S 29 [fe f ls] (.one (.own 98 1 ((gO (iA ls (aI ls)) (2*ls.length+2*(aI ls).length)).map fun w=>[Ct w]))):=by
 have pa:=aj5 f ls hl;have kD:∀x∈aI ls,x<ls.length:=fun x h=>Qb h;have iC:(aI ls).length<=ls.length:=xN ls ls.length;unfold Qc at pa;rw[aC aK] at pa;generalize aI ls=ax at aK hp pa kD iC;have m1:=uZ (a:=ls.length) aa;have m2:=uZ (a:=ax.length) aa;have m3:=wrap_add (a:=2*ls.length) (b:=2*ax.length) aa;have tj:(nP ax).length=ax.length:=af;have lf:2*ls.length+2*ax.length<=140737488355328:=aa;have DV:List.replicate (2*ls.length+2*ax.length) [PV.bool false]=bP (List.replicate (2*ls.length+2*ax.length) false):=af
 refine bY c29 ?_;have aob:∀(aj:aE),land aj [] 1856128064 ((RV.one (.own 3 1 (nP ax))).iu (S.lone 1856128064))=some (.one (.hsl 1856128064 ((aj 1856128064).1+1) 1 0 ax.length),[(1856128064,((aj 1856128064).1+1,some (.arr 3 1 (nP ax))))]):=by intro aj;have fM:S.lone 1856128064=false:=ah;rw[fM];simp only[RV.iu,land,true_or,if_true,jY,iY,jh,jF,dY,tF,nW,cU,jJ]
 simp only[go_sem,i29,s51,aY pa (aob _),m1,m2,m3,lf,DV];generalize hN:2*ls.length+2*ax.length=N at lf;refine dG (fun k ak aj=>ak 1=.one (.bt 1856000000 1 0)/\aj 1856000000=(1,some (.var (sT f ls)))/\ak 4=.one (.hsl 1856128064 1 1 0 ax.length)/\aj 1856128064=(1,some (.arr 3 1 (nP ax)))/\
   ak 5=.one (.hsl 1856192512 1 1 0 N)/\aj 1856192512=(1,some (.arr 4 1 (bP (eB (iA ls ax) N k).2)))/\ak 6=vi k/\outW 1856896192 (eB (iA ls ax) N k).1 (ak 3) aj) 0 N (cA _) ?_ ?_
 .simp only[go_sem];exact⟨rfl,rfl,.inl ⟨rfl,rfl⟩⟩
 rintro k ak aj hk ⟨h1,hB,h4,hA,h5,hS,h6,ho⟩
 have hlen:=IA (iA ls ax) N k;have FL:=Px (iA ls ax) N k;by_cases aB:k<N
 .have aP:((k:Int)<(N:Int)):=aa;have w1:=df (n:=k) aa;have hs:=Ab (iA ls ax) N k;generalize di:eB (iA ls ax) N k=st at hlen hs ho hS FL;obtain⟨out,sn⟩:=st;simp only at hlen ho hS FL;obtain⟨b,hb⟩:=aN (ls:=sn) (k:=k) aa;have kV:=tR hb;unfold vT at hs;have A3:sn.getD k true=b:=by rw[dK,hb];rfl
  simp only[A3] at hs;cases b with
  |true=>have hs:eB (iA ls ax) N (k+1)=(out,sn):=hs;simp only[go_sem,i29_l4,i29_r3,h1,hB,h4,hA,h5,hS,h6,aB,aP,kV,w1,hs];exact ho
  |false=>
   have hs:eB (iA ls ax) N (k+1)=(out++[(fK (iA ls ax) (N+1) k sn).1],(fK (iA ls ax) (N+1) k sn).2):=by rw[hs,hlen];rfl
   have hul:=LQ sn;simp only[go_sem,i29_l4,h5,hS,h6,aB,aP,kV];refine avp (f:=f) hl aa kD hp (N+1) k sn [] _ _ ?_ ?_ ?_ ?_ ?_ ?_ ?_ ?_ aa aa aa (by simp;omega) ?_
   .simp only[go_sem,h1]
   .simp only[go_sem,hB]
   .simp only[go_sem,h4]
   .simp only[go_sem,hA]
   .simp only[go_sem,h5,hlen]
   .simp only[go_sem,hS]
   .exact .inl ⟨rfl,by simp only[go_sem]⟩
   .simp only[go_sem]
   intro aH ao q1 q3 q4 q5 q6 b1 b2 b3 b4 b5 b6;simp only[go_sem,h1,h4,h5,h6] at q1 q3 q4 q5 q6;simp only[go_sem,hB,hA] at b1 b2 b3 b4;have T8:(fK (iA ls ax) (N+1) k sn).1≠[]:=by unfold fK;rw[A3];simp
   rw[gR] at b6;rcases b6 with ⟨e,_⟩|⟨_,g,h7,hC⟩
   .exact(T8 e).elim
   generalize fK (iA ls ax) (N+1) k sn=wf at hs T8 b5 h7 hC;obtain⟨w,iN⟩:=wf;simp only at hs T8 b5 h7 hC;have uP:List.take w.length (nP w)=nP w:=gT af;rcases ho with ⟨rfl,h3⟩|⟨ho,go,h3,hO⟩
   .rw[h3] at q3;simp only[go_sem,i29_r2,i29_r3,q1,q3,q4,q5,q6,b1,b2,b5,h7,hC,uP,w1,hs,aB,y8,au,aw];exact .inr ⟨af,_,rfl,by simp[aU]⟩
   rw[h3] at q3;have FQ:List.take out.length (out.map fun w=>[Ct w])=out.map fun w=>[Ct w]:=gT af;have k9:(out.length+1)*24<=140737488355328:=aa;simp only[go_sem,i29_r2,i29_r3,q1,q3,q4,q5,q6,b1,b2,b3,b5,h7,hC,hO,uP,FQ,k9,w1,hs,aB,y8,ch,au,aw];exact .inr ⟨af,go+1,af,by simp[aU]⟩
 have:k=N:=aa;subst this;have he:gO (iA ls ax) k=(eB (iA ls ax) k k).1:=rfl;rw[<- he] at ho;rcases ho with ⟨e,h3⟩|⟨ho,g,h3,hC⟩
 .exact(avt (iA ls ax) k k (by have:=jQ.2 aK;omega) (by have:=jQ.2 aK;omega) e).elim
 simp only[go_sem,i29_l4,i29_r5,h3,h5,h6,fh];exact Le hC af
abbrev YI(l:Let):f_:=[.p (.int .i64 l.kind),.p (.int .i64 l.gate),.p (.int .i64 l.aA),.p (.int .i64 l.id),.p (.int .i64 l.sign),.p (.bool l.over)]
def jq(l o:Let):Bool:=(o.kind==l.kind&&o.gate==l.gate)&&o.aA==l.aA
def iV(l o:Let):Bool:=((o.kind==l.kind&&o.id==l.id)&&o.sign==l.sign)&& !(o.over==l.over)
def xf(f:Int)(ls:ai)(l:Let):Bool:= !(((((((l.id !=0||l.sign !=0)||l.over)||decide (l.gate<0))||decide (f<l.gate))||decide (l.aA<1))||decide ((aq (qe l.gate) ls:Int)<l.aA))||(((aq (jq l) ls:Nat):Int)!=1))
def mQ(ls:ai)(l:Let):Bool:= !((((((l.gate !=0||l.aA !=0)||(l.sign !=1&&l.sign != -1))||decide (l.id<1))||decide (((aq Let.aD ls/2:Nat):Int)<l.id))||(((aq (iV l) ls:Nat):Int)!=1))||(((aq (mu l.id) ls:Nat):Int)!=2))
def fj(f:Int)(ls:ai)(l:Let):Bool:=if l.kind==1 then xf f ls l else if l.kind==2 then mQ ls l else false
def ap1{f:Int}{ls:ai}{l:Let}{g i:Nat}{ak:Env}{aj:aE}{Q:eK}(hl:ls.length<=1000000)(h1:ak 1=.one (.bt 1792000000 1 0))(hB:aj 1792000000=(1,some (.var (sT f ls))))(h3:ak 3=vi i)(h4:ak 4=.one (.bt 1792256320 g 0))(hL:aj 1792256320=(g,some (.var (YI l))))
  (h5:ak 5=vi 0) (h6:ak 6=vi 0) (h7:ak 7=vi 0)
  (hq:∀aH ao,aH 1=ak 1->aH 3=ak 3->aH 4=ak 4->ao 1792000000=aj 1792000000->ao 1792256320=aj 1792256320->aH 5=vi (aq (jq l) ls)->aH 6=vi (aq (iV l) ls)->Q .normal aH ao):
  W S .all (.loop i28_l1) (rV 2 Q) ak aj:=by
 refine dG (fun k aH ao=>aH 1=.one (.bt 1792000000 1 0)/\ao 1792000000=(1,some (.var (sT f ls)))/\aH 3=vi i/\aH 4=.one (.bt 1792256320 g 0)/\ao 1792256320=(g,some (.var (YI l)))/\
   aH 5=vi (aq (jq l) (ls.take k))/\aH 6=vi (aq (iV l) (ls.take k))/\aH 7=vi k) 0 ls.length (cA _) ?_ ?_
 .exact⟨h1,hB,h3,h4,hL,h5,h6,h7⟩
 rintro k aH ao hk ⟨g1,gB,g3,g4,gL,g5,g6,g7⟩
 by_cases aB:k<ls.length
 .obtain⟨o,ho⟩:=aN aB;have hi:=jo ho;have aP:((k:Int)<(ls.length:Int)):=aa;have b5:=Av (jq l) ls k;have b6:=Av (iV l) ls k;have w1:=df (n:=k) aa;have w5:=df (n:=aq (jq l) (ls.take k)) aa;have w6:=df (n:=aq (iV l) (ls.take k)) aa;cases e0:(o.kind==l.kind) with
  |true=>
   cases e1:(o.gate==l.gate) with
   |true=>
    cases e2:(o.aA==l.aA) with
    |true=>
     cases e3:(o.id==l.id) with
     |true=>
      cases e4:(o.sign==l.sign) with
      |true=>
       cases e5:(o.over==l.over) with
       |true=>have c5:=sQ (p:=jq l) ho (by simp only[jq,e0,e1,e2];rfl);have c6:=jR (p:=iV l) ho (by simp only[iV,e0,e3,e4,e5];rfl);simp only[go_sem,i28_l1,g1,gB,g3,g4,gL,g5,g6,g7,hi,Let.ps,aP,w1,w5,e0,e1,e2,e3,e4,e5,c5,c6];first|exact aB|exact⟨aB,rfl⟩|exact⟨aB,rfl,rfl⟩
       |false=>have c5:=sQ (p:=jq l) ho (by simp only[jq,e0,e1,e2];rfl);have c6:=sQ (p:=iV l) ho (by simp only[iV,e0,e3,e4,e5];rfl);simp only[go_sem,i28_l1,g1,gB,g3,g4,gL,g5,g6,g7,hi,Let.ps,aP,w1,w5,w6,e0,e1,e2,e3,e4,e5,c5,c6];first|exact aB|exact⟨aB,rfl⟩|exact⟨aB,rfl,rfl⟩
      |false=>have c5:=sQ (p:=jq l) ho (by simp only[jq,e0,e1,e2];rfl);have c6:=jR (p:=iV l) ho (by simp only[iV,e0,e3,e4];rfl);simp only[go_sem,i28_l1,g1,gB,g3,g4,gL,g5,g6,g7,hi,Let.ps,aP,w1,w5,e0,e1,e2,e3,e4,c5,c6];first|exact aB|exact⟨aB,rfl⟩|exact⟨aB,rfl,rfl⟩
     |false=>have c5:=sQ (p:=jq l) ho (by simp only[jq,e0,e1,e2];rfl);have c6:=jR (p:=iV l) ho (by simp only[iV,e0,e3];rfl);simp only[go_sem,i28_l1,g1,gB,g3,g4,gL,g5,g6,g7,hi,Let.ps,aP,w1,w5,e0,e1,e2,e3,c5,c6];first|exact aB|exact⟨aB,rfl⟩|exact⟨aB,rfl,rfl⟩
    |false=>
     cases e3:(o.id==l.id) with
     |true=>
      cases e4:(o.sign==l.sign) with
      |true=>
       cases e5:(o.over==l.over) with
       |true=>have c5:=jR (p:=jq l) ho (by simp only[jq,e0,e1,e2];rfl);have c6:=jR (p:=iV l) ho (by simp only[iV,e0,e3,e4,e5];rfl);simp only[go_sem,i28_l1,g1,gB,g3,g4,gL,g5,g6,g7,hi,Let.ps,aP,w1,e0,e1,e2,e3,e4,e5,c5,c6];first|exact aB|exact⟨aB,rfl⟩|exact⟨aB,rfl,rfl⟩
       |false=>have c5:=jR (p:=jq l) ho (by simp only[jq,e0,e1,e2];rfl);have c6:=sQ (p:=iV l) ho (by simp only[iV,e0,e3,e4,e5];rfl);simp only[go_sem,i28_l1,g1,gB,g3,g4,gL,g5,g6,g7,hi,Let.ps,aP,w1,w6,e0,e1,e2,e3,e4,e5,c5,c6];first|exact aB|exact⟨aB,rfl⟩|exact⟨aB,rfl,rfl⟩
      |false=>have c5:=jR (p:=jq l) ho (by simp only[jq,e0,e1,e2];rfl);have c6:=jR (p:=iV l) ho (by simp only[iV,e0,e3,e4];rfl);simp only[go_sem,i28_l1,g1,gB,g3,g4,gL,g5,g6,g7,hi,Let.ps,aP,w1,e0,e1,e2,e3,e4,c5,c6];first|exact aB|exact⟨aB,rfl⟩|exact⟨aB,rfl,rfl⟩
     |false=>have c5:=jR (p:=jq l) ho (by simp only[jq,e0,e1,e2];rfl);have c6:=jR (p:=iV l) ho (by simp only[iV,e0,e3];rfl);simp only[go_sem,i28_l1,g1,gB,g3,g4,gL,g5,g6,g7,hi,Let.ps,aP,w1,e0,e1,e2,e3,c5,c6];first|exact aB|exact⟨aB,rfl⟩|exact⟨aB,rfl,rfl⟩
   |false=>
    cases e3:(o.id==l.id) with
    |true=>
     cases e4:(o.sign==l.sign) with
     |true=>
      cases e5:(o.over==l.over) with
      |true=>have c5:=jR (p:=jq l) ho (by simp only[jq,e0,e1];rfl);have c6:=jR (p:=iV l) ho (by simp only[iV,e0,e3,e4,e5];rfl);simp only[go_sem,i28_l1,g1,gB,g3,g4,gL,g5,g6,g7,hi,Let.ps,aP,w1,e0,e1,e3,e4,e5,c5,c6];first|exact aB|exact⟨aB,rfl⟩|exact⟨aB,rfl,rfl⟩
      |false=>have c5:=jR (p:=jq l) ho (by simp only[jq,e0,e1];rfl);have c6:=sQ (p:=iV l) ho (by simp only[iV,e0,e3,e4,e5];rfl);simp only[go_sem,i28_l1,g1,gB,g3,g4,gL,g5,g6,g7,hi,Let.ps,aP,w1,w6,e0,e1,e3,e4,e5,c5,c6];first|exact aB|exact⟨aB,rfl⟩|exact⟨aB,rfl,rfl⟩
     |false=>have c5:=jR (p:=jq l) ho (by simp only[jq,e0,e1];rfl);have c6:=jR (p:=iV l) ho (by simp only[iV,e0,e3,e4];rfl);simp only[go_sem,i28_l1,g1,gB,g3,g4,gL,g5,g6,g7,hi,Let.ps,aP,w1,e0,e1,e3,e4,c5,c6];first|exact aB|exact⟨aB,rfl⟩|exact⟨aB,rfl,rfl⟩
    |false=>have c5:=jR (p:=jq l) ho (by simp only[jq,e0,e1];rfl);have c6:=jR (p:=iV l) ho (by simp only[iV,e0,e3];rfl);simp only[go_sem,i28_l1,g1,gB,g3,g4,gL,g5,g6,g7,hi,Let.ps,aP,w1,e0,e1,e3,c5,c6];first|exact aB|exact⟨aB,rfl⟩|exact⟨aB,rfl,rfl⟩
  |false=>have c5:=jR (p:=jq l) ho (by simp only[jq,e0];rfl);have c6:=jR (p:=iV l) ho (by simp only[iV,e0];rfl);simp only[go_sem,i28_l1,g1,gB,g3,g4,gL,g5,g6,g7,hi,Let.ps,aP,w1,e0,c5,c6];first|exact aB|exact⟨aB,rfl⟩|exact⟨aB,rfl,rfl⟩
 have:k=ls.length:=aa;subst this;rw[lR] at g5 g6;simp only[go_sem,i28_l1,g1,gB,g7,fh];refine hq _ _ ?_ ?_ ?_ ?_ ?_ ?_ ?_;all_goals simp only[go_sem,g1,gB,g3,g4,gL,g5,g6,h1,hB,h3,h4,hL]
def ap2{f:Int}{ls:ai}{l:Let}{g i:Nat}{ak:Env}{aj:aE}{Q:eK}(hl:ls.length<=1000000)(h1:ak 1=.one (.bt 1792000000 1 0))(hB:aj 1792000000=(1,some (.var (sT f ls))))(h3:ak 3=vi i)(h4:ak 4=.one (.bt 1792256320 g 0))(hL:aj 1792256320=(g,some (.var (YI l))))
  (h5:ak 5=vi (aq (jq l) ls)) (h6:ak 6=vi (aq (iV l) ls))
  (hq:fj f ls l=true->∀aH,aH 1=ak 1->aH 3=ak 3->Q .normal aH aj) (hr:fj f ls l=false->∀aH,aH 2=.one (.p (.bool false))->Q .ret aH aj):
  W S .all i28_r2 Q ak aj:=by
 have pin:=in_r f ls hl l.gate;have pvi:=Z4 f ls hl;have pti:=auU f ls hl l.id;have hcv:=sR Let.aD ls;have wv:=wrap_small (n:=aq Let.aD ls/2) aa;cases k1:(l.kind==1) with
 |true=>
  cases a1:(l.id !=0) with
  |true=>
   have ay:fj f ls l=false:=by simp only[fj,k1,xf,a1];rfl
   simp only[go_sem,i28_r2,h4,hL,k1,a1];refine⟨ah,hr ay _ ?_⟩;simp only[go_sem]
  |false=>
   cases a2:(l.sign !=0) with
   |true=>
    have ay:fj f ls l=false:=by simp only[fj,k1,xf,a1,a2];rfl
    simp only[go_sem,i28_r2,h4,hL,k1,a1,a2];refine⟨ah,hr ay _ ?_⟩;simp only[go_sem]
   |false=>
    cases a3:(l.over) with
    |true=>
     have ay:fj f ls l=false:=by simp only[fj,k1,xf,a1,a2,a3];rfl
     simp only[go_sem,i28_r2,h4,hL,k1,a1,a2,a3];refine⟨ah,hr ay _ ?_⟩;simp only[go_sem]
    |false=>
     cases a4:(decide (l.gate<0)) with
     |true=>
      have Aq:(l.gate<0):=qA a4;have ay:fj f ls l=false:=by simp only[fj,k1,xf,a1,a2,a3,a4];rfl
      simp only[go_sem,i28_r2,h4,hL,k1,a1,a2,a3,Aq];refine⟨ah,hr ay _ ?_⟩;simp only[go_sem]
     |false=>
      cases a5:(decide (f<l.gate)) with
      |true=>
       have Aq:¬(l.gate<0):=ie a4;have lG:(f<l.gate):=qA a5;have ay:fj f ls l=false:=by simp only[fj,k1,xf,a1,a2,a3,a4,a5];rfl
       simp only[go_sem,i28_r2,h1,hB,h4,hL,k1,a1,a2,a3,Aq,lG];refine⟨ah,hr ay _ ?_⟩;simp only[go_sem]
      |false=>
       cases a6:(decide (l.aA<1)) with
       |true=>
        have Aq:¬(l.gate<0):=ie a4;have lG:¬(f<l.gate):=ie a5;have oD:(l.aA<1):=qA a6;have ay:fj f ls l=false:=by simp only[fj,k1,xf,a1,a2,a3,a4,a5,a6];rfl
        simp only[go_sem,i28_r2,h1,hB,h4,hL,k1,a1,a2,a3,Aq,lG,oD];refine⟨ah,hr ay _ ?_⟩;simp only[go_sem]
       |false=>
        cases a7:(decide ((aq (qe l.gate) ls:Int)<l.aA)) with
        |true=>
         have Aq:¬(l.gate<0):=ie a4;have lG:¬(f<l.gate):=ie a5;have oD:¬(l.aA<1):=ie a6;have Md:((aq (qe l.gate) ls:Int)<l.aA):=qA a7;have ay:fj f ls l=false:=by simp only[fj,k1,xf,a1,a2,a3,a4,a5,a6,a7];rfl
         simp only[go_sem,i28_r2,h1,hB,h4,hL,s49,dI pin,k1,a1,a2,a3,Aq,lG,oD,Md];refine⟨ah,hr ay _ ?_⟩;simp only[go_sem]
        |false=>
         cases a8:(((aq (jq l) ls:Nat):Int)!=1) with
         |true=>
          have Aq:¬(l.gate<0):=ie a4;have lG:¬(f<l.gate):=ie a5;have oD:¬(l.aA<1):=ie a6;have Md:¬((aq (qe l.gate) ls:Int)<l.aA):=ie a7;have ay:fj f ls l=false:=by simp only[fj,k1,xf,a1,a2,a3,a4,a5,a6,a7,a8];rfl
          simp only[go_sem,i28_r2,h1,hB,h4,hL,h5,s49,dI pin,k1,a1,a2,a3,Aq,lG,oD,Md,a8];refine⟨ah,hr ay _ ?_⟩;simp only[go_sem]
         |false=>
          have Aq:¬(l.gate<0):=ie a4;have lG:¬(f<l.gate):=ie a5;have oD:¬(l.aA<1):=ie a6;have Md:¬((aq (qe l.gate) ls:Int)<l.aA):=ie a7;have ay:fj f ls l=true:=by simp only[fj,k1,xf,a1,a2,a3,a4,a5,a6,a7,a8];rfl
          simp only[go_sem,i28_r2,h1,hB,h4,hL,h5,s49,dI pin,k1,a1,a2,a3,Aq,lG,oD,Md,a8];refine⟨ah,hq ay _ ?_ ?_⟩;all_goals simp only[go_sem]
 |false=>
  cases k2:(l.kind==2) with
  |true=>
   cases a1:(l.gate !=0) with
   |true=>
    have ay:fj f ls l=false:=by simp only[fj,k1,k2,mQ,a1];rfl
    simp only[go_sem,i28_r2,h4,hL,k1,k2,a1];refine⟨ah,hr ay _ ?_⟩;simp only[go_sem]
   |false=>
    cases a2:(l.aA !=0) with
    |true=>
     have ay:fj f ls l=false:=by simp only[fj,k1,k2,mQ,a1,a2];rfl
     simp only[go_sem,i28_r2,h4,hL,k1,k2,a1,a2];refine⟨ah,hr ay _ ?_⟩;simp only[go_sem]
    |false=>
     cases a3:(l.sign !=1) with
     |true=>
      cases a4:(l.sign != -1) with
      |true=>
       have ay:fj f ls l=false:=by simp only[fj,k1,k2,mQ,a1,a2,a3,a4];rfl
       simp only[go_sem,i28_r2,h4,hL,k1,k2,a1,a2,a3,a4];refine⟨ah,hr ay _ ?_⟩;simp only[go_sem]
      |false=>
       cases a5:(decide (l.id<1)) with
       |true=>
        have lG:(l.id<1):=qA a5;have ay:fj f ls l=false:=by simp only[fj,k1,k2,mQ,a1,a2,a3,a4,a5];rfl
        simp only[go_sem,i28_r2,h4,hL,k1,k2,a1,a2,a3,a4,lG];refine⟨ah,hr ay _ ?_⟩;simp only[go_sem]
       |false=>
        cases a6:(decide (((aq Let.aD ls/2:Nat):Int)<l.id)) with
        |true=>
         have lG:¬(l.id<1):=ie a5;have oD:(((aq Let.aD ls/2:Nat):Int)<l.id):=qA a6;have ay:fj f ls l=false:=by simp only[fj,k1,k2,mQ,a1,a2,a3,a4,a5,a6];rfl
         simp only[go_sem,i28_r2,h1,hB,h4,hL,s26,dI pvi,eQ,dZ,wv,k1,k2,a1,a2,a3,a4,lG,oD];refine⟨ah,hr ay _ ?_⟩;simp only[go_sem]
        |false=>
         cases a7:(((aq (iV l) ls:Nat):Int)!=1) with
         |true=>
          have lG:¬(l.id<1):=ie a5;have oD:¬(((aq Let.aD ls/2:Nat):Int)<l.id):=ie a6;have ay:fj f ls l=false:=by simp only[fj,k1,k2,mQ,a1,a2,a3,a4,a5,a6,a7];rfl
          simp only[go_sem,i28_r2,h1,hB,h4,hL,h6,s26,dI pvi,eQ,dZ,wv,k1,k2,a1,a2,a3,a4,lG,oD,a7];refine⟨ah,hr ay _ ?_⟩;simp only[go_sem]
         |false=>
          cases a8:(((aq (mu l.id) ls:Nat):Int)!=2) with
          |true=>
           have lG:¬(l.id<1):=ie a5;have oD:¬(((aq Let.aD ls/2:Nat):Int)<l.id):=ie a6;have ay:fj f ls l=false:=by simp only[fj,k1,k2,mQ,a1,a2,a3,a4,a5,a6,a7,a8];rfl
           simp only[go_sem,i28_r2,h1,hB,h4,hL,h6,s26,s50,dI pvi,dI pti,eQ,dZ,wv,k1,k2,a1,a2,a3,a4,lG,oD,a7,a8];refine⟨ah,hr ay _ ?_⟩;simp only[go_sem]
          |false=>
           have lG:¬(l.id<1):=ie a5;have oD:¬(((aq Let.aD ls/2:Nat):Int)<l.id):=ie a6;have ay:fj f ls l=true:=by simp only[fj,k1,k2,mQ,a1,a2,a3,a4,a5,a6,a7,a8];rfl
           simp only[go_sem,i28_r2,h1,hB,h4,hL,h6,s26,s50,dI pvi,dI pti,eQ,dZ,wv,k1,k2,a1,a2,a3,a4,lG,oD,a7,a8];refine⟨ah,hq ay _ ?_ ?_⟩;all_goals simp only[go_sem]
     |false=>
      cases a5:(decide (l.id<1)) with
      |true=>
       have lG:(l.id<1):=qA a5;have ay:fj f ls l=false:=by simp only[fj,k1,k2,mQ,a1,a2,a3,a5];rfl
       simp only[go_sem,i28_r2,h4,hL,k1,k2,a1,a2,a3,lG];refine⟨ah,hr ay _ ?_⟩;simp only[go_sem]
      |false=>
       cases a6:(decide (((aq Let.aD ls/2:Nat):Int)<l.id)) with
       |true=>
        have lG:¬(l.id<1):=ie a5;have oD:(((aq Let.aD ls/2:Nat):Int)<l.id):=qA a6;have ay:fj f ls l=false:=by simp only[fj,k1,k2,mQ,a1,a2,a3,a5,a6];rfl
        simp only[go_sem,i28_r2,h1,hB,h4,hL,s26,dI pvi,eQ,dZ,wv,k1,k2,a1,a2,a3,lG,oD];refine⟨ah,hr ay _ ?_⟩;simp only[go_sem]
       |false=>
        cases a7:(((aq (iV l) ls:Nat):Int)!=1) with
        |true=>
         have lG:¬(l.id<1):=ie a5;have oD:¬(((aq Let.aD ls/2:Nat):Int)<l.id):=ie a6;have ay:fj f ls l=false:=by simp only[fj,k1,k2,mQ,a1,a2,a3,a5,a6,a7];rfl
         simp only[go_sem,i28_r2,h1,hB,h4,hL,h6,s26,dI pvi,eQ,dZ,wv,k1,k2,a1,a2,a3,lG,oD,a7];refine⟨ah,hr ay _ ?_⟩;simp only[go_sem]
        |false=>
         cases a8:(((aq (mu l.id) ls:Nat):Int)!=2) with
         |true=>
          have lG:¬(l.id<1):=ie a5;have oD:¬(((aq Let.aD ls/2:Nat):Int)<l.id):=ie a6;have ay:fj f ls l=false:=by simp only[fj,k1,k2,mQ,a1,a2,a3,a5,a6,a7,a8];rfl
          simp only[go_sem,i28_r2,h1,hB,h4,hL,h6,s26,s50,dI pvi,dI pti,eQ,dZ,wv,k1,k2,a1,a2,a3,lG,oD,a7,a8];refine⟨ah,hr ay _ ?_⟩;simp only[go_sem]
         |false=>
          have lG:¬(l.id<1):=ie a5;have oD:¬(((aq Let.aD ls/2:Nat):Int)<l.id):=ie a6;have ay:fj f ls l=true:=by simp only[fj,k1,k2,mQ,a1,a2,a3,a5,a6,a7,a8];rfl
          simp only[go_sem,i28_r2,h1,hB,h4,hL,h6,s26,s50,dI pvi,dI pti,eQ,dZ,wv,k1,k2,a1,a2,a3,lG,oD,a7,a8];refine⟨ah,hq ay _ ?_ ?_⟩;all_goals simp only[go_sem]
  |false=>
   have ay:fj f ls l=false:=by simp only[fj,k1,k2];rfl
   simp only[go_sem,i28_r2,h4,hL,k1,k2];refine hr ay _ ?_;simp only[go_sem]
def yy(f:Int)(ls:ai):Bool:=ls.all (fj f ls)
def ap3(f:Int)(ls:ai)(hl:ls.length<=1000000):aO S 28 [fe f ls] (rb (yy f ls)):=by
 refine bY c28 ?_;simp only[go_sem,i28];refine dG (fun k ak aj=>ak 1=.one (.bt 1792000000 1 0)/\aj 1792000000=(1,some (.var (sT f ls)))/\ak 3=vi k/\ ∀j l,j<k->ls[j]?=some l->fj f ls l=true) 0 ls.length (cA _) ?_ ?_
 .simp only[go_sem];exact⟨rfl,fun j l h=>absurd h (o9 j)⟩
 rintro k ak aj hk ⟨h1,hB,h3,ay⟩
 by_cases aB:k<ls.length
 .obtain⟨l,ho⟩:=aN aB;have hi:=jo ho;have aP:((k:Int)<(ls.length:Int)):=aa;have w1:=df (n:=k) aa;simp only[go_sem,i28_l4,h1,hB,h3,hi,Let.ps,aP];refine ap1 (f:=f) (l:=l) (g:=(aj 1792256320).1+1) (i:=k) hl ?_ ?_ ?_ ?_ ?_ ?_ ?_ ?_ ?_
  .simp only[go_sem,h1]
  .simp only[go_sem,hB]
  .simp only[go_sem,h3]
  .simp only[go_sem]
  .simp only[go_sem]
  .simp only[go_sem]
  .simp only[go_sem]
  .simp only[go_sem]
  intro aH ao q1 q3 q4 b1 b2 q5 q6;simp only[go_sem,h1,h3] at q1 q3 q4;simp only[go_sem,hB] at b1 b2;simp only[go_sem];refine ap2 (f:=f) (l:=l) (i:=k) hl q1 b1 q3 q4 b2 q5 q6 ?_ ?_
  .intro Oe dE e1 e3;rw[q1] at e1;rw[q3] at e3;simp only[go_sem,i28_r3,e1,b1,e3,w1];refine⟨aB,fun j l' hj jV=>?_⟩;rcases og.1 hj with hj|rfl
   .exact ay j l' hj jV
   rw[ho] at jV;cases jV;exact Oe
  intro Xz dE e2;have hf:yy f ls=false:=by unfold yy;rw[List.all_eq_false];exact⟨l,aZ ho,by simp[Xz]⟩
  simp only[go_sem,e2,hf]
 have:k=ls.length:=aa;subst this;have hf:yy f ls=true:=by unfold yy;rw[gj];intro x hx;obtain⟨j,hj,rfl⟩:=List.getElem_of_mem hx;exact ay j _ hj af
 simp only[go_sem,i28_l4,i28_r5,h1,hB,h3,fh,hf]
def ao9{ls:ai}{o:a_}{i x:Nat}:x∈Be ls o i↔x∈o\/x=i:=by
 unfold Be;generalize (o.takeWhile (Ck ls i)).length=K;constructor
 .intro h;rcases eX.1 h with h|h
  .exact .inl (xD h)
  rcases ch.1 h with h|h
  .exact .inr h
  exact .inl (xC h)
 rintro (h|rfl)
 .rw[<- mU K o] at h;rcases eX.1 h with h|h
  .exact eX.2 (.inl h)
  exact eX.2 (.inr (ch.2 (.inr h)))
 simp
def aaV{ls:ai}:∀ {k x:Nat},k<=ls.length->(x∈pJ ls k↔x<k/\ ∃l,ls[x]?=some l/\l.aF=true):=by
 intro k
 induction k with
 |zero=>intro x _;simp[pJ]
 |succ k ih=>
  intro x hk;rw[Jd];obtain⟨l,hl⟩:=aN (ls:=ls) (k:=k) aa;have ih:=ih (x:=x) aa;unfold Bz;rw[hl];simp only;by_cases hp:l.aF=true
  .rw[aG hp,ao9,ih];constructor
   .rintro (⟨h1,h2⟩|rfl)
    .exact⟨aa,h2⟩
    exact⟨aa,l,hl,hp⟩
   rintro ⟨h1,h2⟩
   rcases og.1 h1 with h|rfl
   .exact .inl ⟨h,h2⟩
   exact .inr rfl
  rw[aC hp,ih];constructor
  .rintro ⟨h1,h2⟩;exact⟨aa,h2⟩
  rintro ⟨h1,m,hm,vC⟩
  rcases og.1 h1 with h|rfl
  .exact⟨h,m,hm,vC⟩
  rw[hl] at hm;cases hm;exact(hp vC).elim
def uz{ls:ai}{x:Nat}:x∈aI ls↔ ∃l,ls[x]?=some l/\l.aF=true:=by
 have:=aaV (ls:=ls) (k:=ls.length) (x:=x) (cD _);have e:aI ls=pJ ls ls.length:=rfl;rw[e,this];constructor
 .rintro ⟨_,h⟩;exact h
 rintro ⟨l,h,h2⟩;exact⟨(aW.1 h).1,l,h,h2⟩
def afD{ls:ai}(h:yy f ls=true){v:Nat}{l:Let}(hv:ls[v]?=some l):l.aF=true\/l.aD=true:=by
 have:=(gj.1 h) l (aZ hv);unfold fj at this;unfold Let.aF Let.aD;cases h1:(l.kind==1) with
 |true=>exact .inl rfl
 |false=>
  cases h2:(l.kind==2) with
  |true=>exact .inr rfl
  |false=>rw[h1,h2] at this;simp at this
def mO(ls:ai):Nat:=(gO (iA ls (aI ls)) (2*ls.length+2*(aI ls).length)).length
def mz(f:Int)(ls:ai):Bool:=(match ls[0]? with|some l=>l.kind==1|none=>true)&&(aq Let.aF ls%2==0)&&yy f ls&&(mO ls==aq Let.aF ls+aq Let.aD ls/2+2)
def cX(f:Int)(ls:ai):Int:=if 400<ls.length\/200<aq Let.aD ls then 7 else if f<0\/40<f then 2 else if ls=[] then 0 else if mz f ls then 0 else 3
def akT(f:Int)(ls:ai)(hl:ls.length<=1000000):aO S 10 [fe f ls] (ri (cX f ls)):=by
 have pvi:=Z4 f ls hl;have ppa:=arb f ls hl;have ple:=ap3 f ls hl;have pcr:=als f ls hl;have hci:=sR Let.aD ls;have iD:=sR Let.aF ls;refine bY c10 ?_;unfold cX;by_cases h1:400<ls.length
 .have jT:(400:Int)<(ls.length:Int):=aa;simp only[go_sem,i10,h1,jT]
 have jT:¬(400:Int)<(ls.length:Int):=aa;by_cases h2:200<aq Let.aD ls
 .have ju:(200:Int)<(aq Let.aD ls:Int):=aa;simp only[go_sem,i10,h1,jT,h2,ju,s26,eF pvi]
 have ju:¬(200:Int)<(aq Let.aD ls:Int):=aa;by_cases h3:f<0
 .simp only[go_sem,i10,h1,jT,h2,ju,h3,s26,eF pvi]
 by_cases h4:40<f
 .simp only[go_sem,i10,h1,jT,h2,ju,h3,h4,s26,eF pvi]
 have aoA:¬(400<ls.length\/200<aq Let.aD ls):=aa;have aoB:¬(f<0\/40<f):=aa;rw[aC aoA,aC aoB];by_cases he:ls=[]
 .subst he;have hz:(((0:Nat):Int)==0)=true:=ae;have hz3:¬((400:Int)<((0:Nat):Int)):=ae;have asj:aO S 26 [.agg [.p (.int .i64 f),.p (.sl [])]] (ri (aq Let.aD [])):=pvi;simp only[go_sem,i10,hz3,ju,h3,h4,s26,eF asj,hz]
 have hlen:0<ls.length:=jQ.2 he;obtain⟨l0,h0⟩:=aN hlen;have A5:=jo h0;have HE:(((ls.length:Nat):Int)==0)=false:=by simp;omega
 rw[aC he];generalize hr:(if mz f ls=true then (0:Int) else 3)=r;cases c1:(l0.kind==1) with
 |false=>
  have c1':(l0.kind !=1)=true:=by simp[bne,c1]
  have hv:mz f ls=false:=by simp only[mz,h0,c1];rfl
  rw[hv] at hr;have hr:(3:Int)=r:=hr;subst hr;simp only[go_sem,i10,jT,ju,h3,h4,s26,eF pvi,HE,s27,eF ppa,A5,Let.ps,c1'];exact aL
 |true=>
  have c1':(l0.kind !=1)=false:=by simp[bne,c1]
  cases c2:(aq Let.aF ls%2==0) with
  |false=>
   have c2':(((aq Let.aF ls%2:Nat):Int)!=0)=true:=by simp at c2 |-;omega
   have hv:mz f ls=false:=by simp only[mz,h0,c1,c2];rfl
   rw[hv] at hr;have hr:(3:Int)=r:=hr;subst hr;simp only[go_sem,i10,jT,ju,h3,h4,s26,eF pvi,HE,s27,eF ppa,A5,Let.ps,c1',jI,dZ,c2'];exact aL
  |true=>
   have c2':(((aq Let.aF ls%2:Nat):Int)!=0)=false:=by simp at c2 |-;omega
   cases c3:yy f ls with
   |false=>
    rw[c3] at ple;have hv:mz f ls=false:=by simp only[mz,h0,c1,c2,c3];rfl
    rw[hv] at hr;have hr:(3:Int)=r:=hr;subst hr;simp only[go_sem,i10,jT,ju,h3,h4,s26,eF pvi,HE,s27,eF ppa,A5,Let.ps,c1',jI,dZ,c2',s28,dA ple];exact aL
   |true=>
    rw[c3] at ple;have aK:aI ls≠[]:=fun e=>by have:(0:Nat)∈aI ls:=uz.2 ⟨l0,h0,c1⟩;rw[e] at this;cases this
    have hp:∀v l,ls[v]?=some l->(l.kind==2)=false->v∈aI ls:=fun v l hv h2=>by
     rcases afD c3 hv with h|h
     .exact uz.2 ⟨l,hv,h⟩
     unfold Let.aD at h;rw[h2] at h;cases h
    have pw:=avx f ls hl aK hp;have Ov:mO ls=(gO (iA ls (aI ls)) (2*ls.length+2*(aI ls).length)).length:=rfl;have lh:=Px (iA ls (aI ls)) (2*ls.length+2*(aI ls).length) (2*ls.length+2*(aI ls).length);generalize hW:gO (iA ls (aI ls)) (2*ls.length+2*(aI ls).length)=ws at pw lh Ov;have a1:=wrap_add (a:=aq Let.aF ls) (b:=aq Let.aD ls/2) aa;have a2:IntKind.i64.wrap (((aq Let.aF ls+aq Let.aD ls/2:Nat):Int)+2)=((aq Let.aF ls+aq Let.aD ls/2+2:Nat):Int):=wrap_add (a:=aq Let.aF ls+aq Let.aD ls/2) (b:=2) aa;have fM:S.lone 640513152=false:=ah
    have jM:∀(aj:aE),land aj [] 640513152 ((RV.one (.own 98 1 (ws.map fun w=>[Ct w]))).iu (S.lone 640513152))=some (.one (.hsl 640513152 ((aj 640513152).1+1) 1 0 ws.length),[(640513152,((aj 640513152).1+1,some (.arr 98 1 (ws.map fun w=>[Ct w]))))]):=by intro aj;rw[fM];simp only[RV.iu,land,true_or,if_true,jY,iY,jh,jF,dY,tF,nW,cU,jJ]
    cases c4:(ws.length==aq Let.aF ls+aq Let.aD ls/2+2) with
    |false=>
     have c4':(((ws.length:Nat):Int)!=((aq Let.aF ls+aq Let.aD ls/2+2:Nat):Int))=true:=by simp at c4 |-;omega
     have hv:mz f ls=false:=by simp only[mz,h0,c1,c2,c3,Ov,c4];rfl
     rw[hv] at hr;have hr:(3:Int)=r:=hr;subst hr;simp only[go_sem,i10,jT,ju,h3,h4,s26,eF pvi,HE,s27,eF ppa,A5,Let.ps,c1',jI,dZ,c2',s28,dA ple,s29,GR pw (jM _),s30,dI pcr,a1,a2,c4'];exact aL
    |true=>
     have c4':(((ws.length:Nat):Int)!=((aq Let.aF ls+aq Let.aD ls/2+2:Nat):Int))=false:=by simp at c4 |-;omega
     have hv:mz f ls=true:=by simp only[mz,h0,c1,c2,c3,Ov,c4];rfl
     rw[hv] at hr;have hr:(0:Int)=r:=hr;subst hr;simp only[go_sem,i10,jT,ju,h3,h4,s26,eF pvi,HE,s27,eF ppa,A5,Let.ps,c1',jI,dZ,c2',s28,dA ple,s29,GR pw (jM _),s30,dI pcr,a1,a2,c4'];exact aL
def dS(f:Int)(l:Let):Bool:=if l.kind==1 then (((decide (l.gate<0)||decide (f<l.gate))||l.id !=0)||l.sign !=0)||l.over else if l.kind==2 then (l.gate !=0||l.aA !=0)||(l.sign !=1&&l.sign != -1) else true
def akb(f:Int)(l:Let)(x1 x2 x3 x4 x5 x6:PV):aO S 96 [KV l,.one (.p (.box [.box [.int .i64 f,x1,x2,x3,x4,x5,x6]]))] (rb (dS f l)):=by
 refine bY c96 ?_;cases k1:(l.kind==1) with
 |true=>
  cases a1:(decide (l.gate<0)) with
  |true=>
   have Ap:(l.gate<0):=qA a1;have hb:dS f l=true:=by simp only[dS,k1,a1];rfl
   simp only[go_sem,i96,k1,Ap,hb];exact aL
  |false=>
   cases a2:(decide (f<l.gate)) with
   |true=>
    have Ap:¬(l.gate<0):=ie a1;have CX:(f<l.gate):=qA a2;have hb:dS f l=true:=by simp only[dS,k1,a1,a2];rfl
    simp only[go_sem,i96,k1,Ap,CX,hb];exact aL
   |false=>
    cases a3:(l.id !=0) with
    |true=>
     have Ap:¬(l.gate<0):=ie a1;have CX:¬(f<l.gate):=ie a2;have hb:dS f l=true:=by simp only[dS,k1,a1,a2,a3];rfl
     simp only[go_sem,i96,k1,Ap,CX,a3,hb];exact aL
    |false=>
     cases a4:(l.sign !=0) with
     |true=>
      have Ap:¬(l.gate<0):=ie a1;have CX:¬(f<l.gate):=ie a2;have hb:dS f l=true:=by simp only[dS,k1,a1,a2,a3,a4];rfl
      simp only[go_sem,i96,k1,Ap,CX,a3,a4,hb];exact aL
     |false=>
      cases a5:(l.over) with
      |true=>
       have Ap:¬(l.gate<0):=ie a1;have CX:¬(f<l.gate):=ie a2;have hb:dS f l=true:=by simp only[dS,k1,a1,a2,a3,a4,a5];rfl
       simp only[go_sem,i96,k1,Ap,CX,a3,a4,a5,hb];exact aL
      |false=>
       have Ap:¬(l.gate<0):=ie a1;have CX:¬(f<l.gate):=ie a2;have hb:dS f l=false:=by simp only[dS,k1,a1,a2,a3,a4,a5];rfl
       simp only[go_sem,i96,k1,Ap,CX,a3,a4,a5,hb];exact aL
 |false=>
  cases k2:(l.kind==2) with
  |true=>
   cases a1:(l.gate !=0) with
   |true=>
    have hb:dS f l=true:=by simp only[dS,k1,k2,a1];rfl
    simp only[go_sem,i96,k1,k2,a1,hb]
   |false=>
    cases a2:(l.aA !=0) with
    |true=>
     have hb:dS f l=true:=by simp only[dS,k1,k2,a1,a2];rfl
     simp only[go_sem,i96,k1,k2,a1,a2,hb]
    |false=>
     cases a3:(l.sign !=1) with
     |true=>
      cases a4:(l.sign != -1) with
      |true=>
       have hb:dS f l=true:=by simp only[dS,k1,k2,a1,a2,a3,a4];rfl
       simp only[go_sem,i96,k1,k2,a1,a2,a3,a4,hb]
      |false=>
       have hb:dS f l=false:=by simp only[dS,k1,k2,a1,a2,a3,a4];rfl
       simp only[go_sem,i96,k1,k2,a1,a2,a3,a4,hb]
     |false=>
      have hb:dS f l=false:=by simp only[dS,k1,k2,a1,a2,a3];rfl
      simp only[go_sem,i96,k1,k2,a1,a2,a3,hb]
  |false=>
   have hb:dS f l=true:=by simp only[dS,k1,k2];rfl
   simp only[go_sem,i96,k1,k2,hb]
abbrev dfn(f:Int)(x1 x2 x3 x4 x5 x6:PV):PV:=.fn 96 [] [.box [.box [.int .i64 f,x1,x2,x3,x4,x5,x6]]]
def akc(f:Int)(ls:ai)(x1 x2 x3 x4 x5 x6:PV)(hl:ls.length<=1000000)(hn:x1.norm=x1/\x2.norm=x2/\x3.norm=x3/\x4.norm=x4/\x5.norm=x5/\x6.norm=x6):
  ∃k:Int,(0<=k↔ls.any (dS f)=true)/\aO S 118 [.one (.p (dJ ls)),.one (.p (dfn f x1 x2 x3 x4 x5 x6))] (ri k):=by
 have main:∀r:Int,(∀(k:Nat) l,ls[k]?=some l->dS f l=true->(∀(j:Nat) m,j<k->ls[j]?=some m->dS f m=false)->r=k)->((∀(j:Nat) m,ls[j]?=some m->dS f m=false)->r= -1)->
   aO S 118 [.one (.p (dJ ls)),.one (.p (dfn f x1 x2 x3 x4 x5 x6))] (ri r):=by
  intro r k9 wS;refine bY c118 ?_;simp only[go_sem,i118];refine dG (fun k ak aj=>ak 0=.one (.p (dJ ls))/\ak 1=.one (.p (dfn f x1 x2 x3 x4 x5 x6))/\ak 7=vi ls.length/\ak 8=vi k/\ ∀j m,j<k->ls[j]?=some m->dS f m=false) 0 ls.length (cA _) ?_ ?_
  .simp only[go_sem];exact⟨rfl,fun j m h=>absurd h (o9 j)⟩
  rintro k ak aj hk ⟨h0,h1,h7,h8,hn⟩
  by_cases aB:k<ls.length
  .obtain⟨l,eT⟩:=aN aB;have hi:=jo eT;have aP:((k:Int)<(ls.length:Int)):=aa;have w1:=df (n:=k) aa;have pb:=akb f l x1 x2 x3 x4 x5 x6;cases hb:dS f l with
   |true=>rw[hb] at pb;have hr:=k9 k l eT hb hn;subst hr;simp only[go_sem,i118_l1,h0,h1,h7,h8,hi,Let.ps,aP,s96,aJ pb]
   |false=>
    rw[hb] at pb;simp only[go_sem,i118_l1,h0,h1,h7,h8,hi,Let.ps,aP,w1,s96,aJ pb];refine⟨aB,fun j m hj hm=>?_⟩;rcases og.1 hj with hj|rfl
    .exact hn j m hj hm
    rw[eT] at hm;cases hm;exact hb
  have:k=ls.length:=aa;subst this;have hr:=wS fun j m hm=>hn j m (aW.1 hm).1 hm;subst hr;simp only[go_sem,i118_l1,i118_r2,h7,h8,fh]
 cases ha:ls.any (dS f) with
 |true=>
  have hx:ls.findIdx (dS f)<ls.length:=List.findIdx_lt_length_of_exists (by simpa using ha);refine⟨(ls.findIdx (dS f):Nat),⟨fun _=>rfl,fun _=>aa⟩,main _ ?_ ?_⟩
  .intro k l eT hb hn;have hk:=(aW.1 eT).1;have h1:dS f ls[ls.findIdx (dS f)]=true:=List.findIdx_getElem;rcases Nat.lt_trichotomy (ls.findIdx (dS f)) k with h|h|h
   .have:=hn _ _ h (rR hx);rw[h1] at this;cases this
   .rw[h]
   have:=List.not_of_lt_findIdx h;have e:ls[k]=l:=by rw[rR hk] at eT;exact pz eT
   rw[e,hb] at this;simp at this
  intro hn;have h1:dS f ls[ls.findIdx (dS f)]=true:=List.findIdx_getElem;have:=hn _ _ (rR hx);rw[h1] at this;cases this
 |false=>refine⟨-1,⟨fun h=>aa,fun h=>by cases h⟩,main _ ?_ (fun _=>rfl)⟩;intro k l eT hb _;have:=IF.1 ha l (aZ eT);exact(this hb).elim
def alh(f:Int)(ls:ai)(x1 x2 x3 x4 x5 x6:PV)(hl:ls.length<=1000000)(hn:x1.norm=x1/\x2.norm=x2/\x3.norm=x3/\x4.norm=x4/\x5.norm=x5/\x6.norm=x6):
  aO S 95 [.one (.p (dJ ls)),.one (.p (dfn f x1 x2 x3 x4 x5 x6))] (rb (ls.any (dS f))):=by
 obtain⟨k,hk,pk⟩:=akc f ls x1 x2 x3 x4 x5 x6 hl hn;refine bY c95 ?_;cases ha:ls.any (dS f) with
 |true=>have h0:=hk.2 ha;simp only[go_sem,i95,s118,eF pk,h0]
 |false=>
  have h0:¬0<=k:=fun h=>by rw[hk.1 h] at ha;cases ha
  simp only[go_sem,i95,s118,eF pk,h0]
abbrev dgP(f:Int)(ls:ai)(x2 x3 x4 x5 x6:PV):PV:=.box [.int .i64 f,dJ ls,x2,x3,x4,x5,x6]
def alM(f:Int)(ls:ai)(x2 x3 x4 x5 x6:PV)(hl:ls.length<=1000000)(hn:x2.norm=x2/\x3.norm=x3/\x4.norm=x4/\x5.norm=x5/\x6.norm=x6):
  aO S 80 [.one (.p (dgP f ls x2 x3 x4 x5 x6))] (rb (!ls.any (dS f))):=by
 have pc:=alh f ls (dJ ls) x2 x3 x4 x5 x6 hl ⟨rfl,hn.1,hn.2.1,hn.2.2.1,hn.2.2.2.1,hn.2.2.2.2⟩;refine bY c80 ?_;simp only[go_sem,i80,s95,aJ pc]
def alG(f:Int)(ls:ai)(l0:Let)(x2 x3 x4 x5 x6:PV)(hl:ls.length<=1000000)(h0:ls[0]?=some l0):
  aO S 81 [.one (.p (dgP f ls x2 x3 x4 x5 x6))] (rb (l0.kind==1&&aq Let.aF ls%2==0)):=by
 have pp:=O8 f ls hl;have A5:=jo h0;refine bY c81 ?_;have e2:((((aq Let.aF ls)%2:Nat):Int)==0)=(aq Let.aF ls%2==0):=by
  cases h:(aq Let.aF ls%2==0) with
  |true=>simp at h |-;omega
  |false=>simp at h |-;omega
 cases hk:(l0.kind==1) with
 |true=>simp only[go_sem,i81,A5,Let.ps,hk,s7,eF pp,jI,dZ,e2]
 |false=>simp only[go_sem,i81,A5,Let.ps,hk]
def mD(g:Nat)(l:Let):Bool:=l.aF&&l.gate==(g:Int)
abbrev cg(ls:ai)(g:Nat):Nat:=aq (mD g) ls
def sV(ls:ai)(F k:Nat):a_:=(List.range (F+1)).map fun g=>cg (ls.take k) g
def counts(ls:ai)(F:Nat):a_:=(List.range (F+1)).map (cg ls)
def abN{ls:ai}{k G:Nat}(h:G<=F):(sV ls F k)[G]?=some (cg (ls.take k) G):=by simp[sV,tM (show G<F+1 by omega)]
def WJ(ls:ai)(F:Nat):sV ls F ls.length=counts ls F:=by simp[sV,counts]
def WK(ls:ai)(F:Nat):sV ls F 0=List.replicate (F+1) 0:=by apply yM<;>simp[sV]
def abP{ls:ai}{k:Nat}{l:Let}(h:ls[k]?=some l)(hp:l.aF=false):sV ls F (k+1)=sV ls F k:=by unfold sV;congr 1;funext g;exact jR h (by simp[mD,hp])
def abO{ls:ai}{k G:Nat}{l:Let}(h:ls[k]?=some l)(hp:l.aF=true)(hg:l.gate=(G:Int)):
  sV ls F (k+1)=(sV ls F k).set G (cg (ls.take k) G+1):=by
 apply yM
 .simp[sV]
 intro i h1 h2;rw[L6];simp only[sV,EI,L5];split
 .rename_i e;subst e;exact sQ h (by simp[mD,hp,hg])
 exact jR h (by simp[mD,hg];intro _ e;omega)
def K0(o:a_)(k n:Nat):(nP o).set k [.int .i64 (n:Int)]=nP (o.set k n):=by simp[List.map_set]
def YX(o:a_):(nP o).length=o.length:=af
def YY(n m:Nat):nP (List.replicate n m)=List.replicate n [.int .i64 (m:Int)]:=af
def aaZ(n:Nat)(b:Bool):bP (List.replicate n b)=List.replicate n [.bool b]:=af
def MF{ls:ai}{k:Nat}{l:Let}(h:ls[k]?=some l)(hp:l.aF=true):dn ls (k+1)= !dn ls k:=by
 unfold dn;rw[sQ h hp];cases hc:(aq Let.aF (ls.take k)%2==0) with
 |true=>simp at hc |-;omega
 |false=>simp at hc |-;omega
def MG{ls:ai}{k:Nat}{l:Let}(h:ls[k]?=some l)(hp:l.aF=false):dn ls (k+1)=dn ls k:=by unfold dn;rw[jR h hp]
def eW(ls:ai)(i:Nat):Bool:=match ls[i]? with|some l=>l.aF&&dn ls i|none=>false
def uD(ls:ai)(k:Nat):l_:=(List.range ls.length).map fun i=>decide (i<k)&&eW ls i
def kS(ls:ai):l_:=(List.range ls.length).map (eW ls)
def alT(ls:ai):uD ls 0=List.replicate ls.length false:=by apply yM<;>simp[uD]
def alP(ls:ai):uD ls ls.length=kS ls:=by unfold uD kS;apply Ai;intro i hi;simp[iv.1 hi]
def alR(ls:ai)(k:Nat):(uD ls k).length=ls.length:=by simp[uD]
def alS{ls:ai}{k:Nat}{l:Let}(h:ls[k]?=some l)(hp:l.aF=false):uD ls (k+1)=uD ls k:=by
 unfold uD;apply Ai;intro i hi;by_cases e:i=k
 .subst e;simp[eW,h,hp]
 have:(i<k+1)↔(i<k):=aa;simp[this]
def alQ{ls:ai}{k:Nat}{l:Let}(h:ls[k]?=some l)(hp:l.aF=true):uD ls (k+1)=(uD ls k).set k (dn ls k):=by
 apply yM
 .simp[uD]
 intro i h1 h2;rw[L6];simp only[uD,EI,L5];split
 .rename_i e;subst e;simp[eW,h,hp]
 have:(i<k+1)↔(i<k):=aa;simp[this]
def fp(ls:ai)(g:Nat):Nat:=((List.range g).map (cg ls)).sum
def uG(ls:ai)(g:Nat):fp ls (g+1)=fp ls g+cg ls g:=by simp[fp,yO]
def xR(ls:ai)(F k:Nat):a_:=(List.range (F+1)).map fun g=>if g<k then fp ls g else 0
def JQ(ls:ai)(F:Nat):a_:=(List.range (F+1)).map (fp ls)
def amN(ls:ai)(F:Nat):xR ls F 0=List.replicate (F+1) 0:=by apply yM<;>simp[xR]
def amK(ls:ai)(F:Nat):xR ls F (F+1)=JQ ls F:=by unfold xR JQ;apply Ai;intro i hi;simp[iv.1 hi]
def amL(ls:ai)(F k:Nat):(xR ls F k).length=F+1:=by simp[xR]
def amM(ls:ai)(F k:Nat):xR ls F (k+1)=(xR ls F k).set k (fp ls k):=by
 apply yM
 .simp[xR]
 intro i h1 h2;rw[L6];simp only[xR,EI,L5];by_cases e:k=i
 .subst e;simp
 have:(i<k+1)↔(i<k):=aa;simp only[this,aC e]
def Qn{ls:ai}{G:Nat}(h:G<=F):(counts ls F)[G]?=some (cg ls G):=by simp[counts,tM (show G<F+1 by omega)]
def amO{ls:ai}{G:Nat}(h:G<=F):(JQ ls F)[G]?=some (fp ls G):=by simp[JQ,tM (show G<F+1 by omega)]
def BH{ls:ai}{a b:Nat}(h:a<=b):fp ls a<=fp ls b:=by
 induction h with
 |refl=>exact cD _
 |step _ ih=>rw[uG];omega
def ajR(g:Nat)(a:Let):((a.aF&&(decide (0<=a.gate)&&decide (a.gate<((g+1:Nat):Int))))=true)↔((a.aF&&(decide (0<=a.gate)&&decide (a.gate<(g:Int))))=true\/mD g a=true):=by
 simp only[mD,cJ,l9,dh];constructor
 .rintro ⟨h1,h2,h3⟩
  by_cases h:a.gate=(g:Int)
  .exact Or.inr ⟨h1,h⟩
  exact Or.inl ⟨h1,h2,aa⟩
 rintro (⟨h1,h2,h3⟩|⟨h1,h2⟩)
 .exact⟨h1,h2,aa⟩
 exact⟨h1,aa,aa⟩
def ajQ(g:Nat)(a:Let):(a.aF&&(decide (0<=a.gate)&&decide (a.gate<(g:Int))))=true->mD g a=true->False:=by simp only[mD,cJ,l9,dh];omega
def WI{p q r:Let->Bool}(h:∀a,r a=true↔(p a=true\/q a=true))(hn:∀a,p a=true->q a=true->False):∀ls:ai,ls.countP r=ls.countP p+ls.countP q:=by
 intro ls
 induction ls with
 |nil=>rfl
 |cons a ls ih=>rw[vY,vY,vY,ih];have h1:=h a;have h2:=hn a;cases ep:p a<;>cases eq:q a<;>cases er:r a<;>simp_all<;>omega
def acU(ls:ai):∀g,fp ls g=aq (fun l=>l.aF&&(decide (0<=l.gate)&&decide (l.gate<((g:Nat):Int)))) ls:=by
 intro g
 induction g with
 |zero=>symm;show ls.countP _=0;rw[L2];intro a _;simp only[cJ,l9];omega
 |succ g ih=>rw[uG,ih];exact(WI (ajR g) (ajQ g) ls).symm
def Xe(ls:ai)(g:Nat):fp ls g<=ls.length:=by rw[acU];exact sR _ _
def dD(ls:ai)(l:Let):Nat:=fp ls l.gate.toNat+l.aA.toNat-1
def ub(ls:ai)(p i:Nat):Bool:=match ls[i]? with|some l=>l.aF&&dD ls l==p|none=>false
def yJ(ls:ai)(T k:Nat):l_:=(List.range T).map fun p=>(List.range k).any (ub ls p)
def axP(ls:ai)(k p:Nat):Nat:=((List.range k).find? (ub ls p)).getD 0
def tQ(ls:ai)(T k:Nat):a_:=(List.range T).map (axP ls k)
def Cy(ls:ai)(i:Nat):Nat:=match ls[i]? with|some l=>if l.aF then dD ls l else 0|none=>0
def jO(ls:ai)(k:Nat):a_:=(List.range ls.length).map fun i=>if i<k then Cy ls i else 0
def uq(ls:ai)(i:Nat):Bool:=match ls[i]? with
 |some l=> !l.aF||(decide (1<=l.aA)&&decide (l.aA<=(cg ls l.gate.toNat:Int)))&& !(List.range i).any (ub ls (dD ls l))
 |none=>true
def zT(ls:ai):Bool:=(List.range ls.length).all (uq ls)
def auR(ls:ai)(T:Nat):yJ ls T 0=List.replicate T false:=by apply yM<;>simp[yJ]
def ajU(ls:ai)(T:Nat):tQ ls T 0=List.replicate T 0:=by apply yM<;>simp[tQ,axP]
def ary(ls:ai):jO ls 0=List.replicate ls.length 0:=by apply yM<;>simp[jO]
def aaU(ls:ai)(T k:Nat):(tQ ls T k).length=T:=by simp[tQ]
def arw(ls:ai)(k:Nat):(jO ls k).length=ls.length:=by simp[jO]
def auO{ls:ai}{T k p:Nat}(h:p<T):(yJ ls T k)[p]?=some ((List.range k).any (ub ls p)):=by simp[yJ,h]
def adQ{ls:ai}{k p:Nat}{l:Let}(h:ls[k]?=some l)(hp:l.aF=false):ub ls p k=false:=by simp[ub,h,hp]
def auQ{ls:ai}{T k:Nat}{l:Let}(h:ls[k]?=some l)(hp:l.aF=false):yJ ls T (k+1)=yJ ls T k:=by unfold yJ;congr 1;funext p;simp[yO,List.any_append,adQ h hp]
def ajT{ls:ai}{T k:Nat}{l:Let}(h:ls[k]?=some l)(hp:l.aF=false):tQ ls T (k+1)=tQ ls T k:=by unfold tQ;congr 1;funext p;simp[axP,yO,List.find?_append,adQ h hp]
def arx{ls:ai}{k:Nat}{l:Let}(h:ls[k]?=some l)(hp:l.aF=false):jO ls (k+1)=jO ls k:=by
 unfold jO;apply Ai;intro i hi;by_cases e:i=k
 .subst e;simp[Cy,h,hp]
 have:(i<k+1)↔(i<k):=aa;simp[this]
def N8{ls:ai}{k p:Nat}{l:Let}(h:ls[k]?=some l)(hp:l.aF=true):ub ls p k=(dD ls l==p):=by simp[ub,h,hp]
def auP{ls:ai}{T k:Nat}{l:Let}(h:ls[k]?=some l)(hp:l.aF=true):yJ ls T (k+1)=(yJ ls T k).set (dD ls l) true:=by
 apply yM
 .simp[yJ]
 intro i h1 h2;rw[L6];simp only[yJ,EI,L5,yO,List.any_append,List.any_cons,List.any_nil,Bool.or_false,N8 h hp];split
 .rename_i e;simp[e]
 rename_i e;simp[e]
def ajS{ls:ai}{T k:Nat}{l:Let}(h:ls[k]?=some l)(hp:l.aF=true)(hn:(List.range k).any (ub ls (dD ls l))=false):tQ ls T (k+1)=(tQ ls T k).set (dD ls l) k:=by
 apply yM
 .simp[tQ]
 intro i h1 h2;rw[L6];simp only[tQ,EI,L5,axP,yO,List.find?_append];by_cases e:dD ls l=i
 .have h3:(List.range k).find? (ub ls i)=none:=by
   rw[<- e,II];intro x hx hq;rw[IF] at hn;exact hn x hx hq
  have h4:ub ls i k=true:=by rw[N8 h hp];simp[e]
  rw[h3,aG e,List.find?_cons,h4];rfl
 have h4:ub ls i k=false:=by rw[N8 h hp];simp[e]
 rw[aC e,List.find?_cons,h4];simp
def arv{ls:ai}{k:Nat}{l:Let}(h:ls[k]?=some l)(hp:l.aF=true):jO ls (k+1)=(jO ls k).set k (dD ls l):=by
 apply yM
 .simp[jO]
 intro i h1 h2;rw[L6];simp only[jO,EI,L5];by_cases e:k=i
 .subst e;simp[Cy,h,hp]
 have:(i<k+1)↔(i<k):=aa;simp only[this,aC e]
def Zs{ls:ai}{k:Nat}(hk:k<ls.length)(h:uq ls k=false):zT ls=false:=by unfold zT;rw[List.all_eq_false];exact⟨k,iv.2 hk,by simp[h]⟩
def aso{ls:ai}(h:∀i,i<ls.length->uq ls i=true):zT ls=true:=by unfold zT;rw[gj];exact fun i hi=>h i (iv.1 hi)
abbrev IQ(id:Nat):Prop:=id=2560320128\/jH id=82
abbrev wA(F:Nat)(ls:ai)(c2 c3 c4 c5 c6:C):f_:=[.p (.int .i64 (F:Int)),.p (dJ ls),c2,c3,c4,c5,c6]
abbrev hs(id g n:Nat):C:=.hsl id g 1 0 n
abbrev rZ(F:Nat)(ls:ai):Prop:=∀l∈ls,l.aF=true->0<=l.gate/\l.gate<=(F:Int)
def Ls(F:Nat)(ls:ai)(g:Nat)(c5:C)(pK:aE)(v:V)(ao:aE):Prop:=
 v=vb (zT ls)/\Kept IQ pK ao/\(zT ls=true->∃g1 g2 g3 g5,ao 2560320128=(g,some (.var (wA F ls (hs 5248128448 g2 ls.length) (hs 5249344128 g5 (fp ls (F+1))) (hs 5248192448 g3 ls.length) c5 (hs 5248064448 g1 (F+1)))))/\
  ao 5248064448=(g1,some (.arr 3 1 (nP (counts ls F))))/\ao 5248128448=(g2,some (.arr 4 1 (bP (kS ls))))/\ao 5248192448=(g3,some (.arr 3 1 (nP (jO ls ls.length))))/\
  ao 5249344128=(g5,some (.arr 3 1 (nP (tQ ls (fp ls (F+1)) ls.length)))))
def rk3{al:Al}(okD:al.ok 2560320128=true)(ok:∀id,jH id=82->al.ok id=true){pK aj:aE}{ak:Env}{g g1 g2 g3 g4 F:Nat}{ls:ai}{c3 c5:C}(hl:ls.length<=1000000)(hF:F<=1000000)(hg:rZ F ls)
  (h0:ak 0=.one (.bt 2560320128 g 0)) (h6:ak 6=.one (hs 5248832384 g4 (F+1))) (h7:ak 7=vi (fp ls (F+1)))
  (bD:aj 2560320128=(g,some (.var (wA F ls (hs 5248128448 g2 ls.length) c3 (hs 5248192448 g3 ls.length) c5 (hs 5248064448 g1 (F+1))))))
  (bC:aj 5248064448=(g1,some (.arr 3 1 (nP (counts ls F))))) (bW:aj 5248128448=(g2,some (.arr 4 1 (bP (kS ls))))) (nJ:aj 5248192448=(g3,some (.arr 3 1 (nP (jO ls 0)))))
  (bF:aj 5248832384=(g4,some (.arr 3 1 (nP (JQ ls F))))) (hk:Kept IQ pK aj):W S al i82_r5 (tW al [(2,none)] (Ls F ls g c5 pK)) ak aj:=by
 have o1:=ok 5248064448 rfl;have o2:=ok 5248128448 rfl;have o3:=ok 5248192448 rfl;have o4:=ok 5248448192 rfl;have o5:=ok 5248832384 rfl;have o6:=ok 5249344128 rfl;have o7:=ok 5249408064 rfl;have o8:=ok 5249600192 rfl;have hT:=Xe ls (F+1);have OF:fp ls (F+1)*8<=140737488355328:=aa;have k9:fp ls (F+1)<=140737488355328:=aa;simp only[go_sem,i82_r5,h0,h7,bD,OF,k9,okD,o6,o7];refine dG (fun k ak ao=>ak 0=.one (.bt 2560320128 g 0)/\ak 6=.one (hs 5248832384 g4 (F+1))/\ak 10=.one (hs 5249408064 ((aj 5249408064).1+1) (fp ls (F+1)))/\ak 114=.one (.p (dJ ls))/\ak 115=vi ls.length/\ak 116=vi k/\
  ao 2560320128=(g,some (.var (wA F ls (hs 5248128448 g2 ls.length) (hs 5249344128 ((aj 5249344128).1+1) (fp ls (F+1))) (hs 5248192448 g3 ls.length) c5 (hs 5248064448 g1 (F+1)))))/\
  ao 5248064448=(g1,some (.arr 3 1 (nP (counts ls F))))/\ao 5248128448=(g2,some (.arr 4 1 (bP (kS ls))))/\ao 5248192448=(g3,some (.arr 3 1 (nP (jO ls k))))/\
  ao 5248832384=(g4,some (.arr 3 1 (nP (JQ ls F))))/\ao 5249344128=((aj 5249344128).1+1,some (.arr 3 1 (nP (tQ ls (fp ls (F+1)) k))))/\ao 5249408064=((aj 5249408064).1+1,some (.arr 4 1 (bP (yJ ls (fp ls (F+1)) k))))/\
  (∀i,i<k->uq ls i=true)/\Kept IQ pK ao) 0 ls.length (cA _) ?_ ?_
 .simp only[go_sem,h0,h6,bC,bW,nJ,bF,ajU,auR,YY,aaZ];refine⟨rfl,rfl,fun i h=>absurd h (o9 i),?_⟩;repeat(first|exact hk|refine Kept.eH ?_ (by first|exact Or.inl rfl|exact Or.inr rfl) _)
 rintro k ak ao hk ⟨h0,h6,ek,NB,JY,Ft,bD,bC,bW,nJ,bF,bA,bT,ay,dQ⟩
 by_cases aB:k<ls.length
 .obtain⟨l,eT⟩:=aN aB;have hi:=jo eT;have aP:((k:Int)<(ls.length:Int)):=aa;have w1:=df (n:=k) aa;cases hp:(l.kind==1) with
  |false=>
   have gI:l.aF=false:=hp;have ml:(l.kind !=1)=true:=by simp[bne,hp]
   have mq:uq ls k=true:=by simp[uq,eT,gI]
   simp only[go_sem,i82_l3,h0,h6,ek,NB,JY,Ft,bD,bC,bW,bF,nJ,bA,bT,hi,Let.ps,aP,ml,w1,o8];refine⟨aB,?_,?_,?_,?_,?_⟩
   .rw[arx eT gI]
   .rw[ajT eT gI]
   .rw[auQ eT gI]
   .intro i hi;rcases og.1 hi with h|rfl
    .exact ay i h
    exact mq
   repeat(first|exact dQ|refine Kept.eH ?_ (by first|exact Or.inl rfl|exact Or.inr rfl) _)
  |true=>
   have gI:l.aF=true:=hp;have ml:(l.kind !=1)=false:=by simp[bne,hp]
   obtain⟨Hw,DI⟩:=hg l (aZ eT) gI;obtain⟨G,hG⟩:=vV Hw;have Ka:G<=F:=aa;have Hi:G<F+1:=aa;have r4:=kI (Qn (ls:=ls) Ka);have BP:=kI (amO (ls:=ls) Ka);have qK:l.gate.toNat=G:=aa;cases r1:decide (l.aA<1) with
   |true=>have tE:l.aA<1:=qA r1;have r1n:¬1<=l.aA:=aa;have eh:=Zs aB (show uq ls k=false by simp[uq,eT,gI,r1n]);simp only[go_sem,i82_l3,NB,JY,Ft,hi,Let.ps,aP,ml,tE,o8];refine⟨aL,?_⟩;unfold Ls;refine⟨by rw[eh],?_,fun h=>by rw[eh] at h;cases h⟩;repeat(first|exact dQ|refine Kept.eH ?_ (by first|exact Or.inl rfl|exact Or.inr rfl) _)
   |false=>
    have tE:¬l.aA<1:=ie r1;obtain⟨R,hR⟩:=vV (show 0<=l.aA by omega);have r1R:¬((R:Int)<1):=aa;cases r2:decide ((cg ls G:Int)<(R:Int)) with
    |true=>
     have uj:(cg ls G:Int)<(R:Int):=qA r2;have r2n:¬l.aA<=(cg ls l.gate.toNat:Int):=by rw[qK];omega
     have eh:=Zs aB (show uq ls k=false by simp[uq,eT,gI,r2n]);simp only[go_sem,i82_l3,h0,NB,JY,Ft,bD,bC,hi,Let.ps,aP,ml,hR,hG,r1R,uj,r4,Hi,okD,o1,o8];refine⟨aL,?_⟩;unfold Ls;refine⟨by rw[eh],?_,fun h=>by rw[eh] at h;cases h⟩;repeat(first|exact dQ|refine Kept.eH ?_ (by first|exact Or.inl rfl|exact Or.inr rfl) _)
    |false=>
     have uj:¬(cg ls G:Int)<(R:Int):=ie r2;have hfle:=Xe ls G;have hmono:=BH (ls:=ls) (show G+1<=F+1 by omega);have yh:=uG ls G;have hPT:dD ls l<fp ls (F+1):=by unfold dD;rw[qK];omega
     have bd:fp ls G+R-1=dD ls l:=by unfold dD;rw[qK];omega
     have cK:cg ls G<=ls.length:=sR _ _;have w2:=wrap_add (a:=fp ls G) (b:=R) aa;have w3:=LU (a:=fp ls G+R) aa aa;rw[bd] at w3;have HK:=tR (auO (ls:=ls) (k:=k) hPT);cases hu:(List.range k).any (ub ls (dD ls l)) with
     |true=>rw[hu] at HK;have eh:=Zs aB (show uq ls k=false by simp[uq,eT,gI,hu]);simp only[go_sem,i82_l3,h0,h6,ek,NB,JY,Ft,bD,bC,bF,bT,hi,Let.ps,aP,ml,hR,hG,r1R,uj,r4,BP,Hi,w2,w3,HK,hPT,okD,o1,o5,o7,o8];refine⟨aL,aL,?_⟩;unfold Ls;refine⟨by rw[eh],?_,fun h=>by rw[eh] at h;cases h⟩;repeat(first|exact dQ|refine Kept.eH ?_ (by first|exact Or.inl rfl|exact Or.inr rfl) _)
     |false=>
      rw[hu] at HK;have mq:uq ls k=true:=by
       have e1:1<=l.aA:=aa;have e2:l.aA<=(cg ls l.gate.toNat:Int):=by rw[qK];omega
       simp[uq,eT,e1,e2,hu]
      obtain⟨a0,xY⟩:=aN (show dD ls l<(tQ ls (fp ls (F+1)) k).length by rw[aaU];exact hPT);obtain⟨p0,yn⟩:=aN (show k<(jO ls k).length by rw[arw];exact aB);have xY:=kI xY;have yn:=kI yn;have s1:=Jf (yJ ls (fp ls (F+1)) k) (dD ls l) true;rw[<- auP eT gI] at s1;have s2:=K0 (tQ ls (fp ls (F+1)) k) (dD ls l) k;rw[<- ajS eT gI hu] at s2;have s3:=K0 (jO ls k) k (dD ls l);rw[<- arv eT gI] at s3;simp only[go_sem,i82_l3,h0,h6,ek,NB,JY,Ft,bD,bC,bW,bF,nJ,bA,bT,hi,Let.ps,aP,aB,ml,w1,hR,hG,r1R,uj,r4,BP,Hi,w2,w3,HK,hPT,xY,yn,s1,s2,s3,okD,o1,o3,o5,o6,o7,o8];refine⟨aL,aL,aL,?_,?_⟩
      .intro i hi;rcases og.1 hi with h|rfl
       .exact ay i h
       exact mq
      repeat(first|exact dQ|refine Kept.eH ?_ (by first|exact Or.inl rfl|exact Or.inr rfl) _)
 have:k=ls.length:=aa;subst this;have hr:=aso ay;simp only[go_sem,i82_l3,i82_r4,JY,Ft,fh];exact⟨by rw[hr],dQ,fun _=>⟨g1,g2,g3,(aj 5249344128).1+1,bD,bC,bW,nJ,bA⟩⟩
def rk2{al:Al}(okD:al.ok 2560320128=true)(ok:∀id,jH id=82->al.ok id=true){pK aj:aE}{ak:Env}{g g1 g2 g3 F:Nat}{ls:ai}{c3 c5:C}(hl:ls.length<=1000000)(hF:F<=1000000)(hg:rZ F ls)
  (h0:ak 0=.one (.bt 2560320128 g 0))
  (bD:aj 2560320128=(g,some (.var (wA F ls (hs 5248128448 g2 ls.length) c3 (hs 5248192448 g3 ls.length) c5 (hs 5248064448 g1 (F+1))))))
  (bC:aj 5248064448=(g1,some (.arr 3 1 (nP (counts ls F))))) (bW:aj 5248128448=(g2,some (.arr 4 1 (bP (kS ls))))) (nJ:aj 5248192448=(g3,some (.arr 3 1 (nP (jO ls 0)))))
  (hk:Kept IQ pK aj):W S al i82_r6 (tW al [(2,none)] (Ls F ls g c5 pK)) ak aj:=by
 have o1:=ok 5248064448 rfl;have o2:=ok 5248128448 rfl;have o3:=ok 5248192448 rfl;have o4:=ok 5248448192 rfl;have o5:=ok 5248832384 rfl;have o6:=ok 5249344128 rfl;have o7:=ok 5249408064 rfl;have o8:=ok 5249600192 rfl;have OF:(F+1)*8<=140737488355328:=aa;have wF:=df (n:=F) aa;simp only[go_sem,i82_r6,h0,bD,wF,OF,okD,o5];refine dG (fun k ak ao=>ak 0=.one (.bt 2560320128 g 0)/\ak 6=.one (hs 5248832384 ((aj 5248832384).1+1) (F+1))/\ak 7=vi (fp ls k)/\ak 88=.one (hs 5248064448 g1 (F+1))/\ak 89=vi ((F+1:Nat):Int)/\ak 90=vi k/\
  ao 2560320128=(g,some (.var (wA F ls (hs 5248128448 g2 ls.length) c3 (hs 5248192448 g3 ls.length) c5 (hs 5248064448 g1 (F+1)))))/\
  ao 5248064448=(g1,some (.arr 3 1 (nP (counts ls F))))/\ao 5248128448=(g2,some (.arr 4 1 (bP (kS ls))))/\ao 5248192448=(g3,some (.arr 3 1 (nP (jO ls 0))))/\
  ao 5248832384=((aj 5248832384).1+1,some (.arr 3 1 (nP (xR ls F k))))/\Kept IQ pK ao) 0 (F+1) (cA _) ?_ ?_
 .simp only[go_sem,h0,bD,bC,bW,nJ,amN,YY];refine⟨rfl,rfl,rfl,?_⟩;repeat(first|exact hk|refine Kept.eH ?_ (by first|exact Or.inl rfl|exact Or.inr rfl) _)
 rintro k ak ao hk ⟨h0,h6,h7,h88,h89,h90,bD,bC,bW,nJ,bF,dQ⟩
 by_cases aB:k<F+1
 .have aP:((k:Int)<((F+1:Nat):Int)):=aa;have w1:=df (n:=k) aa;have hc:=kI (Qn (ls:=ls) (show k<=F by omega));obtain⟨a0,ha⟩:=aN (show k<(xR ls F k).length by rw[amL];exact aB);have ha:=kI ha;have s1:=K0 (xR ls F k) k (fp ls k);rw[<- amM] at s1;have hs:=uG ls k;have hle:=Xe ls (k+1);have w2:=wrap_add (a:=fp ls k) (b:=cg ls k) aa;rw[<- hs] at w2;simp only[go_sem,i82_l2,h0,h6,h7,h88,h89,h90,bD,bC,bW,nJ,bF,aB,aP,hc,ha,s1,w1,w2,o1,o5];repeat(first|exact dQ|refine Kept.eH ?_ (by first|exact Or.inl rfl|exact Or.inr rfl) _)
 have:k=F+1:=aa;subst this;simp only[go_sem,i82_l2,h89,h90,fh];exact rk3 okD ok hl hF hg h0 h6 h7 bD bC bW nJ (by rw[bF,amK]) dQ
def asn{al:Al}(okD:al.ok 2560320128=true)(ok:∀id,jH id=82->al.ok id=true){aj:aE}{g F:Nat}{ls:ai}{c2 c3 c4 c5 c6:C}(hl:ls.length<=1000000)(hF:F<=1000000)(hg:rZ F ls)
  (bD:aj 2560320128=(g,some (.var (wA F ls c2 c3 c4 c5 c6)))):∃v ao,jd S 82 [.one (.bt 2560320128 g 0)] al aj v ao/\Ls F ls g c5 aj v ao:=by
 have o1:=ok 5248064448 rfl;have o2:=ok 5248128448 rfl;have o3:=ok 5248192448 rfl;have o4:=ok 5248448192 rfl;have o5:=ok 5248832384 rfl;have o6:=ok 5249344128 rfl;have o7:=ok 5249408064 rfl;have o8:=ok 5249600192 rfl;refine nH c82 (iI rfl) ?_;have OF:(F+1)*8<=140737488355328:=aa;have hn8:ls.length*8<=140737488355328:=aa;have hJ:ls.length<=140737488355328:=aa;have wF:=df (n:=F) aa;simp only[go_sem,i82,bD,wF,OF,hn8,hJ,okD,o1,o2,o3];refine dG (fun k ak ao=>ak 0=.one (.bt 2560320128 g 0)/\ak 3=vb (dn ls k)/\ak 48=.one (.p (dJ ls))/\ak 49=vi ls.length/\ak 50=vi k/\
  ao 2560320128=(g,some (.var (wA F ls (hs 5248128448 ((aj 5248128448).1+1) ls.length) c3 (hs 5248192448 ((aj 5248192448).1+1) ls.length) c5 (hs 5248064448 ((aj 5248064448).1+1) (F+1)))))/\
  ao 5248064448=((aj 5248064448).1+1,some (.arr 3 1 (nP (sV ls F k))))/\ao 5248128448=((aj 5248128448).1+1,some (.arr 4 1 (bP (uD ls k))))/\ao 5248192448=((aj 5248192448).1+1,some (.arr 3 1 (nP (jO ls 0))))/\
  Kept IQ aj ao) 0 ls.length (cA _) ?_ ?_
 .simp only[go_sem,bD,WK,alT,ary,YY,aaZ];refine⟨rfl,rfl,rfl,rfl,?_⟩;repeat(first|exact(Kept.refl _ _)|refine Kept.eH ?_ (by first|exact Or.inl rfl|exact Or.inr rfl) _)
 rintro k ak ao hk ⟨h0,h3,xV,h49,h50,bD,bC,bW,nJ,dQ⟩
 by_cases aB:k<ls.length
 .obtain⟨l,eT⟩:=aN aB;have hi:=jo eT;have aP:((k:Int)<(ls.length:Int)):=aa;have w1:=df (n:=k) aa;cases hp:(l.kind==1) with
  |false=>
   have gI:l.aF=false:=hp;simp only[go_sem,i82_l1,h0,h3,xV,h49,h50,bD,bC,bW,nJ,hi,Let.ps,aP,hp,w1,o4];refine⟨aB,?_,?_,?_,?_⟩
   .rw[MG eT gI]
   .rw[abP eT gI]
   .rw[alS eT gI]
   repeat(first|exact dQ|refine Kept.eH ?_ (by first|exact Or.inl rfl|exact Or.inr rfl) _)
  |true=>have gI:l.aF=true:=hp;obtain⟨Hw,DI⟩:=hg l (aZ eT) gI;obtain⟨G,hG⟩:=vV Hw;have Ka:G<=F:=aa;have Hi:G<F+1:=aa;have r4:=kI (abN (ls:=ls) (k:=k) Ka);have cK:cg (ls.take k) G<=k:=Av _ _ _;have w2:=df (n:=cg (ls.take k) G) aa;have s1:=K0 (sV ls F k) G (cg (ls.take k) G+1);rw[<- abO eT gI hG] at s1;obtain⟨b0,hb⟩:=aN (show k<(uD ls k).length by rw[alR];exact aB);have hb:=tR hb;have s2:=Jf (uD ls k) k (dn ls k);rw[<- alQ eT gI] at s2;have hd:=MF eT gI;simp only[go_sem,i82_l1,h0,h3,xV,h49,h50,bD,bC,bW,nJ,hi,Let.ps,aP,aB,hp,w1,hG,r4,Hi,w2,s1,hb,s2,hd,okD,o1,o2,o4];refine⟨aL,?_⟩;repeat(first|exact dQ|refine Kept.eH ?_ (by first|exact Or.inl rfl|exact Or.inr rfl) _)
 have:k=ls.length:=aa;subst this;simp only[go_sem,i82_l1,h49,h50,fh];exact rk2 okD ok hl hF hg h0 bD (by rw[bC,WJ]) (by rw[bW,alP]) nJ dQ
def r7(ls:ai)(id:Int)(o:Bool)(j:Nat):Bool:=match ls[j]? with|some m=>m.aD&&(m.id==id&&m.over==o)|none=>false
def hU(ls:ai)(k:Nat)(id:Int)(o:Bool):w_:=(List.range k).find? (r7 ls id o)
def CM:w_->Int
 |some j=>j
 |none=> -1
def fJ(ls:ai):Nat->d_
 |0=>[]
 |k+1=>match ls[k]? with
  |some l=>if l.aD&& !(fJ ls k).contains l.id then fJ ls k++[l.id] else fJ ls k
  |none=>fJ ls k
def rX(ls:ai)(k:Nat)(id:Int):b_:=[.int .i64 (CM (hU ls k id false)),.int .i64 (CM (hU ls k id true))]
def qS(ls:ai)(k:Nat):t_:=(fJ ls k).map fun id=>(PV.int .i64 id,rX ls k id)
def Es(ls:ai)(j:Nat):Int:=((ls[j]?).map Let.sign).getD 0
def nz(ls:ai)(n2:Nat)(k:Nat):Bool:=match ls[k]? with
 |some l=> !l.aD||((decide (1<=l.id)&&decide (l.id<=(n2:Int)))&&((hU ls k l.id l.over).isNone&&(match hU ls k l.id (!l.over) with|some j=>Es ls j==l.sign|none=>true)))
 |none=>true
def mI(ls:ai):Bool:=(aq Let.aD ls%2==0)&&(List.range ls.length).all (nz ls (aq Let.aD ls/2))&&((fJ ls ls.length).length==aq Let.aD ls/2)
def Ko{ls:ai}{k:Nat}{l:Let}(h:ls[k]?=some l)(hc:l.aD=true)(id:Int)(o:Bool):r7 ls id o k=(l.id==id&&l.over==o):=by simp[r7,h,hc]
def adY{ls:ai}{k:Nat}{l:Let}(h:ls[k]?=some l)(hc:l.aD=false)(id:Int)(o:Bool):r7 ls id o k=false:=by simp[r7,h,hc]
def VA(ls:ai)(k:Nat)(id:Int)(o:Bool):hU ls (k+1) id o=(hU ls k id o).or (if r7 ls id o k then some k else none):=by simp only[hU,yO,List.find?_append,List.find?_cons,List.find?_nil];cases r7 ls id o k<;>rfl
def Iz{ls:ai}{k:Nat}{id:Int}{o:Bool}{j:Nat}(h:hU ls k id o=some j):j<k/\r7 ls id o j=true:=
 ⟨iv.1 (IL h),L3 h⟩
def BS{ls:ai}{id:Int}{o:Bool}{j:Nat}(h:r7 ls id o j=true):∃m,ls[j]?=some m/\m.aD=true/\m.id=id/\m.over=o:=by
 unfold r7 at h;split at h
 .rename_i m hm;simp only[cJ,dh] at h;exact⟨m,hm,h.1,h.2.1,h.2.2⟩
 cases h
def Pv{ls:ai}{k:Nat}{id:Int}{o:Bool}(h:hU ls k id o=none){j:Nat}(hj:j<k):r7 ls id o j=false:=by
 have:=II.1 h j (iv.2 hj)
 simpa using this
def ael{ls:ai}{k:Nat}{l:Let}(h:ls[k]?=some l)(hc:l.aD=false):fJ ls (k+1)=fJ ls k:=by simp[fJ,h,hc]
def aem{ls:ai}{k:Nat}{l:Let}(h:ls[k]?=some l)(hc:l.aD=true)(hn:l.id∉fJ ls k):fJ ls (k+1)=fJ ls k++[l.id]:=by simp[fJ,h,hc,hn]
def aen{ls:ai}{k:Nat}{l:Let}(h:ls[k]?=some l)(hn:l.id∈fJ ls k):fJ ls (k+1)=fJ ls k:=by simp[fJ,h,hn]
def aqm{ls:ai}{k:Nat}{l:Let}(h:ls[k]?=some l)(hc:l.aD=false):qS ls (k+1)=qS ls k:=by unfold qS rX;rw[ael h hc];simp[VA,adY h hc]
def aoW{ls:ai}{id:Int}:∀(k:Nat),k<=ls.length->(id∈fJ ls k↔ ∃j o,j<k/\r7 ls id o j=true):=by
 intro k
 induction k with
 |zero=>intro _;simp[fJ]
 |succ k ih=>
  intro hk;obtain⟨l,hl⟩:=aN (show k<ls.length by omega);have ih:=ih aa;have old:(∃j o,j<k/\r7 ls id o j=true)->∃j o,j<k+1/\r7 ls id o j=true:=fun⟨j,o,h1,h2⟩=>⟨j,o,aa,h2⟩;cases hc:l.aD with
  |false=>
   rw[ael hl hc,ih];refine⟨old,?_⟩;rintro ⟨j,o,h1,h2⟩
   rcases og.1 h1 with h|rfl
   .exact⟨j,o,h,h2⟩
   rw[adY hl hc] at h2;cases h2
  |true=>
   have key:id∈fJ ls (k+1)↔(id∈fJ ls k\/id=l.id):=by
    by_cases hm:l.id∈fJ ls k
    .rw[aen hl hm];exact⟨Or.inl,fun h=>h.elim fH (fun e=>e▸hm)⟩
    rw[aem hl hc hm];simp
   rw[key,ih];constructor
   .rintro (h|rfl)
    .exact old h
    exact⟨k,l.over,aa,by rw[Ko hl hc];simp⟩
   rintro ⟨j,o,h1,h2⟩
   rcases og.1 h1 with h|rfl
   .exact Or.inl ⟨j,o,h,h2⟩
   rw[Ko hl hc] at h2;simp only[cJ,dh] at h2;exact Or.inr h2.1.symm
where fH {p:Prop} (h:p):p:=h
def HP{ls:ai}{id:Int}{k:Nat}(h:k<=ls.length):id∈fJ ls k↔ ∃j o,j<k/\r7 ls id o j=true:=aoW k h
def Ua(ls:ai):∀k,(fJ ls k).Nodup:=by
 intro k
 induction k with
 |zero=>simp[fJ]
 |succ k ih=>
  unfold fJ;split
  .split
   .rename_i h;simp only[cJ,l7,List.contains_eq_mem,decide_eq_false_iff_not] at h;rw[EL];refine⟨ih,af,?_⟩;intro a ha b hb;simp only[lQ] at hb;subst hb;rintro rfl
    exact h.2 ha
   exact ih
  exact ih
def avj{ls:ai}{k:Nat}(hk:k<=ls.length){id:Int}(h:id∉fJ ls k)(o:Bool):hU ls k id o=none:=by
 cases hv:hU ls k id o with
 |none=>rfl
 |some j=>obtain⟨h1,h2⟩:=Iz hv;exact absurd ((HP hk).2 ⟨j,o,h1,h2⟩) h
def aiA{ls:ai}{k:Nat}(hk:k<=ls.length){id:Int}(h:id∈fJ ls k)(o:Bool)(hn:hU ls k id o=none):∃j m,hU ls k id (!o)=some j/\ls[j]?=some m/\j<k:=by
 obtain⟨j,o',h1,h2⟩:=(HP hk).1 h;by_cases e:o'=o
 .subst e;rw[Pv hn h1] at h2;cases h2
 have e:o'= !o:=by cases o<;>cases o'<;>simp_all
 subst e;cases hv:hU ls k id (!o) with
 |none=>rw[Pv hv h1] at h2;cases h2
 |some i=>obtain⟨h3,h4⟩:=Iz hv;obtain⟨m,hm,_⟩:=BS h4;exact⟨i,m,rfl,hm,h3⟩
def aiB{ls:ai}{k:Nat}{l:Let}(h:ls[k]?=some l)(hc:l.aD=true){id:Int}(hn:¬l.id=id)(o:Bool):hU ls (k+1) id o=hU ls k id o:=by rw[VA,Ko h hc];simp[hn]
def Z0{ls:ai}{k:Nat}{l:Let}(h:ls[k]?=some l)(hc:l.aD=true)(hn:hU ls k l.id l.over=none):hU ls (k+1) l.id l.over=some k:=by rw[VA,Ko h hc,hn];simp
def ZZ{ls:ai}{k:Nat}{l:Let}(h:ls[k]?=some l)(hc:l.aD=true):hU ls (k+1) l.id (!l.over)=hU ls k l.id (!l.over):=by rw[VA,Ko h hc];cases l.over<;>simp
def acn{ls:ai}{k:Nat}{l:Let}(h:ls[k]?=some l)(hc:l.aD=true){id:Int}(hn:¬l.id=id):rX ls (k+1) id=rX ls k id:=by unfold rX;rw[aiB h hc hn,aiB h hc hn]
def aqn{ls:ai}{k:Nat}{l:Let}(h:ls[k]?=some l)(hc:l.aD=true)(hn:l.id∉fJ ls k):qS ls (k+1)=qS ls k++[(.int .i64 l.id,rX ls (k+1) l.id)]:=by unfold qS;rw[aem h hc hn,ki];congr 1;apply Ai;intro id hid;rw[acn h hc (by rintro rfl;exact hn hid)]
def aqo{ls:ai}{k:Nat}{l:Let}(h:ls[k]?=some l)(hc:l.aD=true)(hn:l.id∈fJ ls k):qS ls (k+1)=(qS ls k).set ((fJ ls k).idxOf l.id) (.int .i64 l.id,rX ls (k+1) l.id):=by
 unfold qS;rw[aen h hn];apply yM
 .simp
 intro i h1 h2;rw[L6];simp only[cU] at h1;by_cases e:(fJ ls k).idxOf l.id=i
 .subst e;simp only[EI,aG,List.getElem_idxOf]
 rw[aC e];simp only[EI];rw[acn h hc];intro e2;apply e;rw[e2];exact(Ua ls k).idxOf_getElem i h1
def acT(ls:ai)(k:Nat)(q:Int):qG (.int .i64 q) (qS ls k) 0=some (if q∈fJ ls k then some ((fJ ls k).idxOf q,rX ls k q) else none):=by unfold qS;rw[amG];simp
def Jt{ls:ai}{k:Nat}(hk:k<ls.length)(h:nz ls (aq Let.aD ls/2) k=false):mI ls=false:=by have:(List.range ls.length).all (nz ls (aq Let.aD ls/2))=false:=List.all_eq_false.2 ⟨k,iv.2 hk,by simp[h]⟩;simp[mI,this]
def WR{ls:ai}(he:aq Let.aD ls%2=0)(h:∀i,i<ls.length->nz ls (aq Let.aD ls/2) i=true):mI ls=((fJ ls ls.length).length==aq Let.aD ls/2):=by have:(List.range ls.length).all (nz ls (aq Let.aD ls/2))=true:=gj.2 fun i hi=>h i (iv.1 hi);simp[mI,this,he]
abbrev aag(id:Nat):Prop:=id=2560320128\/jH id=83
def ID(F:Nat)(ls:ai)(g:Nat)(c2 c3 c4 c6:C)(pK:aE)(v:V)(ao:aE):Prop:=v=vb (mI ls)/\Kept aag pK ao/\(mI ls=true->∃g1,ao 2560320128=(g,some (.var (wA F ls c2 c3 c4 (.kE 5312256064 g1) c6)))/\ao 5312256064=(g1,some (.map true (qS ls ls.length))))
def ge0(j:Nat):decide ((0:Int)<=(j:Int))=true:=xH aa
def EE:IntKind.i64.wrap 0=0:=ae
def EF:IntKind.i64.wrap 1=1:=ae
def K4:((-1:Int)≥0)=False:=af
def K5:((0:Int)<= -1)=False:=af
def alI{al:Al}(okD:al.ok 2560320128=true)(ok:∀id,jH id=83->al.ok id=true){aj:aE}{g F:Nat}{ls:ai}{c2 c3 c4 c5 c6:C}(hl:ls.length<=1000000)
  (bD:aj 2560320128=(g,some (.var (wA F ls c2 c3 c4 c5 c6)))):∃v ao,jd S 83 [.one (.bt 2560320128 g 0)] al aj v ao/\ID F ls g c2 c3 c4 c6 aj v ao:=by
 have o1:=ok 5312256064 rfl;have o2:=ok 5312448192 rfl;have o3:=ok 5312704640 rfl;refine nH c83 (iI rfl) ?_;have pc:=WS F ls hl;have cK:aq Let.aD ls<=ls.length:=sR _ _;cases he:(((aq Let.aD ls%2:Nat):Int)!=0) with
 |true=>
  have eh:mI ls=false:=by
   have:(aq Let.aD ls%2==0)=false:=by simp at he |-;omega
   simp[mI,this]
  simp only[go_sem,i83,bD,s24,Nt pc,jI,dZ,he,okD];exact⟨by rw[eh],Kept.refl _ _,fun h=>by rw[eh] at h;cases h⟩
 |false=>
  have he0:aq Let.aD ls%2=0:=by simp at he;omega
  simp only[go_sem,i83,bD,s24,Nt pc,jI,dZ,he,okD,o1];refine dG (fun k ak ao=>ak 0=.one (.bt 2560320128 g 0)/\ak 3=vi (aq Let.aD ls)/\ak 25=.one (.p (dJ ls))/\ak 26=vi ls.length/\ak 27=vi k/\
   ao 2560320128=(g,some (.var (wA F ls c2 c3 c4 (.kE 5312256064 ((aj 5312256064).1+1)) c6)))/\ao 5312256064=((aj 5312256064).1+1,some (.map true (qS ls k)))/\
   (∀i,i<k->nz ls (aq Let.aD ls/2) i=true)/\Kept aag aj ao) 0 ls.length (cA _) ?_ ?_
  .simp only[go_sem,bD];refine⟨rfl,rfl,fun i h=>absurd h (o9 i),?_⟩;repeat(first|exact(Kept.refl _ _)|refine Kept.eH ?_ (by first|exact Or.inl rfl|exact Or.inr rfl) _)
  rintro k ak ao hk ⟨h0,h3,ng,zc,ze,bD,bM,ay,dQ⟩
  have wq:IntKind.i64.wrap ((aq Let.aD ls/2:Nat):Int)=((aq Let.aD ls/2:Nat):Int):=wrap_small aa;by_cases aB:k<ls.length
  .obtain⟨l,eT⟩:=aN aB;have hi:=jo eT;have aP:((k:Int)<(ls.length:Int)):=aa;have w1:=df (n:=k) aa;cases hc:(l.kind==2) with
   |false=>
    have iz:l.aD=false:=hc;have hp:(l.kind !=2)=true:=by simp[bne,hc]
    have mq:nz ls (aq Let.aD ls/2) k=true:=by simp[nz,eT,iz]
    simp only[go_sem,i83_l1,h0,h3,ng,zc,ze,bD,bM,hi,Let.ps,aP,hp,w1,o2];refine⟨aB,?_,?_,?_⟩
    .rw[aqm eT iz]
    .intro i hi;rcases og.1 hi with h|rfl
     .exact ay i h
     exact mq
    repeat(first|exact dQ|refine Kept.eH ?_ (by first|exact Or.inl rfl|exact Or.inr rfl) _)
   |true=>
    have iz:l.aD=true:=hc;have hp:(l.kind !=2)=false:=by simp[bne,hc]
    cases r1:decide (l.id<1) with
    |true=>have tE:l.id<1:=qA r1;have r1n:¬1<=l.id:=aa;have eh:=Jt aB (show nz ls (aq Let.aD ls/2) k=false by simp[nz,eT,iz,r1n]);simp only[go_sem,i83_l1,ng,zc,ze,hi,Let.ps,aP,hp,tE,o2];unfold ID;refine⟨by rw[eh],?_,fun h=>by rw[eh] at h;cases h⟩;repeat(first|exact dQ|refine Kept.eH ?_ (by first|exact Or.inl rfl|exact Or.inr rfl) _)
    |false=>
     have tE:¬l.id<1:=ie r1;have r1y:1<=l.id:=aa;cases r2:decide (((aq Let.aD ls/2:Nat):Int)<l.id) with
     |true=>have uj:((aq Let.aD ls/2:Nat):Int)<l.id:=qA r2;have r2n:¬l.id<=((aq Let.aD ls/2:Nat):Int):=aa;have eh:=Jt aB (show nz ls (aq Let.aD ls/2) k=false by simp only[nz,eT,iz,r2n];simp);simp only[go_sem,i83_l1,h3,ng,zc,ze,hi,Let.ps,aP,hp,tE,uj,eQ,dZ,wq,o2];unfold ID;refine⟨by rw[eh],?_,fun h=>by rw[eh] at h;cases h⟩;repeat(first|exact dQ|refine Kept.eH ?_ (by first|exact Or.inl rfl|exact Or.inr rfl) _)
     |false=>
      have uj:¬((aq Let.aD ls/2:Nat):Int)<l.id:=ie r2;have r2y:l.id<=((aq Let.aD ls/2:Nat):Int):=aa;have hf:=acT ls k l.id;have oO:nz ls (aq Let.aD ls/2) k=((hU ls k l.id l.over).isNone&&(match hU ls k l.id (!l.over) with|some j=>Es ls j==l.sign|none=>true)):=by simp only[nz,eT,iz,r1y,r2y,decide_true];rfl
      by_cases hm:l.id∈fJ ls k
      .rw[aG hm] at hf;obtain⟨e0,hse⟩:=aN (show(fJ ls k).idxOf l.id<(qS ls k).length by simp[qS];exact List.idxOf_lt_length_of_mem hm);have BW:=aqo eT iz hm;have N6:rX ls k l.id=[.int .i64 (CM (hU ls k l.id false)),.int .i64 (CM (hU ls k l.id true))]:=rfl;rw[N6] at hf;cases ho:l.over with
       |true=>
        cases hv:hU ls k l.id true with
        |some j=>have eh:=Jt aB (show nz ls (aq Let.aD ls/2) k=false by rw[oO,ho,hv];rfl);rw[hv] at hf;simp only[CM] at hf;simp only[go_sem,i83_l1,h0,h3,ng,zc,ze,bD,bM,hi,Let.ps,aP,hp,tE,uj,eQ,dZ,wq,hf,ho,ge0,mapOf,mapVal,iK,Int.reduceNeg,okD,o1,o2,o3];refine⟨aL,aL,?_⟩;unfold ID;refine⟨by rw[eh],?_,fun h=>by rw[eh] at h;cases h⟩;repeat(first|exact dQ|refine Kept.eH ?_ (by first|exact Or.inl rfl|exact Or.inr rfl) _)
        |none=>
         obtain⟨j,m,hj,Hy,hjk⟩:=aiA hk hm true hv;have hj:hU ls k l.id false=some j:=hj;have A7:=jo Hy;have KD:Es ls j=m.sign:=by simp[Es,Hy]
         rw[hv,hj] at hf;simp only[CM] at hf;cases hs:(m.sign==l.sign) with
         |false=>
          have fR:(m.sign !=l.sign)=true:=by simp[bne,hs]
          have eh:=Jt aB (show nz ls (aq Let.aD ls/2) k=false by rw[oO,ho,hv];simp only[Ad,hj,KD,hs];rfl);simp only[go_sem,i83_l1,h0,h3,ng,zc,ze,bD,bM,hi,Let.ps,aP,hp,tE,uj,eQ,dZ,wq,hf,ho,K4,A7,fR,EE,mapOf,mapVal,iK,Int.reduceNeg,Int.reduceSub,okD,o1,o2,o3];refine⟨aL,aL,?_⟩;unfold ID;refine⟨by rw[eh],?_,fun h=>by rw[eh] at h;cases h⟩;repeat(first|exact dQ|refine Kept.eH ?_ (by first|exact Or.inl rfl|exact Or.inr rfl) _)
         |true=>
          have fR:(m.sign !=l.sign)=false:=by simp[bne,hs]
          have mq:nz ls (aq Let.aD ls/2) k=true:=by rw[oO,ho,hv];simp only[Ad,hj,KD,hs];rfl
          have sa:=Z0 eT iz (show hU ls k l.id l.over=none by rw[ho];exact hv);have yu:=ZZ eT iz;rw[ho] at sa yu;rw[show hU ls k l.id (!true)=some j from hj] at yu;have XI:rX ls (k+1) l.id=[.int .i64 (j:Int),.int .i64 (k:Int)]:=by simp only[rX];rw[sa,show hU ls (k+1) l.id false=some j from yu];rfl
          rw[XI] at BW;simp only[go_sem,i83_l1,h0,h3,ng,zc,ze,bD,bM,hi,Let.ps,aP,hp,w1,tE,uj,eQ,dZ,wq,hf,ho,K4,A7,fR,EE,mapOf,mapVal,iK,sM,Int.reduceNeg,Int.reduceSub,okD,o1,o2,o3];refine⟨aL,aL,aL,?_⟩;refine⟨aB,?_,?_,?_⟩
          .rw[BW]
          .intro i hi;rcases og.1 hi with h|rfl
           .exact ay i h
           exact mq
          repeat(first|exact dQ|refine Kept.eH ?_ (by first|exact Or.inl rfl|exact Or.inr rfl) _)
       |false=>
        cases hv:hU ls k l.id false with
        |some j=>have eh:=Jt aB (show nz ls (aq Let.aD ls/2) k=false by rw[oO,ho,hv];rfl);rw[hv] at hf;simp only[CM] at hf;simp only[go_sem,i83_l1,h0,h3,ng,zc,ze,bD,bM,hi,Let.ps,aP,hp,tE,uj,eQ,dZ,wq,hf,ho,ge0,mapOf,mapVal,iK,Int.reduceNeg,okD,o1,o2,o3];refine⟨aL,aL,?_⟩;unfold ID;refine⟨by rw[eh],?_,fun h=>by rw[eh] at h;cases h⟩;repeat(first|exact dQ|refine Kept.eH ?_ (by first|exact Or.inl rfl|exact Or.inr rfl) _)
        |none=>
         obtain⟨j,m,hj,Hy,hjk⟩:=aiA hk hm false hv;have hj:hU ls k l.id true=some j:=hj;have A7:=jo Hy;have KD:Es ls j=m.sign:=by simp[Es,Hy]
         rw[hv,hj] at hf;simp only[CM] at hf;cases hs:(m.sign==l.sign) with
         |false=>
          have fR:(m.sign !=l.sign)=true:=by simp[bne,hs]
          have eh:=Jt aB (show nz ls (aq Let.aD ls/2) k=false by rw[oO,ho,hv];simp only[Gi,hj,KD,hs];rfl);simp only[go_sem,i83_l1,h0,h3,ng,zc,ze,bD,bM,hi,Let.ps,aP,hp,tE,uj,eQ,dZ,wq,hf,ho,K4,A7,fR,EF,mapOf,mapVal,iK,Int.reduceNeg,Int.reduceSub,okD,o1,o2,o3];refine⟨aL,aL,?_⟩;unfold ID;refine⟨by rw[eh],?_,fun h=>by rw[eh] at h;cases h⟩;repeat(first|exact dQ|refine Kept.eH ?_ (by first|exact Or.inl rfl|exact Or.inr rfl) _)
         |true=>
          have fR:(m.sign !=l.sign)=false:=by simp[bne,hs]
          have mq:nz ls (aq Let.aD ls/2) k=true:=by rw[oO,ho,hv];simp only[Gi,hj,KD,hs];rfl
          have sa:=Z0 eT iz (show hU ls k l.id l.over=none by rw[ho];exact hv);have yu:=ZZ eT iz;rw[ho] at sa yu;rw[show hU ls k l.id (!false)=some j from hj] at yu;have XI:rX ls (k+1) l.id=[.int .i64 (k:Int),.int .i64 (j:Int)]:=by simp only[rX];rw[sa,show hU ls (k+1) l.id true=some j from yu];rfl
          rw[XI] at BW;simp only[go_sem,i83_l1,h0,h3,ng,zc,ze,bD,bM,hi,Let.ps,aP,hp,w1,tE,uj,eQ,dZ,wq,hf,ho,K4,A7,fR,EF,mapOf,mapVal,iK,sM,Int.reduceNeg,Int.reduceSub,okD,o1,o2,o3];refine⟨aL,aL,aL,?_⟩;refine⟨aB,?_,?_,?_⟩
          .rw[BW]
          .intro i hi;rcases og.1 hi with h|rfl
           .exact ay i h
           exact mq
          repeat(first|exact dQ|refine Kept.eH ?_ (by first|exact Or.inl rfl|exact Or.inr rfl) _)
      rw[aC hm] at hf;have hv:=avj hk hm;have nO:=aqn eT iz hm;have mq:nz ls (aq Let.aD ls/2) k=true:=by rw[oO,hv,hv];rfl
      have sa:=Z0 eT iz (hv _);have yu:=ZZ eT iz;rw[hv] at yu;cases ho:l.over with
      |true=>
       rw[ho] at sa yu;have N6:rX ls (k+1) l.id=[.int .i64 (-1),.int .i64 (k:Int)]:=by simp only[rX];rw[sa,show hU ls (k+1) l.id false=none from yu];rfl
       rw[N6] at nO;simp only[go_sem,i83_l1,h0,h3,ng,zc,ze,bD,bM,hi,Let.ps,aP,hp,w1,tE,uj,eQ,dZ,wq,hf,ho,K4,mapOf,mapVal,iK,sM,yQ,Int.reduceNeg,okD,o1,o2,o3];refine⟨aL,aL,aL,?_⟩;refine⟨aB,?_,?_,?_⟩
       .rw[nO]
       .intro i hi;rcases og.1 hi with h|rfl
        .exact ay i h
        exact mq
       repeat(first|exact dQ|refine Kept.eH ?_ (by first|exact Or.inl rfl|exact Or.inr rfl) _)
      |false=>
       rw[ho] at sa yu;have N6:rX ls (k+1) l.id=[.int .i64 (k:Int),.int .i64 (-1)]:=by simp only[rX];rw[sa,show hU ls (k+1) l.id true=none from yu];rfl
       rw[N6] at nO;simp only[go_sem,i83_l1,h0,h3,ng,zc,ze,bD,bM,hi,Let.ps,aP,hp,w1,tE,uj,eQ,dZ,wq,hf,ho,K4,mapOf,mapVal,iK,sM,yQ,Int.reduceNeg,okD,o1,o2,o3];refine⟨aL,aL,aL,?_⟩;refine⟨aB,?_,?_,?_⟩
       .rw[nO]
       .intro i hi;rcases og.1 hi with h|rfl
        .exact ay i h
        exact mq
       repeat(first|exact dQ|refine Kept.eH ?_ (by first|exact Or.inl rfl|exact Or.inr rfl) _)
  have:k=ls.length:=aa;subst this;have hr:=WR he0 ay;have kY:(qS ls ls.length).length=(fJ ls ls.length).length:=by simp[qS]
  have hb:((((fJ ls ls.length).length:Nat):Int)==((aq Let.aD ls/2:Nat):Int))=((fJ ls ls.length).length==aq Let.aD ls/2):=by
   cases h:((fJ ls ls.length).length==aq Let.aD ls/2) with
   |true=>simp at h |-;omega
   |false=>simp at h |-;omega
  simp only[go_sem,i83_l1,i83_r2,h0,h3,zc,ze,bD,bM,fh,rM,Int.reduceNeg,kY,eQ,dZ,wq,hb,okD,o1];exact⟨by rw[hr],dQ,fun _=>⟨_,bD,bM⟩⟩
def GO{p:Let->Bool}{ls:ai}{i:Nat}{l:Let}(h:ls[i]?=some l)(hp:p l=true):aq p ls=1↔ ∀j m,ls[j]?=some m->p m=true->j=i:=by
 obtain⟨hi,e⟩:=aW.1 h;have hs:ls=ls.take i++l::ls.drop (i+1):=by rw[<- e,ur];simp
 have hc:aq p ls=aq p (ls.take i)+(aq p (ls.drop (i+1))+1):=by
  conv=>lhs;rw[hs]
  simp[aq,xz,hp]
 constructor
 .intro h1 j m hj hm;have z1:aq p (ls.take i)=0:=aa;have z2:aq p (ls.drop (i+1))=0:=aa;have z1:=L2.1 z1;have z2:=L2.1 z2;rcases Nat.lt_trichotomy j i with BT|BT|BT
  .have:m∈ls.take i:=aZ (i:=j) (by rw[l8,aG BT,hj]);exact absurd hm (z1 m this)
  .exact BT
  have:m∈ls.drop (i+1):=aZ (i:=j-(i+1)) (by rw[Ah,show i+1+(j-(i+1))=j by omega,hj]);exact absurd hm (z2 m this)
 intro hu;have z1:aq p (ls.take i)=0:=by
  refine L2.2 fun m hm kZ=>?_;obtain⟨j,hj⟩:=ia hm;have BT:j<i:=by have:=(aW.1 hj).1;rw[iH] at this;omega
  rw[l8,aG BT] at hj;have:=hu j m hj kZ;omega
 have z2:aq p (ls.drop (i+1))=0:=by refine L2.2 fun m hm kZ=>?_;obtain⟨j,hj⟩:=ia hm;rw[Ah] at hj;have:=hu _ m hj kZ;omega
 omega
def ala{p:Let->Bool}{ls:ai}(h:∀(i j:Nat) (l m:Let),ls[i]?=some l->ls[j]?=some m->p l=true->p m=true->i=j):aq p ls<=1:=by
 by_cases hz:aq p ls=0
 .omega
 have:0<ls.countP p:=Nat.pos_of_ne_zero hz;obtain⟨l,hl,hp⟩:=Af.1 this;obtain⟨i,hi⟩:=ia hl;have:=(GO hi hp).2 fun j m hj hm=>h j i m l hj hi hm hp;omega
structure vq (F:Nat) (ls:ai) (l:Let):Prop where
 g0:0<=l.gate
 g1:l.gate<=(F:Int)
 r0:1<=l.aA
 r1:l.aA<=(cg ls l.gate.toNat:Int)
def Iq{ls:ai}{l m:Let}(hl:vq F ls l)(hm:vq F ls m):dD ls l=dD ls m↔l.gate=m.gate/\l.aA=m.aA:=by
 obtain⟨l1,l2,l3,l4⟩:=hl;obtain⟨m1,m2,m3,m4⟩:=hm;unfold dD;constructor
 .intro h;have sl:=uG ls l.gate.toNat;have sm:=uG ls m.gate.toNat;rcases Nat.lt_trichotomy l.gate.toNat m.gate.toNat with c|c|c
  .have:=BH (ls:=ls) (show l.gate.toNat+1<=m.gate.toNat by omega);omega
  .rw[c] at h;omega
  have:=BH (ls:=ls) (show m.gate.toNat+1<=l.gate.toNat by omega);omega
 rintro ⟨h1,h2⟩;rw[h1,h2]
def arz{ls:ai}{l m:Let}(hl:vq F ls l)(hm:vq F ls m):HZ l m=true↔dD ls l<dD ls m:=by
 obtain⟨l1,l2,l3,l4⟩:=hl;obtain⟨m1,m2,m3,m4⟩:=hm;unfold dD HZ;simp only[vU,cJ,l9,dh];have sl:=uG ls l.gate.toNat;have sm:=uG ls m.gate.toNat;rcases Nat.lt_trichotomy l.gate.toNat m.gate.toNat with c|c|c
 .have:=BH (ls:=ls) (show l.gate.toNat+1<=m.gate.toNat by omega);omega
 .rw[c];omega
 have:=BH (ls:=ls) (show m.gate.toNat+1<=l.gate.toNat by omega);omega
def Zl{ls:ai}{l:Let}(hl:vq F ls l):dD ls l<fp ls (F+1):=by obtain⟨l1,l2,l3,l4⟩:=hl;unfold dD;have sl:=uG ls l.gate.toNat;have:=BH (ls:=ls) (show l.gate.toNat+1<=F+1 by omega);omega
def UZ{ls:ai}{i:Nat}{l:Let}(h:ls[i]?=some l)(hp:l.aF=true):uq ls i=true↔1<=l.aA/\l.aA<=(cg ls l.gate.toNat:Int)/\ ∀j m,j<i->ls[j]?=some m->m.aF=true->dD ls m≠dD ls l:=by
 simp only[uq,h,hp,Ad,CO,cJ,l9,l7,IF,iv];constructor
 .rintro ⟨⟨h1,h2⟩,h3⟩
  refine⟨h1,h2,fun j m hj hm kZ e=>?_⟩;have:=h3 j hj;rw[N8 hm kZ] at this;simp[e] at this
 rintro ⟨h1,h2,h3⟩
 refine⟨⟨h1,h2⟩,fun j hj=>?_⟩;unfold ub;split
 .rename_i m hm;cases kZ:m.aF with
  |false=>simp
  |true=>simpa using h3 j m hj hm kZ
 simp
def Pe{ls:ai}(hg:rZ F ls):zT ls=true↔(∀l∈ls,l.aF=true->vq F ls l)/\ ∀(i j:Nat) (l m:Let),ls[i]?=some l->ls[j]?=some m->l.aF=true->m.aF=true->dD ls l=dD ls m->i=j:=by
 unfold zT;rw[gj];constructor
 .intro h;refine⟨fun l hl hp=>?_,fun i j l m hi hj bd kZ e=>?_⟩
  .obtain⟨i,hi⟩:=ia hl;have:=(UZ hi hp).1 (h i (iv.2 (aW.1 hi).1));exact⟨(hg l hl hp).1,(hg l hl hp).2,this.1,this.2.1⟩
  have ci:=(UZ hi bd).1 (h i (iv.2 (aW.1 hi).1));have cj:=(UZ hj kZ).1 (h j (iv.2 (aW.1 hj).1));rcases Nat.lt_trichotomy i j with c|c|c
  .exact absurd e (cj.2.2 i l c hi bd)
  .exact c
  exact absurd e.symm (ci.2.2 j m c hj kZ)
 rintro ⟨h1,h2⟩ i hi
 obtain⟨l,hl⟩:=aN (iv.1 hi);cases hp:l.aF with
 |false=>simp[uq,hl,hp]
 |true=>have hg:=h1 l (aZ hl) hp;refine(UZ hl hp).2 ⟨hg.r0,hg.r1,fun j m hj hm kZ e=>?_⟩;have:=h2 j i m l hm hl kZ hp e;omega
def Ub(g:Int)(h:0<=g)(l:Let):qe g l=mD g.toNat l:=by unfold qe mD;rw[Int.toNat_of_nonneg h]
def sC{l:Let}(hp:l.aF=true):dS f l=false↔(((0<=l.gate/\l.gate<=f)/\l.id=0)/\l.sign=0)/\l.over=false:=by unfold Let.aF at hp;simp only[dS,hp,if_true,PG,decide_eq_false_iff_not,bne_eq_false_iff_eq,Int.not_lt]
def La{ls:ai}{l:Let}(hp:l.aF=true):xf f ls l=true↔dS f l=false/\1<=l.aA/\l.aA<=(aq (qe l.gate) ls:Int)/\aq (jq l) ls=1:=by
 rw[sC hp];unfold xf;simp only[l7,PG,decide_eq_false_iff_not,bne_eq_false_iff_eq];constructor
 .rintro ⟨⟨⟨⟨⟨⟨⟨a,b⟩,c⟩,d⟩,e⟩,g⟩,h⟩,i⟩
  exact⟨⟨⟨⟨⟨aa,aa⟩,a⟩,b⟩,c⟩,aa,aa,aa⟩
 rintro ⟨⟨⟨⟨⟨d,e⟩,a⟩,b⟩,c⟩,g,h,i⟩
 exact⟨⟨⟨⟨⟨⟨⟨a,b⟩,c⟩,aa⟩,aa⟩,aa⟩,aa⟩,aa⟩
def Va{l m:Let}(hp:l.aF=true):jq l m=true↔m.aF=true/\m.gate=l.gate/\m.aA=l.aA:=by unfold Let.aF at hp |-;simp only[dh] at hp;unfold jq;simp only[cJ,dh,hp,and_assoc]
def ara{ls:ai}:(∀l∈ls,l.aF=true->xf F ls l=true)↔(∀l∈ls,l.aF=true->dS F l=false)/\zT ls=true:=by
 constructor
 .intro h;have hb:∀l∈ls,l.aF=true->dS F l=false:=fun l hl hp=>((La hp).1 (h l hl hp)).1;have hg:rZ F ls:=fun l hl hp=>((sC hp).1 (hb l hl hp)).1.1.1;refine⟨hb,(Pe hg).2 ⟨fun l hl hp=>?_,fun i j l m hi hj bd kZ e=>?_⟩⟩
  .obtain⟨_,h2,h3,_⟩:=(La hp).1 (h l hl hp);have:=hg l hl hp;refine⟨this.1,this.2,h2,?_⟩;have e:aq (qe l.gate) ls=cg ls l.gate.toNat:=by unfold cg aq;congr 1;funext m;exact Ub _ this.1 m
   omega
  have gl:vq F ls l:=by
   obtain⟨_,h2,h3,_⟩:=(La bd).1 (h l (aZ hi) bd);have:=hg l (aZ hi) bd;have e:aq (qe l.gate) ls=cg ls l.gate.toNat:=by unfold cg aq;congr 1;funext m;exact Ub _ this.1 m
   exact⟨this.1,this.2,h2,aa⟩
  have gm:vq F ls m:=by
   obtain⟨_,h2,h3,_⟩:=(La kZ).1 (h m (aZ hj) kZ);have:=hg m (aZ hj) kZ;have e:aq (qe m.gate) ls=cg ls m.gate.toNat:=by unfold cg aq;congr 1;funext m;exact Ub _ this.1 m
   exact⟨this.1,this.2,h2,aa⟩
  have e2:=(Iq gl gm).1 e;have hs:=((La kZ).1 (h m (aZ hj) kZ)).2.2.2;exact(GO hj ((Va kZ).2 ⟨kZ,rfl,rfl⟩)).1 hs i l hi ((Va kZ).2 ⟨bd,e2.1,e2.2⟩)
 rintro ⟨hb,hr⟩ l hl hp
 have hg:rZ F ls:=fun l hl hp=>((sC hp).1 (hb l hl hp)).1.1.1;obtain⟨h1,h2⟩:=(Pe hg).1 hr;have gl:=h1 l hl hp;have e:aq (qe l.gate) ls=cg ls l.gate.toNat:=by unfold cg aq;congr 1;funext m;exact Ub _ gl.g0 m
 obtain⟨i,hi⟩:=ia hl;refine(La hp).2 ⟨hb l hl hp,gl.r0,by rw[e];exact gl.r1,(GO hi ((Va hp).2 ⟨hp,rfl,rfl⟩)).2 fun j m hj hs=>?_⟩;obtain⟨kZ,eg,er⟩:=(Va hp).1 hs;exact h2 j i m l hj hi kZ hp ((Iq (h1 m (aZ hj) kZ) gl).2 ⟨eg,er⟩)
def ti(id:Int)(o:Bool)(l:Let):Bool:=l.aD&&(l.id==id&&l.over==o)
def Kn{ls:ai}{j:Nat}{m:Let}(h:ls[j]?=some m)(id:Int)(o:Bool):r7 ls id o j=ti id o m:=by simp[r7,ti,h]
def rG{id:Int}{o:Bool}{l:Let}:ti id o l=true↔l.aD=true/\l.id=id/\l.over=o:=by unfold ti;simp only[cJ,dh]
def Il(ls:ai):Prop:=∀(i j:Nat) (l m:Let),ls[i]?=some l->ls[j]?=some m->l.aD=true->m.aD=true->l.id=m.id->i≠j->l.over≠m.over/\l.sign=m.sign
def Yn(ls:ai):Prop:=∀l∈ls,l.aD=true->1<=l.id/\l.id<=((aq Let.aD ls/2:Nat):Int)
def aiS{ls:ai}{n2 k:Nat}{l:Let}(h:ls[k]?=some l)(hc:l.aD=true):nz ls n2 k=true↔(1<=l.id/\l.id<=(n2:Int))/\hU ls k l.id l.over=none/\ ∀j,hU ls k l.id (!l.over)=some j->Es ls j=l.sign:=by
 simp only[nz,h,hc,Ad,CO,cJ,l9,Option.isNone_iff_eq_none];constructor
 .rintro ⟨h1,h2,h3⟩
  refine⟨h1,h2,fun j hj=>?_⟩;rw[hj] at h3
  simpa using h3
 rintro ⟨h1,h2,h3⟩
 refine⟨h1,h2,?_⟩;split
 .rename_i j hj
  simpa using h3 j hj
 rfl
def IC{ls:ai}:(∀k,k<ls.length->nz ls (aq Let.aD ls/2) k=true)↔Yn ls/\Il ls:=by
 constructor
 .intro h;have hx:∀ {k:Nat} {l:Let},ls[k]?=some l->l.aD=true->_:=fun {k l} hk hc=>(aiS (n2:=aq Let.aD ls/2) hk hc).1 (h k (aW.1 hk).1);refine⟨fun l hl hc=>?_,?_⟩
  .obtain⟨i,hi⟩:=ia hl;exact(hx hi hc).1
  have key:∀(i j:Nat) (l m:Let),ls[i]?=some l->ls[j]?=some m->l.aD=true->m.aD=true->l.id=m.id->i<j->l.over≠m.over/\l.sign=m.sign:=by
   intro i j l m hi hj cK tZ he ir;obtain⟨_,hn,hs⟩:=hx hj tZ;have ho:l.over≠m.over:=by intro e;have:=Pv hn ir;rw[Kn hi,rG.2 ⟨cK,he,e⟩] at this;cases this
   refine⟨ho,?_⟩;have lW:l.over= !m.over:=by revert ho;cases l.over<;>cases m.over<;>simp
   cases hv:hU ls j m.id (!m.over) with
   |none=>have:=Pv hv ir;rw[Kn hi,rG.2 ⟨cK,he,lW⟩] at this;cases this
   |some p=>
    have h3:=hs p hv;obtain⟨lX,ml⟩:=Iz hv;obtain⟨x,jN,OP,mr,hxo⟩:=BS ml;have:p=i:=by
     rcases Nat.lt_trichotomy p i with c|c|c
     .have lM:=(hx hi cK).2.1;have:=Pv lM c;rw[Kn jN,rG.2 ⟨OP,by rw[mr,he],by rw[hxo,lW]⟩] at this;cases this
     .exact c
     have h4:(List.range j).find? (r7 ls m.id (!m.over))=some p:=hv;rw[List.find?_range_eq_some] at h4;have:=h4.2.2 i c;rw[Kn hi,rG.2 ⟨cK,he,lW⟩] at this;cases this
    subst this;rw[hi] at jN;cases jN
    simpa [Es,hi] using h3
  intro i j l m hi hj cK tZ he ir;rcases Nat.lt_or_gt_of_ne ir with c|c
  .exact key i j l m hi hj cK tZ he c
  have:=key j i m l hj hi tZ cK he.symm c;exact⟨fun e=>this.1 e.symm,this.2.symm⟩
 rintro ⟨h1,h2⟩ k hk
 obtain⟨l,hl⟩:=aN hk;cases hc:l.aD with
 |false=>simp[nz,hl,hc]
 |true=>
  refine(aiS hl hc).2 ⟨h1 l (aZ hl) hc,?_,fun j hj=>?_⟩
  .cases hv:hU ls k l.id l.over with
   |none=>rfl
   |some p=>obtain⟨lX,ml⟩:=Iz hv;obtain⟨x,jN,OP,mr,hxo⟩:=BS ml;exact absurd hxo (h2 p k x l jN hl OP hc mr aa).1
  obtain⟨lX,ml⟩:=Iz hj;obtain⟨x,jN,OP,mr,hxo⟩:=BS ml;have:=(h2 j k x l jN hl OP hc mr aa).2;simp[Es,jN,this]
def auF(ls:ai):∀ids:d_,ids.Nodup->(ids.map fun id=>aq (mu id) ls).sum=aq (fun l=>l.aD&&ids.contains l.id) ls:=by
 intro ids
 induction ids with
 |nil=>intro _;simp[aq]
 |cons a ids ih=>
  intro hn;rw[rj] at hn;rw[eD,List.sum_cons,ih hn.2];refine(WI (p:=mu a) (q:=fun l=>l.aD&&ids.contains l.id) (r:=fun l=>l.aD&&(a::ids).contains l.id) ?_ ?_ ls).symm
  .intro l;simp only[mu,cJ,dh,List.contains_eq_mem,l9,ch];constructor
   .rintro ⟨h1,h2|h2⟩
    .exact .inl ⟨h1,h2⟩
    exact .inr ⟨h1,h2⟩
   rintro (⟨h1,h2⟩|⟨h1,h2⟩)
   .exact⟨h1,.inl h2⟩
   exact⟨h1,.inr h2⟩
  intro l;simp only[mu,cJ,dh,List.contains_eq_mem,l9];rintro ⟨_,h1⟩ ⟨_,h2⟩
  exact hn.1 (h1▸h2)
def T9{ls:ai}{l:Let}(hl:l∈ls)(hc:l.aD=true):l.id∈fJ ls ls.length:=by obtain⟨i,hi⟩:=ia hl;refine(HP (cD _)).2 ⟨i,l.over,(aW.1 hi).1,?_⟩;rw[Kn hi];exact rG.2 ⟨hc,rfl,rfl⟩
def ZO(ls:ai):((fJ ls ls.length).map fun id=>aq (mu id) ls).sum=aq Let.aD ls:=by
 rw[auF _ _ (Ua ls _)];apply IH;intro l hl;cases hc:l.aD with
 |false=>simp
 |true=>simp[T9 hl hc]
def Ui(id:Int)(ls:ai):aq (mu id) ls=aq (ti id true) ls+aq (ti id false) ls:=by
 refine WI ?_ ?_ ls
 .intro l;rw[rG,rG];simp only[mu,cJ,dh];cases l.over<;>simp
 intro l;rw[rG,rG];rintro ⟨_,_,h1⟩ ⟨_,_,h2⟩
 rw[h1] at h2;cases h2
def Ys(id:Int)(o:Bool)(ls:ai):aq (mu id) ls=aq (ti id o) ls+aq (ti id (!o)) ls:=by
 rw[Ui];cases o with
 |true=>rfl
 |false=>simp only[Gi];omega
def BR{ls:ai}(h:Il ls)(id:Int)(o:Bool):aq (ti id o) ls<=1:=by refine ala fun i j l m hi hj hl hm=>?_;obtain⟨l1,l2,l3⟩:=rG.1 hl;obtain⟨m1,m2,m3⟩:=rG.1 hm;refine Decidable.byContradiction fun aK=>?_;exact(h i j l m hi hj l1 m1 (by rw[l2,m2]) aK).1 (by rw[l3,m3])
def aic{f:Int->Nat}:∀ids:d_,(∀x∈ids,f x<=2)->(ids.map f).sum<=2*ids.length:=by
 intro ids
 induction ids with
 |nil=>intro _;simp
 |cons a ids ih=>intro h;have:=ih fun x hx=>h x (u6 _ hx);have:=h a PI;simp only[eD,List.sum_cons,dL];omega
def aaJ{f:Int->Nat}:∀ids:d_,(∀x∈ids,f x<=2)->(ids.map f).sum=2*ids.length->∀x∈ids,f x=2:=by
 intro ids
 induction ids with
 |nil=>intro _ _ x hx;cases hx
 |cons a ids ih=>
  intro h hs;have h1:=aic ids fun x hx=>h x (u6 _ hx);have h2:=h a PI;simp only[eD,List.sum_cons,dL] at hs;intro x hx;rcases ch.1 hx with rfl|hx
  .omega
  exact ih (fun x hx=>h x (u6 _ hx)) aa x hx
def auG{f:Int->Nat}:∀ids:d_,(∀x∈ids,f x=2)->(ids.map f).sum=2*ids.length:=by
 intro ids
 induction ids with
 |nil=>intro _;simp
 |cons a ids ih=>intro h;have:=ih fun x hx=>h x (u6 _ hx);have:=h a PI;simp only[eD,List.sum_cons,dL];omega
def Zh{l m:Let}(hc:l.aD=true):iV l m=true↔m.aD=true/\m.id=l.id/\m.sign=l.sign/\m.over= !l.over:=by unfold Let.aD at hc |-;simp only[dh] at hc;unfold iV;simp only[cJ,dh,hc,and_assoc,l7,lS,ne_eq];cases l.over<;>cases m.over<;>simp
def O3{l:Let}(hc:l.aD=true):dS f l=false↔(l.gate=0/\l.aA=0)/\(l.sign !=1&&l.sign != -1)=false:=by
 unfold Let.aD at hc;have h1:(l.kind==1)=false:=by simp only[dh] at hc;rw[hc];rfl
 simp only[dS,hc,h1,if_true];simp
def ags{ls:ai}{l:Let}(hc:l.aD=true):mQ ls l=true↔dS f l=false/\(1<=l.id/\l.id<=((aq Let.aD ls/2:Nat):Int))/\aq (iV l) ls=1/\aq (mu l.id) ls=2:=by
 rw[O3 hc];unfold mQ;simp only[l7,PG,decide_eq_false_iff_not,bne_eq_false_iff_eq];constructor
 .rintro ⟨⟨⟨⟨⟨⟨a,b⟩,c⟩,d⟩,e⟩,g⟩,h⟩
  exact⟨⟨⟨a,b⟩,c⟩,⟨aa,aa⟩,aa,aa⟩
 rintro ⟨⟨⟨a,b⟩,c⟩,⟨d,e⟩,g,h⟩
 exact⟨⟨⟨⟨⟨⟨a,b⟩,c⟩,aa⟩,aa⟩,aa⟩,aa⟩
def alr{ls:ai}:(∀l∈ls,l.aD=true->mQ ls l=true)↔(∀l∈ls,l.aD=true->dS f l=false)/\mI ls=true:=by
 have OK:=ZO ls;constructor
 .intro h;have dV:=fun l hl hc=>(ags (f:=f) hc).1 (h l hl hc);have hp:Il ls:=by
   intro i j l m hi hj cK tZ he ir;obtain⟨_,_,h3,h4⟩:=dV l (aZ hi) cK;have e1:=Ys l.id l.over ls;have g1:0<aq (ti l.id l.over) ls:=Af.2 ⟨l,aZ hi,rG.2 ⟨cK,rfl,rfl⟩⟩;obtain⟨x,hx,oQ⟩:=Af.1 (show 0<ls.countP (iV l) by show 0<aq (iV l) ls;omega);obtain⟨x1,x2,x3,x4⟩:=(Zh cK).1 oQ;have g2:0<aq (ti l.id (!l.over)) ls:=Af.2 ⟨x,hx,rG.2 ⟨x1,x2,x4⟩⟩;have u1:aq (ti l.id l.over) ls=1:=aa;have u2:aq (ti l.id (!l.over)) ls=1:=aa;have ho:l.over≠m.over:=by intro e;have:=(GO hi (rG.2 ⟨cK,rfl,rfl⟩)).1 u1 j m hj (rG.2 ⟨tZ,he.symm,e.symm⟩);exact ir this.symm
   refine⟨ho,?_⟩;have lW:m.over= !l.over:=by revert ho;cases l.over<;>cases m.over<;>simp
   obtain⟨p,jN⟩:=ia hx;have:=(GO hj (rG.2 ⟨tZ,he.symm,lW⟩)).1 u2 p x jN (rG.2 ⟨x1,x2,x4⟩);subst this;rw[jN] at hj;cases hj;exact x3.symm
  have aoR:∀id∈fJ ls ls.length,aq (mu id) ls=2:=by intro id hid;obtain⟨j,o,h1,h2⟩:=(HP (cD _)).1 hid;obtain⟨m,hm,hc,hi,_⟩:=BS h2;rw[<- hi];exact(dV m (aZ hm) hc).2.2.2
  rw[auG _ aoR] at OK;refine⟨fun l hl hc=>(dV l hl hc).1,?_⟩;have hx:=(IC (ls:=ls)).2 ⟨fun l hl hc=>(dV l hl hc).2.1,hp⟩;rw[WR aa hx];simp only[dh];omega
 rintro ⟨hb,hr⟩ l hl hc
 unfold mI at hr;simp only[cJ,dh,gj,iv] at hr;obtain⟨⟨he,hx⟩,hlen⟩:=hr;obtain⟨hid,hp⟩:=IC.1 hx;have hle:∀id∈fJ ls ls.length,aq (mu id) ls<=2:=fun id _=>by rw[Ui id];have:=BR hp id true;have:=BR hp id false;omega
 have h2:=aaJ _ hle (by rw[OK,hlen];omega) l.id (T9 hl hc);have e1:=Ys l.id l.over ls;have b1:=BR hp l.id l.over;have b2:=BR hp l.id (!l.over);refine(ags hc).2 ⟨hb l hl hc,hid l hl hc,?_,h2⟩;have u2:aq (ti l.id (!l.over)) ls=1:=aa;obtain⟨i,hi⟩:=ia hl;obtain⟨x,hx,oQ⟩:=Af.1 (show 0<ls.countP (ti l.id (!l.over)) by show 0<aq (ti l.id (!l.over)) ls;omega);obtain⟨p,jN⟩:=ia hx;obtain⟨x1,x2,x3⟩:=rG.1 oQ;have iD:p≠i:=by
  rintro rfl
  rw[hi] at jN;cases jN;revert x3;cases l.over<;>simp
 have hsg:=(hp p i x l jN hi x1 hc x2 iD).2;refine(GO jN ((Zh hc).2 ⟨x1,x2,hsg,x3⟩)).2 fun j m hj hm=>?_;obtain⟨m1,m2,m3,m4⟩:=(Zh hc).1 hm;exact(GO jN oQ).1 u2 j m hj (rG.2 ⟨m1,m2,m4⟩)
def wg{l:Let}(h:dS f l=false):l.aF=true\/l.aD=true:=by
 unfold Let.aF Let.aD;cases h1:(l.kind==1) with
 |true=>exact .inl rfl
 |false=>
  cases h2:(l.kind==2) with
  |true=>exact .inr rfl
  |false=>simp only[dS,h1,h2] at h;cases h
def qV{l:Let}(hp:l.aF=true):l.aD=false:=by unfold Let.aF at hp;unfold Let.aD;simp only[dh] at hp;rw[hp];rfl
def agu{ls:ai}{l:Let}(hp:l.aF=true):fj f ls l=xf f ls l:=by unfold Let.aF at hp;simp only[fj,hp,if_true]
def agt{ls:ai}{l:Let}(hp:l.aD=true):fj f ls l=mQ ls l:=by
 unfold Let.aD at hp;have h1:(l.kind==1)=false:=by simp only[dh] at hp;rw[hp];rfl
 simp only[fj,hp,h1,if_true];simp
def YJ{ls:ai}:yy F ls=true↔ls.any (dS F)=false/\zT ls=true/\mI ls=true:=by
 unfold yy;rw[gj,IF];have e1:=ara (F:=F) (ls:=ls);have e2:=alr (f:=(F:Int)) (ls:=ls);constructor
 .intro h;have hk:=fun {l:Let} (hl:l∈ls)=>afD (f:=F) (ls:=ls) (gj.2 h) (ia hl).choose_spec;obtain⟨p1,p2⟩:=e1.1 fun l hl hp=>by rw[<- agu hp];exact h l hl
  obtain⟨c1,c2⟩:=e2.1 fun l hl hc=>by rw[<- agt (f:=F) hc];exact h l hl
  refine⟨fun l hl=>?_,p2,c2⟩;rcases hk hl with hp|hc
  .rw[p1 l hl hp];simp
  rw[c1 l hl hc];simp
 rintro ⟨hb,hr,hc⟩ l hl
 have hb:∀l∈ls,dS F l=false:=fun l hl=>by simpa using hb l hl
 rcases wg (hb l hl) with hp|iz
 .rw[agu hp];exact e1.2 ⟨fun l hl _=>hb l hl,hr⟩ l hl hp
 rw[agt iz];exact e2.2 ⟨fun l hl _=>hb l hl,hc⟩ l hl iz
def auk{o:a_}(hs:o.Pairwise (· < ·))(aB:∀x∈o,x<o.length):∀(k:Nat) (h:k<o.length),o[k]=k:=by
 rw[VK] at hs;have lo:∀(k:Nat) (h:k<o.length),k<=o[k]:=by
  intro k
  induction k with
  |zero=>intro _;omega
  |succ k ih=>intro h;have:=ih aa;have:=hs k (k+1) aa h aa;omega
 have hi:∀(d k:Nat) (h:k<o.length),k+d+1=o.length->o[k]<=k:=by
  intro d
  induction d with
  |zero=>intro k h e;have:=aB _ (List.getElem_mem h);omega
  |succ d ih=>intro k h e;have:=ih (k+1) aa aa;have:=hs k (k+1) h aa aa;omega
 intro k h;have:=lo k h;have:=hi (o.length-k-1) k h aa;omega
def apd{key:Nat->Nat}{p:Nat->Bool}{i:Nat}:∀ {o:a_},o.Pairwise (fun a b=>key a<key b)->(∀x∈o,p x=decide (key x<key i))->(∀x∈o,key x≠key i)->
  (o.take (o.takeWhile p).length++i::o.drop (o.takeWhile p).length).Pairwise (fun a b=>key a<key b):=by
 intro o
 induction o with
 |nil=>intro _ _ _;simp
 |cons a o ih=>
  intro hs hp hn;rw[mB] at hs;have pa:=hp a PI;have na:=hn a PI;by_cases aB:key a<key i
  .have O7:p a=true:=by rw[pa];simpa using aB
   rw[List.takeWhile_cons,aG O7];simp only[dL,List.take_succ_cons,List.drop_succ_cons,nY];rw[mB];refine⟨fun b hb=>?_,ih hs.2 (fun x hx=>hp x (u6 _ hx)) (fun x hx=>hn x (u6 _ hx))⟩;rcases eX.1 hb with hb|hb
   .exact hs.1 b (xD hb)
   rcases ch.1 hb with rfl|hb
   .exact aB
   exact hs.1 b (xC hb)
  have O7:¬p a=true:=by rw[pa];simpa using aB
  rw[List.takeWhile_cons,aC O7];simp only[fv,List.take_zero,List.drop_zero,gR];rw[mB,mB];refine⟨fun b hb=>?_,hs⟩;rcases ch.1 hb with rfl|hb
  .omega
  have:=hs.1 b hb;omega
def Ip{ls:ai}{i:Nat}{l:Let}(h:ls[i]?=some l)(hp:l.aF=true):Cy ls i=dD ls l:=by simp[Cy,h,hp]
structure Da (F:Nat) (ls:ai):Prop where
 fq:∀l∈ls,l.aF=true->vq F ls l
 inj:∀(i j:Nat) (l m:Let),ls[i]?=some l->ls[j]?=some m->l.aF=true->m.aF=true->dD ls l=dD ls m->i=j
def aaW{ls:ai}(h:Da F ls):∀k,k<=ls.length->(pJ ls k).Pairwise (fun a b=>Cy ls a<Cy ls b):=by
 intro k
 induction k with
 |zero=>intro _;simp[pJ]
 |succ k ih=>
  intro hk;have ih:=ih aa;rw[Jd];obtain⟨l,hl⟩:=aN (show k<ls.length by omega);unfold Bz;rw[hl];simp only;cases hp:l.aF with
  |false=>simpa using ih
  |true=>
   simp only[if_true];unfold Be;have hm:=fun {x:Nat} (hx:x∈pJ ls k)=>(aaV (ls:=ls) (k:=k) aa).1 hx;refine apd ih (fun x hx=>?_) (fun x hx e=>?_)
   .obtain⟨h1,m,hm,wQ⟩:=hm hx;rw[Ip hm wQ,Ip hl hp];unfold Ck;rw[hm,hl];simp only;have:=arz (h.fq m (aZ hm) wQ) (h.fq l (aZ hl) hp);cases hb:HZ m l with
    |true=>simpa using this.1 hb
    |false=>symm;rw[decide_eq_false_iff_not];intro hc;rw[this.2 hc] at hb;cases hb
   obtain⟨h1,m,hm,wQ⟩:=hm hx;rw[Ip hm wQ,Ip hl hp] at e;have:=h.inj x k m l hm hl wQ hp e;omega
def ajY{ls:ai}:∀k,k<=ls.length->(pJ ls k).length=aq Let.aF (ls.take k):=by
 intro k
 induction k with
 |zero=>intro _;simp[pJ,aq]
 |succ k ih=>
  intro hk;have ih:=ih aa;rw[Jd];obtain⟨l,hl⟩:=aN (show k<ls.length by omega);unfold Bz;rw[hl];simp only;cases hp:l.aF with
  |false=>rw[jR hl hp];simpa using ih
  |true=>simp only[if_true];rw[ao8,sQ hl hp,ih]
def Db{ls:ai}:(aI ls).length=aq Let.aF ls:=by have:=ajY (ls:=ls) ls.length (cD _);rwa[lR] at this
def Gu{ls:ai}(h:rZ F ls):fp ls (F+1)=(aI ls).length:=by
 rw[Db,acU];apply IH;intro l hl;cases hp:l.aF with
 |false=>simp
 |true=>have:=h l hl hp;simp only[CQ,cJ,l9,iff_true];omega
def Da.rZ{ls:ai}(h:Da F ls):rZ F ls:=fun l hl hp=>⟨(h.fq l hl hp).g0,(h.fq l hl hp).g1⟩
def BA{ls:ai}(h:Da F ls){k i:Nat}(hk:(aI ls)[k]?=some i):∃l,ls[i]?=some l/\l.aF=true/\dD ls l=k:=by
 have hs:((aI ls).map (Cy ls)).Pairwise (· < ·):=by rw[yN];exact aaW h ls.length (cD _)
 have hT:=Gu h.rZ;have aB:∀x∈(aI ls).map (Cy ls),x<((aI ls).map (Cy ls)).length:=by intro x hx;obtain⟨j,hj,rfl⟩:=cV.1 hx;obtain⟨l,hl,hp⟩:=uz.1 hj;rw[Ip hl hp,cU,<- hT];exact Zl (h.fq l (aZ hl) hp)
 obtain⟨dp,jv⟩:=aW.1 hk;have:=auk hs aB k (by rw[cU];exact dp);rw[EI,jv] at this;obtain⟨l,hl,hp⟩:=uz.1 (aZ hk);exact⟨l,hl,hp,by rw[<- Ip hl hp];exact this⟩
def Je{ls:ai}(h:Da F ls){i:Nat}{l:Let}(hl:ls[i]?=some l)(hp:l.aF=true):(aI ls)[dD ls l]?=some i:=by have aB:=Zl (h.fq l (aZ hl) hp);rw[Gu h.rZ] at aB;obtain⟨j,hj⟩:=aN aB;obtain⟨m,hm,wQ,he⟩:=BA h hj;rw[hj,h.inj j i m l hm hl wQ hp he]
def EX{ls:ai}(h:Da F ls){i:Nat}{l:Let}(hl:ls[i]?=some l)(hp:l.aF=true):(aI ls).idxOf i=dD ls l:=by have h1:=Je h hl hp;have h2:=aeo (aZ h1);obtain⟨m,hm,wQ,he⟩:=BA h h2;rw[hl] at hm;cases hm;exact he.symm
def aj3{ls:ai}(h:Da F ls):tQ ls (fp ls (F+1)) ls.length=aI ls:=by
 apply yM
 .rw[aaU,Gu h.rZ]
 intro k h1 h2;simp only[tQ,EI,L5];obtain⟨l,hl,hp,he⟩:=BA h (rR h2);generalize (aI ls)[k]=i at hl;unfold axP;have jC:=(aW.1 hl).1;have hf:(List.range ls.length).find? (ub ls k)=some i:=by
  refine Dw jC (fun j hj=>?_) ?_
  .cases hh:ub ls k j with
   |false=>rfl
   |true=>
    unfold ub at hh;split at hh
    .rename_i m hm;simp only[cJ,dh] at hh;have:=h.inj j i m l hm hl hh.1 hp (by rw[hh.2,he]);omega
    cases hh
  rw[N8 hl hp];simp[he]
 rw[hf];rfl
def UD{ls:ai}(hr:mI ls=true){i:Nat}{l:Let}(hl:ls[i]?=some l)(hc:l.aD=true):hU ls ls.length l.id (!l.over)=some (fQ ls i)/\fQ ls i<ls.length:=by
 have OK:=ZO ls;unfold mI at hr;simp only[cJ,dh,gj,iv] at hr;obtain⟨⟨he,hx⟩,hlen⟩:=hr;obtain⟨hid,hp⟩:=IC.1 hx;have hle:∀id∈fJ ls ls.length,aq (mu id) ls<=2:=fun id _=>by rw[Ui id];have:=BR hp id true;have:=BR hp id false;omega
 have h2:=aaJ _ hle (by rw[OK,hlen];omega) l.id (T9 (aZ hl) hc);have e1:=Ys l.id l.over ls;have b1:=BR hp l.id l.over;have b2:=BR hp l.id (!l.over);obtain⟨x,hx,oQ⟩:=Af.1 (show 0<ls.countP (ti l.id (!l.over)) by show 0<aq (ti l.id (!l.over)) ls;omega);obtain⟨p,jN⟩:=ia hx;obtain⟨x1,x2,x3⟩:=rG.1 oQ;have hpn:=(aW.1 jN).1;have iD:p≠i:=by
  rintro rfl
  rw[hl] at jN;cases jN;revert x3;cases l.over<;>simp
 have uniq:∀(j:Nat) (m:Let),ls[j]?=some m->m.aD=true->m.id=l.id->j≠i->j=p:=by intro j m hj mc mi BT;refine Decidable.byContradiction fun aK=>?_;have o1:=(hp j i m l hj hl mc hc mi BT).1;have o2:=(hp j p m x hj jN mc x1 (by rw[mi,x2]) aK).1;rw[x3] at o2;revert o1 o2;cases m.over<;>cases l.over<;>simp
 have A2:(List.range ls.length).find? (Bi ls i)=some p:=by
  refine Dw hpn (fun j hj=>?_) ?_
  .cases hh:Bi ls i j with
   |false=>rfl
   |true=>
    unfold Bi at hh;simp only[cJ,bne_iff_ne,ne_eq] at hh;obtain⟨h1,h2⟩:=hh;split at h2
    .rename_i m hm;simp only[cJ,dh,hl,nE,ow] at h2;have:=uniq j m hm h2.1 h2.2 h1;omega
    cases h2
  unfold Bi;rw[jN];simp[iD,x1,hl,x2]
 have ho:fQ ls i=p:=by unfold fQ;rw[A2];rfl
 rw[ho];refine⟨?_,hpn⟩;unfold hU;refine Dw hpn (fun j hj=>?_) ?_
 .cases hh:r7 ls l.id (!l.over) j with
  |false=>rfl
  |true=>
   obtain⟨m,hm,mc,mi,mo⟩:=BS hh;have BT:j≠i:=by
    rintro rfl
    rw[hl] at hm;cases hm;revert mo;cases l.over<;>simp
   have:=uniq j m hm mc mi BT;omega
 rw[Kn jN];exact oQ
end
end Go.Abs
