/- A part. -/
import Derived.Test.YtaajncoljnafjaaGreatDoorSa
set_option linter.all false
set_option maxRecDepth 100000
set_option maxHeartbeats 16000000
namespace Go.Abs
section
variable{f:Int}{F:Nat}
structure Let where
 kind:Int
 gate:Int
 aw:Int
 id:Int
 sign:Int
 over:Bool
 deriving DecidableEq
abbrev ai:=List Let
abbrev x_:=List ai
def Let.ps(l:Let):b_:=[.int .i64 l.kind,.int .i64 l.gate,.int .i64 l.aw,.int .i64 l.id,.int .i64 l.sign,.bool l.over]
def Let.aE(l:Let):Bool:=l.kind==1
def Let.aB(l:Let):Bool:=l.kind==2
abbrev dd(ls:ai):PV:=.sl (ls.map Let.ps)
abbrev ez(f:Int)(ls:ai):V:=.agg [.p (.int .i64 f),.p (dd ls)]
abbrev tQ(f:Int)(ls:ai):f_:=[.p (.int .i64 f),.p (dd ls)]
abbrev vi(k:Int):V:=.one (.p (.int .i64 k))
abbrev vb(b:Bool):V:=.one (.p (.bool b))
abbrev ri(k:Int):RV:=.one (.p (.int .i64 k))
abbrev rb(k:Bool):RV:=.one (.p (.bool k))
abbrev aq(p:Let->Bool)(ls:ai):Nat:=ls.countP p
def aL{α:Type}{ls:List α}{k:Nat}(h:k<ls.length):∃l,ls[k]?=some l:=⟨ls[k],by simp[h]⟩
def sQ{p:Let->Bool}{ls:ai}{k:Nat}{l:Let}(h:ls[k]?=some l)(hp:p l=true):aq p (ls.take (k+1))=aq p (ls.take k)+1:=by unfold aq;obtain⟨hk,rfl⟩:=aT.1 h;rw[akD hk,xJ,aao,aD hp]
def j4{p:Let->Bool}{ls:ai}{k:Nat}{l:Let}(h:ls[k]?=some l)(hp:p l=false):aq p (ls.take (k+1))=aq p (ls.take k):=by unfold aq;obtain⟨hk,rfl⟩:=aT.1 h;rw[akD hk,xJ,aao,hp];rfl
def AR(p:Let->Bool)(ls:ai)(k:Nat):aq p (ls.take k)<=k:=oz PN (by rw[iz];exact Nat.min_le_left _ _)
def sR(p:Let->Bool)(ls:ai):aq p ls<=ls.length:=PN
def jf{ls:ai}{k:Nat}{l:Let}(h:ls[k]?=some l):(ls.map Let.ps)[k]?=some l.ps:=by simp[h]
def wrap_add{a b:Nat}(h:a+b<=9223372036854775807):IntKind.i64.wrap ((a:Int)+(b:Int))=((a+b:Nat):Int):=wrap_small (n:=a+b) h
def vm{a:Nat}(h:2*a<=9223372036854775807):IntKind.i64.wrap (2*(a:Int))=((2*a:Nat):Int):=wrap_small (n:=2*a) h
def aag{a b:Nat}(h:b<=a)(h2:a<=9223372036854775807):IntKind.i64.wrap ((a:Int)-(b:Int))=((a-b:Nat):Int):=by have:((a:Int)-(b:Int))=((a-b:Nat):Int):=aa;rw[this];exact wrap_small aa
def IS{a:Nat}(h:1<=a)(h2:a<=9223372036854775807):IntKind.i64.wrap ((a:Int)-1)=((a-1:Nat):Int):=aag (b:=1) h h2
def ZP(x y:Option (b_×a_))(f:Nat):Option (PV×a_):=match x,y with
 |some (x,r),some (y,s)=>some (.fn f x y,r++s)
 |_,_=>none
def awf{x y:b_}{r s:a_}{f:Nat}:ZP (some (x,r)) (some (y,s)) f=some (.fn f x y,r++s):=rfl
def awj{aj:aC}{f:Nat}{a b:f_}:snap aj gG (.hfn f a b)=ZP (collect (snap aj 5) a) (collect (snap aj 5) b) f:=by unfold gG;rw[snap];unfold ZP;rfl
def awk{aj:aC}{n id g off:Nat}:snap aj (n+1) (.aZ id g off)=To (aj id) (collect (snap aj n)) id g off:=by rw[snap];rfl
def awl{aj:aC}{n id g z off len:Nat}:snap aj (n+1) (.hsl id g z off len)=Tp (aj id) (collect (collect (snap aj n))) id g off len:=by rw[snap];rfl
def aJ{b:Bool}(h:b=true:=by kernel_rfl):b=true:=h
def bt{f:Nat}{fn:bd}{args:e_}{r:RV}(hf:S.fns f=some fn)(h:W S .all fn.body (oJ .all fn.results fun v aj=>jk aj v=some r) (tv args) xx)(hp:S.prim f args=none:=by rfl)(hl:args.length<=fn.ntmps:=by exact iH rfl):aK S f args r:=akP hp hf hl h
def eT:¬((2:Int)=0):=ae
def xG(a b:Nat):(a:Int).tmod b=((a%b:Nat):Int):=by rw[Int.tmod_eq_emod_of_nonneg aa];rfl
def jQ(a:Nat):(a:Int).tmod 2=((a%2:Nat):Int):=xG a 2
def fR(a:Nat):(a:Int).tdiv 2=((a/2:Nat):Int):=by rw[akn aa];rfl
def eS{n:Nat}:¬((n:Int)<(n:Int)):=aa
def ps_len(l:Let):l.ps.length=6:=rfl
def ao6{aj:aC}{all:a_}:uN aj all []=some []:=rfl
attribute [go_sem] awj awf awk awl ao6
def pY(g:Int)(l:Let):Bool:=l.aE&&l.gate==g
def mr(g:Int)(l:Let):Bool:=l.aB&&l.id==g
def Zm(f:Int)(ls:ai)(hl:ls.length<=1000000):aK S 48 [ez f ls] (ri (aq Let.aE ls)):=by
 refine bt c48 ?_;simp only[go_sem,i48];refine dD (fun k ak _=>ak 7=.one (.p (dd ls))/\ak 8=vi ls.length/\ak 9=vi k/\ak 3=vi (aq Let.aE (ls.take k))) 0 ls.length (bR _) ?_ ?_
 .simp only[go_sem];exact⟨rfl,rfl⟩
 rintro k ak aj hk ⟨h7,h8,h9,h3⟩
 by_cases aA:k<ls.length
 .obtain⟨l,df⟩:=aL aA;have hi:=jf df;have aM:((k:Int)<(ls.length:Int)):=aa;have hb:=AR (Let.aE) ls k;have w1:=cU (n:=k) aa;have w2:=cU (n:=aq (Let.aE) (ls.take k)) aa;cases hp:(l.kind==1)with
  |true=>have hc:=sQ (p:=Let.aE) df hp;simp only[go_sem,i48_l1,h3,h7,h8,h9,hi,Let.ps,aM,w1,w2,hp,hc];first|exact aA|exact⟨aA,rfl⟩
  |false=>have hc:=j4 (p:=Let.aE) df hp;simp only[go_sem,i48_l1,h3,h7,h8,h9,hi,Let.ps,aM,w1,hp,hc];first|exact aA|exact⟨aA,rfl⟩
 have:k=ls.length:=aa;subst this;rw[lJ]at h3;simp only[go_sem,i48_l1,i48_r2,h3,h8,h9,eS]
def U1(f:Int)(ls:ai)(hl:ls.length<=1000000):aK S 67 [ez f ls] (ri (aq Let.aB ls)):=by
 refine bt c67 ?_;simp only[go_sem,i67];refine dD (fun k ak _=>ak 7=.one (.p (dd ls))/\ak 8=vi ls.length/\ak 9=vi k/\ak 3=vi (aq Let.aB (ls.take k))) 0 ls.length (bR _) ?_ ?_
 .simp only[go_sem];exact⟨rfl,rfl⟩
 rintro k ak aj hk ⟨h7,h8,h9,h3⟩
 by_cases aA:k<ls.length
 .obtain⟨l,df⟩:=aL aA;have hi:=jf df;have aM:((k:Int)<(ls.length:Int)):=aa;have hb:=AR (Let.aB) ls k;have w1:=cU (n:=k) aa;have w2:=cU (n:=aq (Let.aB) (ls.take k)) aa;cases hp:(l.kind==2)with
  |true=>have hc:=sQ (p:=Let.aB) df hp;simp only[go_sem,i67_l1,h3,h7,h8,h9,hi,Let.ps,aM,w1,w2,hp,hc];first|exact aA|exact⟨aA,rfl⟩
  |false=>have hc:=j4 (p:=Let.aB) df hp;simp only[go_sem,i67_l1,h3,h7,h8,h9,hi,Let.ps,aM,w1,hp,hc];first|exact aA|exact⟨aA,rfl⟩
 have:k=ls.length:=aa;subst this;rw[lJ]at h3;simp only[go_sem,i67_l1,i67_r2,h3,h8,h9,eS]
def acj(f:Int)(ls:ai)(hl:ls.length<=1000000):aK S 49 [ez f ls] (ri ((aq Let.aB ls/2:Nat))):=by
 have hb:=sR Let.aB ls;have e1:IntKind.i64.wrap ((aq Let.aB ls:Int).tdiv 2)=((aq Let.aB ls/2:Nat):Int):=by
  have:(aq Let.aB ls:Int).tdiv 2=((aq Let.aB ls/2:Nat):Int):=by rw[akn aa];omega
  rw[this];exact wrap_small aa
 refine bt c49 ?_;simp only[go_sem,i49,s67,eW (U1 f ls hl),e1,(by decide:¬(2:Int)=0)]
def ats(f:Int)(ls:ai)(hl:ls.length<=1000000):aK S 30 [ez f ls] (ri (aq Let.aE ls)):=by
 refine bt c30 ?_;simp only[go_sem,i30];refine dD (fun k ak aj=>ak 1=.one (.aZ 1920000000 1 0)/\aj 1920000000=(1,some (.var (tQ f ls)))/\ak 4=vi k/\ak 3=vi (aq Let.aE (ls.take k))) 0 ls.length (bR _) ?_ ?_
 .simp only[go_sem];first|exact⟨rfl,rfl⟩|exact⟨rfl,rfl,rfl⟩
 rintro k ak aj hk ⟨dE,hB,lh,iL⟩
 by_cases aA:k<ls.length
 .obtain⟨l,df⟩:=aL aA;have hi:=jf df;have aM:((k:Int)<(ls.length:Int)):=aa;have hb:=AR (Let.aE) ls k;have w1:=cU (n:=k) aa;have w2:=cU (n:=aq (Let.aE) (ls.take k)) aa;cases hp:(l.kind==1)with
  |true=>have hc:=sQ (p:=Let.aE) df hp;simp only[go_sem,i30_l1,dE,hB,lh,iL,hi,Let.ps,aM,w1,w2,hp,hc];first|exact aA|exact⟨aA,rfl⟩
  |false=>have hc:=j4 (p:=Let.aE) df hp;simp only[go_sem,i30_l1,dE,hB,lh,iL,hi,Let.ps,aM,w1,hp,hc];first|exact aA|exact⟨aA,rfl⟩
 have:k=ls.length:=aa;subst this;rw[lJ]at iL;simp only[go_sem,i30_l1,i30_r2,dE,hB,lh,iL,eS]
def Z8(f:Int)(ls:ai)(hl:ls.length<=1000000):aK S 29 [ez f ls] (ri (aq Let.aB ls)):=by
 refine bt c29 ?_;simp only[go_sem,i29];refine dD (fun k ak aj=>ak 1=.one (.aZ 1856000000 1 0)/\aj 1856000000=(1,some (.var (tQ f ls)))/\ak 4=vi k/\ak 3=vi (aq Let.aB (ls.take k))) 0 ls.length (bR _) ?_ ?_
 .simp only[go_sem];first|exact⟨rfl,rfl⟩|exact⟨rfl,rfl,rfl⟩
 rintro k ak aj hk ⟨dE,hB,lh,iL⟩
 by_cases aA:k<ls.length
 .obtain⟨l,df⟩:=aL aA;have hi:=jf df;have aM:((k:Int)<(ls.length:Int)):=aa;have hb:=AR (Let.aB) ls k;have w1:=cU (n:=k) aa;have w2:=cU (n:=aq (Let.aB) (ls.take k)) aa;cases hp:(l.kind==2)with
  |true=>have hc:=sQ (p:=Let.aB) df hp;simp only[go_sem,i29_l1,dE,hB,lh,iL,hi,Let.ps,aM,w1,w2,hp,hc];first|exact aA|exact⟨aA,rfl⟩
  |false=>have hc:=j4 (p:=Let.aB) df hp;simp only[go_sem,i29_l1,dE,hB,lh,iL,hi,Let.ps,aM,w1,hp,hc];first|exact aA|exact⟨aA,rfl⟩
 have:k=ls.length:=aa;subst this;rw[lJ]at iL;simp only[go_sem,i29_l1,i29_r2,dE,hB,lh,iL,eS]
def anv(f:Int)(ls:ai)(hl:ls.length<=1000000):aK S 33 [ez f ls] (ri ((aq Let.aB ls/2:Nat))):=by
 have hb:=sR Let.aB ls;have e1:IntKind.i64.wrap ((aq Let.aB ls:Int).tdiv 2)=((aq Let.aB ls/2:Nat):Int):=by
  have:(aq Let.aB ls:Int).tdiv 2=((aq Let.aB ls/2:Nat):Int):=by rw[akn aa];omega
  rw[this];exact wrap_small aa
 refine bt c33 ?_;simp only[go_sem,i33,s29,eW (Z8 f ls hl),e1,(by decide:¬(2:Int)=0)]
def in_r(f:Int)(ls:ai)(hl:ls.length<=1000000)(g:Int):aK S 56 [ez f ls,vi g] (ri (aq (pY g) ls)):=by
 refine bt c56 ?_;simp only[go_sem,i56];refine dD (fun k ak aj=>ak 2=.one (.aZ 3584000000 1 0)/\aj 3584000000=(1,some (.var (tQ f ls)))/\ak 6=vi k/\ak 5=vi (aq (pY g) (ls.take k))/\ak 1=vi g) 0 ls.length (bR _) ?_ ?_
 .simp only[go_sem];first|exact⟨rfl,rfl⟩|exact⟨rfl,rfl,rfl⟩
 rintro k ak aj hk ⟨dE,hB,lh,iL,DW⟩
 by_cases aA:k<ls.length
 .obtain⟨l,df⟩:=aL aA;have hi:=jf df;have aM:((k:Int)<(ls.length:Int)):=aa;have hb:=AR ((pY g)) ls k;have w1:=cU (n:=k) aa;have w2:=cU (n:=aq ((pY g)) (ls.take k)) aa;cases hp:(l.kind==1)with
  |true=>
   cases hq:(l.gate==g)with
   |true=>have hc:=sQ (p:=(pY g)) df (by simp only[pY,Let.aE,hp,hq];rfl);simp only[go_sem,i56_l1,dE,hB,lh,iL,hi,Let.ps,aM,w1,w2,DW,hp,hq,hc];first|exact aA|exact⟨aA,rfl⟩
   |false=>have hc:=j4 (p:=(pY g)) df (by simp only[pY,Let.aE,hp,hq];rfl);simp only[go_sem,i56_l1,dE,hB,lh,iL,hi,Let.ps,aM,w1,DW,hp,hq,hc];first|exact aA|exact⟨aA,rfl⟩
  |false=>have hc:=j4 (p:=(pY g)) df (by simp only[pY,Let.aE,hp];rfl);simp only[go_sem,i56_l1,dE,hB,lh,iL,hi,Let.ps,aM,w1,DW,hp,hc];first|exact aA|exact⟨aA,rfl⟩
 have:k=ls.length:=aa;subst this;rw[lJ]at iL;simp only[go_sem,i56_l1,i56_r2,dE,hB,lh,iL,eS]
def aw3(f:Int)(ls:ai)(hl:ls.length<=1000000)(g:Int):aK S 57 [ez f ls,vi g] (ri (aq (mr g) ls)):=by
 refine bt c57 ?_;simp only[go_sem,i57];refine dD (fun k ak aj=>ak 2=.one (.aZ 3648000000 1 0)/\aj 3648000000=(1,some (.var (tQ f ls)))/\ak 6=vi k/\ak 5=vi (aq (mr g) (ls.take k))/\ak 1=vi g) 0 ls.length (bR _) ?_ ?_
 .simp only[go_sem];first|exact⟨rfl,rfl⟩|exact⟨rfl,rfl,rfl⟩
 rintro k ak aj hk ⟨dE,hB,lh,iL,DW⟩
 by_cases aA:k<ls.length
 .obtain⟨l,df⟩:=aL aA;have hi:=jf df;have aM:((k:Int)<(ls.length:Int)):=aa;have hb:=AR ((mr g)) ls k;have w1:=cU (n:=k) aa;have w2:=cU (n:=aq ((mr g)) (ls.take k)) aa;cases hp:(l.kind==2)with
  |true=>
   cases hq:(l.id==g)with
   |true=>have hc:=sQ (p:=(mr g)) df (by simp only[mr,Let.aB,hp,hq];rfl);simp only[go_sem,i57_l1,dE,hB,lh,iL,hi,Let.ps,aM,w1,w2,DW,hp,hq,hc];first|exact aA|exact⟨aA,rfl⟩
   |false=>have hc:=j4 (p:=(mr g)) df (by simp only[mr,Let.aB,hp,hq];rfl);simp only[go_sem,i57_l1,dE,hB,lh,iL,hi,Let.ps,aM,w1,DW,hp,hq,hc];first|exact aA|exact⟨aA,rfl⟩
  |false=>have hc:=j4 (p:=(mr g)) df (by simp only[mr,Let.aB,hp];rfl);simp only[go_sem,i57_l1,dE,hB,lh,iL,hi,Let.ps,aM,w1,DW,hp,hc];first|exact aA|exact⟨aA,rfl⟩
 have:k=ls.length:=aa;subst this;rw[lJ]at iL;simp only[go_sem,i57_l1,i57_r2,dE,hB,lh,iL,eS]
def dn (ls:ai)(i:Nat):Bool:=aq Let.aE (ls.take i)%2==0
def Vb(f:Int)(ls:ai)(i:Nat)(hl:ls.length<=1000000)(Bh:i<=ls.length):aK S 88 [ez f ls,vi i] (rb (dn ls i)):=by
 refine bt c88 ?_;simp only[go_sem,i88];refine dD (fun k ak aj=>ak 1=vi i/\ak 2=.one (.aZ 5632000000 1 0)/\aj 5632000000=(1,some (.var (tQ f ls)))/\ak 6=vi k/\ak 5=vi (aq Let.aE (ls.take k))) 0 i (bR _) ?_ ?_
 .simp only[go_sem];exact⟨rfl,rfl⟩
 rintro k ak aj hk ⟨h1,dE,hB,lh,iL⟩
 have hb:=AR Let.aE ls k;by_cases aA:k<i
 .obtain⟨l,df⟩:=aL (ls:=ls) (k:=k) aa;have hi:=jf df;have aM:((k:Int)<(i:Int)):=aa;have w1:=cU (n:=k) aa;have w2:=cU (n:=aq Let.aE (ls.take k)) aa;cases hp:(l.kind==1)with
  |true=>have hc:=sQ (p:=Let.aE) df hp;simp only[go_sem,i88_l1,h1,dE,hB,lh,iL,hi,Let.ps,aM,w1,w2,hp,hc];exact aA
  |false=>have hc:=j4 (p:=Let.aE) df hp;simp only[go_sem,i88_l1,h1,dE,hB,lh,iL,hi,Let.ps,aM,w1,hp,hc];exact aA
 have:k=i:=aa;subst this;have e2:((((aq Let.aE (ls.take k))%2:Nat):Int)==0)=dn ls k:=by
  unfold dn;cases h:(aq Let.aE (ls.take k)%2==0)with
  |true=>simp at h |-;omega
  |false=>simp at h |-;omega
 simp only[go_sem,i88_l1,i88_r2,h1,lh,iL,eS,eT,jQ,e2]
def arU(a b:Let):aK S 86 [.agg (a.ps.map .p),.agg (b.ps.map .p)] (rb (decide (a.gate<b.gate)||(a.gate==b.gate&&decide (a.aw<b.aw)))):=by
 refine bt c86 ?_;by_cases h1:a.gate<b.gate
 .simp only[go_sem,i86,Let.ps,h1]
 cases h2:(a.gate==b.gate)with
 |true=>simp only[go_sem,i86,Let.ps,h1,h2]
 |false=>simp only[go_sem,i86,Let.ps,h1,h2]
def dx(n i:Nat)(fw:Bool):Nat:=if fw then 2*i else 2*((i+n-1)%n)+1
def Un(f:Int)(ls:ai)(i:Nat)(fw:Bool)(hl:ls.length<=1000000)(hi:i<ls.length):aK S 87 [ez f ls,vi i,vb fw] (ri (dx ls.length i fw)):=by
 refine bt c87 ?_;cases fw with
 |true=>have e:IntKind.i64.wrap (2*(i:Int))=((2*i:Nat):Int):=wrap_small (n:=2*i) aa;simp only[go_sem,i87,e,dx]
 |false=>
  have w1:IntKind.i64.wrap ((i:Int)+(ls.length:Int))=((i+ls.length:Nat):Int):=wrap_small (n:=i+ls.length) aa;have w2:IntKind.i64.wrap (((i+ls.length:Nat):Int)-1)=((i+ls.length-1:Nat):Int):=by have:(((i+ls.length:Nat):Int)-1)=((i+ls.length-1:Nat):Int):=aa;rw[this];exact wrap_small aa
  have e1:=xG (i+ls.length-1) ls.length;have hm:=de (i+ls.length-1) (show 0<ls.length by omega);have w3:IntKind.i64.wrap (2*(((i+ls.length-1)%ls.length:Nat):Int))=((2*((i+ls.length-1)%ls.length):Nat):Int):=wrap_small (n:=2*((i+ls.length-1)%ls.length)) aa;have w4:=cU (n:=2*((i+ls.length-1)%ls.length)) aa;have hz:¬((ls.length:Int)=0):=aa;simp only[go_sem,i87,w1,w2,e1,w3,w4,hz,dx]
def Bt(ls:ai)(i j:Nat):Bool:=j !=i&&(match ls[j]? with|some l=>l.aB&&l.id==((ls[i]?).map Let.id).getD 0|none=>false)
def fM(ls:ai)(i:Nat):Nat:=((List.range ls.length).find? (Bt ls i)).getD i
def DR{p:Nat->Bool}:∀ {n k:Nat},k<n->(∀j,j<k->p j=false)->p k=true->(List.range n).find? p=some k:=by intro n k hk hn hp;exact List.find?_range_eq_some.2 ⟨hp,by simpa using hk,fun j hj=>by simp[hn j hj]⟩
def JZ{p:Nat->Bool}{n:Nat}(hn:∀j,j<n->p j=false):(List.range n).find? p=none:=by rw[Jb];intro x hx;simp[hn x (by simpa using hx)]
def atg(f:Int)(ls:ai)(i:Nat)(hl:ls.length<=1000000)(Bh:i<ls.length):aK S 89 [ez f ls,vi i] (ri (fM ls i)):=by
 obtain⟨li,vN⟩:=aL Bh;have gD:=jf vN;have key:∀j l,ls[j]?=some l->Bt ls i j=(j !=i&&(l.aB&&l.id==li.id)):=fun j l h=>by simp[Bt,h,vN]
 refine bt c89 ?_;simp only[go_sem,i89];refine dD (fun k ak aj=>ak 1=vi i/\ak 2=.one (.aZ 5696000000 1 0)/\aj 5696000000=(1,some (.var (tQ f ls)))/\ak 5=vi k/\ ∀j,j<k->Bt ls i j=false) 0 ls.length (bR _) ?_ ?_
 .simp only[go_sem];exact⟨rfl,fun j h=>absurd h (o9 j)⟩
 rintro k ak aj hk ⟨h1,dE,hB,lh,hn⟩
 by_cases aA:k<ls.length
 .obtain⟨l,df⟩:=aL aA;have hi:=jf df;have aM:((k:Int)<(ls.length:Int)):=aa;have w1:=cU (n:=k) aa;have FW:=key k l df;have step:Bt ls i k=false->∀j,j<k+1->Bt ls i j=false:=fun h j hj=>by
   rcases oD.1 hj with h2|rfl
   .exact hn j h2
   exact h
  by_cases hki:k=i
  .have hb:((k:Int)!=(i:Int))=false:=by simp[hki]
   have hs:=step (by rw[FW];simp[hki]);simp only[go_sem,i89_l1,h1,dE,hB,lh,aM,w1,hb];exact⟨ah,aA,hs⟩
  have hb:((k:Int)!=(i:Int))=true:=by simp;omega
  have bK:(k !=i)=true:=by simp[hki]
  cases hp:(l.kind==2)with
  |false=>have hs:=step (by rw[FW,bK,Let.aB,hp];rfl);simp only[go_sem,i89_l1,h1,dE,hB,lh,hi,Let.ps,aM,w1,hb,hp];exact⟨ah,aA,hs⟩
  |true=>
   cases hq:(l.id==li.id)with
   |false=>have hs:=step (by rw[FW,bK,Let.aB,hp,hq];rfl);simp only[go_sem,i89_l1,h1,dE,hB,lh,hi,gD,Let.ps,aM,w1,hb,hp,hq];exact⟨ah,aA,hs⟩
   |true=>
    have hf:fM ls i=k:=by unfold fM;rw[DR aA hn (by rw[FW,bK,Let.aB,hp,hq];rfl)];rfl
    simp only[go_sem,i89_l1,h1,dE,hB,lh,hi,gD,Let.ps,aM,hb,hp,hq,hf];show um _ _ _=true
    kernel_rfl
 have:k=ls.length:=aa;subst this;have hf:fM ls i=i:=by unfold fM;rw[JZ hn];rfl
 simp only[go_sem,i89_l1,i89_r2,h1,dE,hB,lh,eS,hf]
abbrev CL(l:a_):PV:=.sl (l.map fun n:Nat=>[.int .i64 (n:Int)])
def at_r(l:a_)(n k0:Nat)(hl:l.length<=1000000)(Cg:l[k0]?=some n)(hn:∀j,j<k0->l[j]? ≠some n):aK S 90 [.one (.p (CL l)),vi n] (ri k0):=by
 have hk0l:=(aT.1 Cg).1;refine bt c90 ?_;simp only[go_sem,i90];refine dD (fun k ak aj=>ak 0=.one (.p (CL l))/\ak 1=vi n/\ak 5=vi k) 0 k0 (bR _) ?_ ?_
 .simp only[go_sem];rfl
 rintro k ak aj hk ⟨h0,h1,h5⟩
 have aM:((k:Int)<(l.length:Int)):=aa;have w1:=cU (n:=k) aa;obtain⟨m,hm⟩:=aL (ls:=l) (k:=k) aa;have hi:(l.map fun n:Nat=>[PV.int .i64 (n:Int)])[k]?=some [.int .i64 (m:Int)]:=by simp[hm]
 by_cases aA:k<k0
 .have aH:((m:Int)==(n:Int))=false:=by
   have:m≠n:=fun e=>hn k aA (by rw[hm,e]);simp;omega
  simp only[go_sem,i90_l1,h0,h1,h5,aM,w1,hi,aH];exact aA
 have:k=k0:=aa;subst this;have e:m=n:=by rw[hm]at Cg;exact pz Cg
 subst e;simp only[go_sem,i90_l1,h0,h1,h5,aM,hi]
abbrev K8(l:Let):V:=.agg [.p (.int .i64 l.kind),.p (.int .i64 l.gate),.p (.int .i64 l.aw),.p (.int .i64 l.id),.p (.int .i64 l.sign),.p (.bool l.over)]
def Ir(a b:Let):Bool:=decide (a.gate<b.gate)||(a.gate==b.gate&&decide (a.aw<b.aw))
def arV(a b:Let):aK S 86 [K8 a,K8 b] (rb (Ir a b)):=arU a b
abbrev nP(o:a_):s_:=o.map fun n:Nat=>[PV.int .i64 (n:Int)]
def kN{o:a_}{k n:Nat}(h:o[k]?=some n):(nP o)[k]?=some [.int .i64 (n:Int)]:=by simp[h]
def CB(ls:ai)(i j:Nat):Bool:=match ls[j]?,ls[i]? with
 |some a,some b=>Ir a b
 |_,_=>false
def Bo(ls:ai)(o:a_)(i:Nat):a_:=o.take (o.takeWhile (CB ls i)).length++i::o.drop (o.takeWhile (CB ls i)).length
def BJ(ls:ai)(o:a_)(i:Nat):a_:=match ls[i]? with
 |some l=>if l.aE then Bo ls o i else o
 |none=>o
def aG(ls:ai):a_:=(List.range ls.length).foldl (BJ ls) []
def pJ(ls:ai)(k:Nat):a_:=(List.range k).foldl (BJ ls) []
def Jw(ls:ai)(k:Nat):pJ ls (k+1)=BJ ls (pJ ls k) k:=by unfold pJ;rw[yX,Jd];rfl
def alR{ls:ai}{o:a_}{i:Nat}{x:Nat}(h:x∈BJ ls o i):x∈o\/x=i:=by
 unfold BJ at h;split at h
 .split at h
  .unfold Bo at h;rcases eO.1 h with h|h
   .exact .inl (yV h)
   rcases bJ.1 h with h|h
   .exact .inr h
   exact .inl (xN h)
  exact .inl h
 exact .inl h
def Qs{ls:ai}:∀ {k x:Nat},x∈pJ ls k->x<k:=by
 intro k
 induction k with
 |zero=>intro x h;simp[pJ]at h
 |succ k ih=>
  intro x h;rw[Jw]at h;rcases alR h with h|h
  .have:=ih h;omega
  omega
def xT(ls:ai):∀k,(pJ ls k).length<=k:=by
 intro k
 induction k with
 |zero=>simp[pJ]
 |succ k ih=>
  rw[Jw];unfold BJ;split
  .split
   .unfold Bo;simp only[fS,dI,iz,lH];omega
   omega
  omega
def Gj(site:Nat)(o:a_)(v:V)(aj:aC):Prop:=(o=[]/\v=.one (.p .nils))\/(o≠[]/\ ∃g,v=.one (.hsl site g 1 0 o.length)/\aj site=(g,some (.arr 3 1 (nP o))))
def alT{o:a_}{i K:Nat}{ak:Env}{aj:aC}{Q:dX}(ho:Gj 3712576640 o (ak 3) aj)(h4:ak 4=vi i)(h5:ak 5=vi K)(hK:K<=o.length)(hl:o.length<=1000000)
  (hq:∀aF ao,aF 1=ak 1->aF 4=ak 4->ao 3712000000=aj 3712000000->Gj 3712576640 (o.take K++i::o.drop K) (aF 3) ao->Q .normal aF ao):
  W S .all i58_r2 Q ak aj:=by
 rcases ho with⟨rfl,h3⟩|⟨ho,g,h3,hC⟩
 .have hK0:K=0:=by simpa using hK
  subst hK0;simp only[go_sem,i58_r2,h3,h4,h5,gE,iG];refine⟨ah,hq _ _ ?_ ?_ ?_ (.inr ⟨af,(aj 3712576640).1+1,?_,?_⟩)⟩;all_goals simp only[go_sem]
 have ll:∀n:Nat,n<=1000001->n*8<=140737488355328:=fun n hn=>aa;by_cases hK0:K=0
 .subst hK0;have ht:List.take o.length (nP o)=nP o:=gK af;have ke:=ll (1+o.length) aa;simp only[go_sem,i58_r2,h3,h4,h5,hC,ht,ke,gE,iG];refine⟨ah,hq _ _ ?_ ?_ ?_ (.inr ⟨af,g+1,?_,?_⟩)⟩;all_goals simp only[go_sem]
  simp;omega
 have ht:(List.take K (nP o)).length=K:=by simp;omega
 have htt:List.take K (List.take K (nP o))=List.take K (nP o):=by rw[GI,Nat.min_self]
 have ny:List.take (K+1) (List.take K (nP o)++[[PV.int .i64 (i:Int)]])=List.take K (nP o)++[[PV.int .i64 (i:Int)]]:=gK (by simp;omega);have htd:List.take (o.length-K) (List.drop K (nP o))=List.drop K (nP o):=gK af;have hld:(List.drop K (nP o)).length=o.length-K:=af;have rH:(List.take K (nP o)++[[PV.int .i64 (i:Int)]]).length=K+1:=by simp;omega
 have ke:=ll K aa;have uY:=ll (K+1) aa;have hr3:=ll (K+1+(o.length-K)) aa;have hle:K+(o.length-K)<=o.length:=aa;simp only[go_sem,i58_r2,h3,h4,h5,hC,hK,ht,hK0,ke,uY,hr3,htt,ny,htd,hld,rH,hle,gE,iG];refine⟨ah,hq _ _ ?_ ?_ ?_ (.inr ⟨af,g+1,?_,?_⟩)⟩;all_goals simp only[go_sem]
 .simp;omega
 simp
def awV{α:Type}{p:α->Bool}{l:List α}{K:Nat}(hK:K<=l.length)(h1:∀j x,j<K->l[j]?=some x->p x=true)(h2:∀x,l[K]?=some x->p x=false):(l.takeWhile p).length=K:=by
 induction l generalizing K with
 |nil=>simp at hK |-;omega
 |cons a l ih=>
  cases K with
  |zero=>have:=h2 a rfl;simp[List.takeWhile,this]
  |succ K=>have:=h1 0 a aa rfl;simp only[List.takeWhile,this,dI];rw[ih (by simpa using hK) (fun j x hj hx=>h1 (j+1) x aa (by simpa using hx)) (fun x hx=>h2 x (by simpa using hx))]
def alW{ls:ai}{f:Int}{o:a_}{i:Nat}{li:Let}{ak:Env}{aj:aC}{Q:dX}(ho:Gj 3712576640 o (ak 3) aj)(h1:ak 1=.one (.aZ 3712000000 1 0))(hB:aj 3712000000=(1,some (.var (tQ f ls))))(h4:ak 4=vi i)(h5:ak 5=vi 0)
  (vN:ls[i]?=some li) (aA:∀x∈o,x<ls.length) (hl:o.length<=1000000)
  (hq:∀aF ao,aF 1=ak 1->aF 4=ak 4->ao 3712000000=aj 3712000000->Gj 3712576640 (Bo ls o i) (aF 3) ao->Q .normal aF ao):
  W S .all (.loop i58_l1) (mY 2 (Ai S .all i58_r2 Q)) ak aj:=by
 have gD:=jf vN;refine dD (fun k aF ao=>aF 1=ak 1/\aF 4=ak 4/\aF 3=ak 3/\ao=aj/\aF 5=vi k/\ ∀j x,j<k->o[j]?=some x->CB ls i x=true) 0 o.length (bR _) ?_ ?_
 .exact⟨rfl,rfl,rfl,rfl,h5,fun j x hj=>absurd hj (o9 j)⟩
 rintro k aF ao hk ⟨j6,vG,rD,rfl,FJ,hp⟩
 rw[h1]at j6;rw[h4]at vG;have fin:∀e:Env,e 1=aF 1->e 4=aF 4->e 3=aF 3->e 5=aF 5->(∀x,o[k]?=some x->CB ls i x=false)->W S .all i58_r2 Q e ao:=by
  intro e e1 e4 e3 e5 jr;have hK:=awV hk hp jr;have lX:Gj 3712576640 o (e 3) ao:=by rw[e3,rD];exact ho
  refine alT (i:=i) (K:=k) lX (by rw[e4,vG]) (by rw[e5,FJ]) hk hl ?_;intro dy bn q1 q2 q3 q4;refine hq dy bn (by rw[q1,e1,j6,h1]) (by rw[q2,e4,vG,h4]) q3 ?_;unfold Bo;rw[hK];exact q4
 by_cases df:k<o.length
 .obtain⟨x,hx⟩:=aL df;have xn:=aA x (aV hx);obtain⟨lx,hlx⟩:=aL xn;have jT:=jf hlx;have FZ:=kN hx;have aM:((k:Int)<(o.length:Int)):=aa;have w1:=cU (n:=k) aa;have afq:CB ls i x=Ir lx li:=by simp[CB,hlx,vN]
  have SO:=arV lx li;rcases ho with⟨rfl,_⟩|⟨ho,g,h3,hC⟩
  .simp at df
  rw[h3]at rD;cases hb:Ir lx li with
  |true=>
   rw[hb]at SO;simp only[go_sem,i58_l1,h1,h3,h4,j6,rD,vG,FJ,hB,hC,aM,FZ,jT,gD,Let.ps,df,w1,s86,mZ SO];refine⟨ah,fun j y hj hy=>?_⟩;rcases oD.1 hj with hj|rfl
   .exact hp j y hj hy
   rw[hx]at hy;cases hy;rw[afq,hb]
  |false=>rw[hb]at SO;simp only[go_sem,i58_l1,j6,rD,vG,FJ,hB,hC,aM,FZ,jT,gD,Let.ps,df,s86,mZ SO];refine⟨ah,fin _ ?_ ?_ ?_ ?_ (fun y hy=>by rw[hx]at hy;cases hy;rw[afq,hb])⟩;all_goals simp only[go_sem,j6,rD,vG,FJ]
 have:k=o.length:=aa;subst this;have dR:∀x,o[o.length]?=some x->CB ls i x=false:=fun x hx=>by simp at hx
 rcases ho with⟨rfl,h3⟩|⟨ho,g,h3,hC⟩
 .rw[h3]at rD;simp only[go_sem,i58_l1,rD,FJ,eS];refine⟨ah,fin _ ?_ ?_ ?_ ?_ dR⟩;all_goals simp only[go_sem,j6,rD,vG,FJ]
 rw[h3]at rD;simp only[go_sem,i58_l1,rD,FJ,eS];refine⟨ah,fin _ ?_ ?_ ?_ ?_ dR⟩;all_goals simp only[go_sem,j6,rD,vG,FJ]
def aq9(ls:ai)(o:a_)(i:Nat):(Bo ls o i).length=o.length+1:=by unfold Bo;simp only[fS,dI,iz,lH];have:=(List.takeWhile_sublist (CB ls i) (l:=o)).length_le;omega
def Lq{aj:aC}{id g z len ty:Nat}{es:s_}(h:aj id=(g,some (.arr ty z es)))(hl:len=es.length):jk aj (.one (.hsl id g z 0 len))=some (.one (.own ty z es)):=by subst hl;simp only[jk,tW,oL,nC,jW,h,bY,and_self,if_true,lJ];rfl
def Qt(o:a_):RC:=if o=[]then .p .nils else .own 3 1 (nP o)
def al1(f:Int)(ls:ai)(hl:ls.length<=1000000):aK S 58 [ez f ls] (.one (Qt (aG ls))):=by
 refine bt c58 ?_;simp only[go_sem,i58];refine dD (fun k ak aj=>ak 1=.one (.aZ 3712000000 1 0)/\aj 3712000000=(1,some (.var (tQ f ls)))/\ak 4=vi k/\Gj 3712576640 (pJ ls k) (ak 3) aj) 0 ls.length (bR _) ?_ ?_
 .simp only[go_sem];exact⟨rfl,.inl ⟨rfl,rfl⟩⟩
 rintro k ak aj hk ⟨h1,hB,h4,ho⟩
 have eK:=xT ls k;by_cases aA:k<ls.length
 .obtain⟨l,df⟩:=aL aA;have hi:=jf df;have aM:((k:Int)<(ls.length:Int)):=aa;have w1:=cU (n:=k) aa;have hs:=Jw ls k;unfold BJ at hs;rw[df]at hs;cases hp:(l.kind==1)with
  |false=>
   have ml:(l.kind !=1)=true:=by simp[bne,hp]
   simp only[Let.aE,hp]at hs;have hs:pJ ls (k+1)=pJ ls k:=hs;simp only[go_sem,i58_l4,i58_r3,h1,hB,h4,hi,Let.ps,aM,ml,w1,hs,aA];rcases ho with⟨e,h3⟩|⟨ho,g,h3,hC⟩
   .exact .inl ⟨e,by simp only[go_sem,h3]⟩
   exact .inr ⟨ho,g,by simp only[go_sem,h3],by simp only[go_sem,hC]⟩
  |true=>
   have ml:(l.kind !=1)=false:=by simp[bne,hp]
   simp only[Let.aE,hp]at hs;have hs:pJ ls (k+1)=Bo ls (pJ ls k) k:=hs;simp only[go_sem,i58_l4,h1,hB,h4,hi,Let.ps,aM,ml];refine alW (ls:=ls) (f:=f) (o:=pJ ls k) (i:=k) ?_ ?_ ?_ ?_ ?_ df (fun x hx=>Nat.lt_trans (Qs hx) aA) aa ?_
   .rcases ho with⟨e,h3⟩|⟨ho,g,h3,hC⟩
    .exact .inl ⟨e,by simp only[go_sem,h3]⟩
    exact .inr ⟨ho,g,by simp only[go_sem,h3],by simp only[go_sem,hC]⟩
   .simp only[go_sem,h1]
   .simp only[go_sem,hB]
   .simp only[go_sem,h4]
   .rfl
   intro aF ao q1 q2 q3 q4;simp only[go_sem,h1,h4,hB]at q1 q2 q3;simp only[go_sem,i58_r3,q1,q2,q3,w1,hs,aA];rcases q4 with⟨e,h3⟩|⟨ho,g,h3,hC⟩
   .exact .inl ⟨e,by simp only[go_sem,h3]⟩
   exact .inr ⟨ho,g,by simp only[go_sem,h3],by simp only[go_sem,hC]⟩
 have:k=ls.length:=aa;subst this;have he:aG ls=pJ ls ls.length:=rfl;rw[<-he]at ho;rcases ho with⟨e,h3⟩|⟨ho,g,h3,hC⟩
 .simp only[go_sem,i58_l4,i58_r5,h1,hB,h3,h4,eS,Qt,e]
 simp only[go_sem,i58_l4,i58_r5,h1,hB,h3,h4,eS,Qt,ho];exact Lq hC af
def iw(ls:ai)(ax:a_)(d:Nat):Nat:=
 if 2*ls.length<=d then
  if d%2=0 then dx ls.length (ax.getD (((d-2*ls.length)/2+1)%ax.length) 0) (!dn ls (ax.getD (((d-2*ls.length)/2+1)%ax.length) 0))
  else dx ls.length (ax.getD ((d-2*ls.length)/2) 0) (dn ls (ax.getD ((d-2*ls.length)/2) 0))
 else
  let fw:=d%2==0
  let v:=if fw then(d/2+1)%ls.length else d/2
  match ls[v]? with
  |none=>0
  |some l=>if l.kind==2 then dx ls.length (fM ls v) (fw==(l.over==(l.sign==1)))
   else if dn ls v==fw then 2*ls.length+2*ax.idxOf v else 2*ls.length+2*((ax.idxOf v+ax.length-1)%ax.length)+1
def ahX{ls:ai}{i:Nat}(hi:i<ls.length):fM ls i<ls.length:=by
 unfold fM;cases h:(List.range ls.length).find? (Bt ls i)with
 |none=>exact hi
 |some k=>
  have:=Jf h
  simpa using this
def Jr{n i:Nat}{fw:Bool}(hi:i<n):dx n i fw<2*n:=by unfold dx;have:=de (i+n-1) (show 0<n by omega);split<;>omega
def TD{ls:ai}{ax:a_}{d:Nat}(kI:∀x∈ax,x<ls.length)(hp:∀v l,ls[v]?=some l->(l.kind==2)=false->v∈ax)(hd:d<2*ls.length+2*ax.length):iw ls ax d<2*ls.length+2*ax.length:=by
 have Ed:∀k,k<ax.length->ax.getD k 0<ls.length:=fun k hk=>by obtain⟨x,hx⟩:=aL hk;rw[dC,hx];exact kI x (aV hx)
 unfold iw;by_cases h:2*ls.length<=d
 .rw[aD h];have hm:=de ((d-2*ls.length)/2+1) (show 0<ax.length by omega);by_cases h2:d%2=0
  .rw[aD h2];exact EZ (Jr (Ed _ hm)) aa
  rw[au h2];exact EZ (Jr (Ed _ aa)) aa
 rw[au h];have hn:0<ls.length:=aa;have hv:(if(d%2==0)=true then(d/2+1)%ls.length else d/2)<ls.length:=by
  split
  .exact de _ hn
  omega
 simp only;generalize(if(d%2==0)=true then(d/2+1)%ls.length else d/2)=v at hv;obtain⟨l,hl⟩:=aL hv;rw[hl];simp only;by_cases hk:(l.kind==2)=true
 .rw[aD hk];exact EZ (Jr (ahX hv)) aa
 rw[au hk];have jL:=hp v l hl (by simpa using hk);have Ee:ax.idxOf v<ax.length:=PQ.2 jL;have hm:=de (ax.idxOf v+ax.length-1) (show 0<ax.length by omega);split<;>omega
def aqY{ax:a_}{v:Nat}:∀j,j<ax.idxOf v->ax[j]? ≠some v:=by
 induction ax with
 |nil=>intro j h;simp at h
 |cons a ax ih=>
  intro j h e;rw[TY]at h;by_cases ha:a=v
  .simp[ha]at h
  have hb:(a==v)=false:=by simpa using ha
  rw[hb]at h;cases j with
  |zero=>simp at e;exact ha e
  |succ j=>exact ih j (by simp at h;omega) (by simpa using e)
def afJ{ax:a_}{v:Nat}(h:v∈ax):ax[ax.idxOf v]?=some v:=by have hl:ax.idxOf v<ax.length:=PQ.2 h;rw[rS hl,aat hl]
def axm(f:Int)(ls:ai)(ax:a_)(d:Nat)(hl:ls.length<=1000000)(gT:ax.length<=1000000)(kI:∀x∈ax,x<ls.length)(hp:∀v l,ls[v]?=some l->(l.kind==2)=false->v∈ax)
  (hd:d<2*ls.length+2*ax.length):aK S 59 [ez f ls,.one (.p (CL ax)),vi d] (ri (iw ls ax d)):=by
 have m1:IntKind.i64.wrap (2*(ls.length:Int))=((2*ls.length:Nat):Int):=wrap_small (n:=2*ls.length) aa;unfold iw;by_cases h:2*ls.length<=d
 .rw[aD h];refine bt c59 ?_;have h':((2*ls.length:Nat):Int)<=(d:Int):=aa;have m2:IntKind.i64.wrap ((d:Int)-((2*ls.length:Nat):Int))=((d-2*ls.length:Nat):Int):=by
   have:((d:Int)-((2*ls.length:Nat):Int))=((d-2*ls.length:Nat):Int):=aa;rw[this];exact wrap_small aa
  have m3:=wrap_small (n:=(d-2*ls.length)/2) aa;have hm:=de ((d-2*ls.length)/2+1) (show 0<ax.length by omega);have pP:¬((ax.length:Int)=0):=aa;by_cases h2:d%2=0
  .rw[aD h2];have m4:=cU (n:=(d-2*ls.length)/2) aa;have jB:(((d%2:Nat):Int)==0)=true:=by simp[h2]
   have m5:=xG ((d-2*ls.length)/2+1) ax.length;obtain⟨v,hv⟩:=aL hm;have qO:ax.getD (((d-2*ls.length)/2+1)%ax.length) 0=v:=by rw[dC,hv];rfl
   rw[qO];have tq:=kI v (aV hv);have Cl:=kN hv;have pd:=Vb f ls v hl aa;have pa:=Un f ls v (!dn ls v) hl tq;simp only[go_sem,i59,m1,m2,m3,m4,m5,h',jB,Cl,pP,jQ,fR,eT,s88,s87,mZ pd,ir pa];exact aJ
  rw[au h2];have jB:(((d%2:Nat):Int)==0)=false:=by simp;omega
  obtain⟨v,hv⟩:=aL (ls:=ax) (k:=(d-2*ls.length)/2) aa;have qO:ax.getD ((d-2*ls.length)/2) 0=v:=by rw[dC,hv];rfl
  rw[qO];have tq:=kI v (aV hv);have Cl:=kN hv;have pd:=Vb f ls v hl aa;have pa:=Un f ls v (dn ls v) hl tq;simp only[go_sem,i59,m1,m2,m3,h',jB,Cl,jQ,fR,eT,s88,s87,mZ pd,ir pa];exact aJ
 rw[au h];have h':¬(((2*ls.length:Nat):Int)<=(d:Int)):=aa;have m3:=wrap_small (n:=d/2) aa;have iV:¬((ls.length:Int)=0):=aa;have pP:=de (d/2+1) (show 0<ls.length by omega);have m4:=cU (n:=d/2) aa;have m5:=xG (d/2+1) ls.length;have body:∀v:Nat,v<ls.length->∀fw:Bool,v=(if fw then(d/2+1)%ls.length else d/2)->(d%2==0)=fw->(((d%2:Nat):Int)==0)=fw->aK S 59 [ez f ls,.one (.p (CL ax)),vi d] (ri ((match ls[v]? with
   |none=>0
   |some l=>if l.kind==2 then dx ls.length (fM ls v) (fw==(l.over==(l.sign==1)))
    else if dn ls v==fw then 2*ls.length+2*ax.idxOf v else 2*ls.length+2*((ax.idxOf v+ax.length-1)%ax.length)+1:Nat):Int)):=by
  intro v hv fw fK zL r8;obtain⟨l,jM⟩:=aL hv;have iD:=jf jM;rw[jM];simp only;refine bt c59 ?_;cases hk:(l.kind==2)with
  |true=>
   have po:=atg f ls v hl hv;have pa:=Un f ls (fM ls v) (fw==(l.over==(l.sign==1))) hl (ahX hv);cases fw with
   |true=>have fK:v=(d/2+1)%ls.length:=fK;rw[fK]at iD po pa |-;simp only[go_sem,i59,m1,m3,m4,m5,h',r8,iD,Let.ps,iV,hk,jQ,fR,eT,s89,s87,ir po,ir pa];exact aJ
   |false=>have fK:v=d/2:=fK;rw[fK]at iD po pa |-;simp only[go_sem,i59,m1,m3,h',r8,iD,Let.ps,hk,jQ,fR,eT,s89,s87,ir po,ir pa];exact aJ
  |false=>
   have jL:=hp v l jM hk;have Ee:ax.idxOf v<ax.length:=PQ.2 jL;have pat:=at_r ax v (ax.idxOf v) gT (afJ jL) aqY;have pd:=Vb f ls v hl aa;have Of:¬((ax.length:Int)=0):=aa;have j8:=de (ax.idxOf v+ax.length-1) (show 0<ax.length by omega);have n1:=vm (a:=ax.idxOf v) aa;have n2:=wrap_add (a:=2*ls.length) (b:=2*ax.idxOf v) aa;have n3:=wrap_add (a:=ax.idxOf v) (b:=ax.length) aa;have n4:=IS (a:=ax.idxOf v+ax.length) aa aa;have n5:=xG (ax.idxOf v+ax.length-1) ax.length;have n6:=vm (a:=(ax.idxOf v+ax.length-1)%ax.length) aa;have n7:=wrap_add (a:=2*ls.length) (b:=2*((ax.idxOf v+ax.length-1)%ax.length)) aa;have n8:=cU (n:=2*ls.length+2*((ax.idxOf v+ax.length-1)%ax.length)) aa;cases fw with
   |true=>
    have fK:v=(d/2+1)%ls.length:=fK;cases ft:dn ls v with
    |true=>rw[ft]at pd;subst fK;simp only[go_sem,i59,m1,m3,m4,m5,h',r8,iD,Let.ps,iV,hk,jQ,fR,eT,s90,s88,eW pat,eD pd,n1,n2]
    |false=>rw[ft]at pd;subst fK;simp only[go_sem,i59,m1,m3,m4,m5,h',r8,iD,Let.ps,iV,hk,jQ,fR,eT,s90,s88,eW pat,eD pd,n3,n4,n5,n6,n7,n8,Of]
   |false=>
    have fK:v=d/2:=fK;cases ft:dn ls v with
    |true=>rw[ft]at pd;subst fK;simp only[go_sem,i59,m1,m3,h',r8,iD,Let.ps,hk,jQ,fR,eT,s90,s88,eW pat,eD pd,n3,n4,n5,n6,n7,n8,Of]
    |false=>rw[ft]at pd;subst fK;simp only[go_sem,i59,m1,m3,h',r8,iD,Let.ps,hk,jQ,fR,eT,s90,s88,eW pat,eD pd,n1,n2]
 have tq:(if(d%2==0)=true then(d/2+1)%ls.length else d/2)<ls.length:=by
  split
  .exact pP
  omega
 have:=body _ tq (d%2==0) rfl rfl (by cases hq:(d%2==0)<;>simp at hq |- <;>omega);exact this
abbrev bP(o:m_):s_:=o.map fun b:Bool=>[PV.bool b]
def tO{o:m_}{k:Nat}{b:Bool}(h:o[k]?=some b):(bP o)[k]?=some [.bool b]:=by simp[h]
def Jy(o:m_)(k:Nat)(b:Bool):(bP o).set k [.bool b]=bP (o.set k b):=by simp[Mi]
def fE(next:Nat->Nat):Nat->Nat->m_->a_×m_
 |0,_,seen=>([],seen)
 |k+1,x,seen=>if seen.getD x true then([],seen)else(x::(fE next k (next x) (seen.set x true)).1,(fE next k (next x) (seen.set x true)).2)
def Aj(s:m_):Nat:=s.countP (fun b=> !b)
def Py{s:m_}{x:Nat}(h:s[x]?=some false):Aj (s.set x true)+1=Aj s:=by
 induction s generalizing x with
 |nil=>simp at h
 |cons b s ih=>
  cases x with
  |zero=>simp at h;subst h;simp[Aj]
  |succ x=>have:=ih (x:=x) (by simpa using h);unfold Aj at this |-;simp only[List.set_cons_succ,xK];omega
def axv(next:Nat->Nat):∀(k x:Nat) (s:m_),(fE next k x s).2.length=s.length:=by
 intro k
 induction k with
 |zero=>intro x s;rfl
 |succ k ih=>
  intro x s;unfold fE;split
  .rfl
  simp[ih]
def wD(next:Nat->Nat)(st:List a_×m_)(d:Nat):List a_×m_:=if st.2.getD d true then st else(st.1++[(fE next (st.2.length+1) d st.2).1],(fE next (st.2.length+1) d st.2).2)
def ef(next:Nat->Nat)(N k:Nat):List a_×m_:=(List.range k).foldl (wD next) ([],List.replicate N false)
def gH(next:Nat->Nat)(N:Nat):List a_:=(ef next N N).1
def Am(next:Nat->Nat)(N k:Nat):ef next N (k+1)=wD next (ef next N k) k:=by unfold ef;rw[yX,Jd];rfl
def IQ(next:Nat->Nat)(N:Nat):∀k,(ef next N k).2.length=N:=by
 intro k
 induction k with
 |zero=>simp[ef]
 |succ k ih=>
  rw[Am];unfold wD;split
  .exact ih
  simp[axv,ih]
def axC(next:Nat->Nat)(N k:Nat)(hk:1<=k)(hN:1<=N):(ef next N k).1≠[]:=by
 induction k with
 |zero=>omega
 |succ k ih=>
  rw[Am];by_cases h0:k=0
  .subst h0;have hz:(ef next N 0)=([],List.replicate N false):=rfl;have hg:(List.replicate N false).getD 0 true=false:=by
    obtain⟨n,rfl⟩:∃n,N=n+1:=⟨N-1,aa⟩;rfl
   rw[hz];unfold wD;simp only[hg];simp
  have:=ih aa;unfold wD;split
  .exact this
  simp
def PB(next:Nat->Nat)(N:Nat):∀k,(ef next N k).1.length<=k:=by
 intro k
 induction k with
 |zero=>simp[ef]
 |succ k ih=>
  rw[Am];unfold wD;split
  .omega
  simp;exact ih
def L1(s:m_):Aj s<=s.length:=PN
def axy{ls:ai}{ax:a_}(hl:ls.length<=1000000)(gT:ax.length<=1000000)(kI:∀x∈ax,x<ls.length)(hp:∀v l,ls[v]?=some l->(l.kind==2)=false->v∈ax){Q:dX}:
  ∀(fuel x:Nat) (sn:m_) (w:a_) (ak:Env) (aj:aC),ak 1=.one (.aZ 2048000000 1 0)->aj 2048000000=(1,some (.var (tQ f ls)))->
   ak 4=.one (.hsl 2048128064 1 1 0 ax.length)->aj 2048128064=(1,some (.arr 3 1 (nP ax)))->ak 5=.one (.hsl 2048192512 1 1 0 sn.length)->aj 2048192512=(1,some (.arr 4 1 (bP sn)))->
   Gj 2048832192 w (ak 7) aj->ak 8=vi x->x<sn.length->sn.length=2*ls.length+2*ax.length->Aj sn<fuel->w.length+Aj sn<=5000000->
   (∀aF ao,aF 1=ak 1->aF 3=ak 3->aF 4=ak 4->aF 5=ak 5->aF 6=ak 6->ao 2048000000=aj 2048000000->ao 2048128064=aj 2048128064->ao 2048896192=aj 2048896192->ao 2048896128=aj 2048896128->
    ao 2048192512=(1,some (.arr 4 1 (bP (fE (iw ls ax) fuel x sn).2)))->Gj 2048832192 (w++(fE (iw ls ax) fuel x sn).1) (aF 7) ao->Q .normal aF ao)->
   W S .all (.loop i32_l1) (mY 2 Q) ak aj:=by
 intro fuel
 induction fuel with
 |zero=>intro x sn w ak aj _ _ _ _ _ _ _ _ _ _ h;omega
 |succ fuel ih=>
  intro x sn w ak aj h1 hB h4 hA h5 hS ho h8 hx hsl hu hw hq;obtain⟨b,hb⟩:=aL hx;have k9:=tO hb;have Bf:sn.getD x true=b:=by rw[dC,hb];rfl
  unfold fE at hq;rw[Bf]at hq;refine sK ?_;cases b with
  |true=>
   simp only[go_sem,i32_l1,h5,hS,h8,hx,k9];refine hq _ _ ?_ ?_ ?_ ?_ ?_ rfl rfl rfl rfl hS ?_;all_goals simp only[go_sem]
   exact ho
  |false=>
   have F6:=Py hb;have pt:=axm f ls ax x hl gT kI hp aa;have j9:=TD (d:=x) kI hp aa;have iE:=Jy sn x true;have ll:∀n:Nat,n<=5000001->n*8<=140737488355328:=fun n hn=>aa;have HZ:List.take ax.length (nP ax)=nP ax:=gK af;rcases ho with⟨rfl,h7⟩|⟨Sd,g,h7,hC⟩
   .simp only[go_sem,i32_l1,h1,hB,h4,hA,h5,hS,h7,h8,hx,k9,iE,HZ,s59,eW pt,gE,iG];refine ih (iw ls ax x) (sn.set x true) [x] _ _ ?_ ?_ ?_ ?_ ?_ ?_ ?_ ?_ (by simpa [hsl]using j9) (by simpa using hsl) aa (by simp;omega) ?_
    .simp only[go_sem,h1]
    .simp only[go_sem,hB]
    .simp only[go_sem,h4]
    .simp only[go_sem,hA]
    .simp only[go_sem,h5,ux]
    .simp only[go_sem]
    .simp only[go_sem];exact .inr ⟨af,_,rfl,rfl⟩
    .simp only[go_sem]
    intro aF ao q1 q3 q4 q5 q6 b1 b2 b3 b4 b5 b6;refine hq aF ao ?_ ?_ ?_ ?_ ?_ ?_ ?_ ?_ ?_ b5 ?_
    .rw[q1];simp only[go_sem]
    .rw[q3];simp only[go_sem]
    .rw[q4];simp only[go_sem]
    .rw[q5];simp only[go_sem]
    .rw[q6];simp only[go_sem]
    .rw[b1];simp only[go_sem]
    .rw[b2];simp only[go_sem]
    .rw[b3];simp only[go_sem]
    .rw[b4];simp only[go_sem]
    simpa using b6
   have u4:List.take w.length (nP w)=nP w:=gK af;have ke:=ll (w.length+1) aa;simp only[go_sem,i32_l1,h1,hB,h4,hA,h5,hS,h7,h8,hx,k9,iE,HZ,s59,eW pt,hC,u4,ke,gE,iG];refine ih (iw ls ax x) (sn.set x true) (w++[x]) _ _ ?_ ?_ ?_ ?_ ?_ ?_ ?_ ?_ (by simpa [hsl]using j9) (by simpa using hsl) aa (by simp;omega) ?_
   .simp only[go_sem,h1]
   .simp only[go_sem,hB]
   .simp only[go_sem,h4]
   .simp only[go_sem,hA]
   .simp only[go_sem,h5,ux]
   .simp only[go_sem]
   .simp only[go_sem];exact .inr ⟨af,g+1,af,by simp[aP]⟩
   .simp only[go_sem]
   intro aF ao q1 q3 q4 q5 q6 b1 b2 b3 b4 b5 b6;refine hq aF ao ?_ ?_ ?_ ?_ ?_ ?_ ?_ ?_ ?_ b5 ?_
   .rw[q1];simp only[go_sem]
   .rw[q3];simp only[go_sem]
   .rw[q4];simp only[go_sem]
   .rw[q5];simp only[go_sem]
   .rw[q6];simp only[go_sem]
   .rw[b1];simp only[go_sem]
   .rw[b2];simp only[go_sem]
   .rw[b3];simp only[go_sem]
   .rw[b4];simp only[go_sem]
   simpa using b6
def outW(site:Nat)(o:List a_)(v:V)(aj:aC):Prop:=(o=[]/\v=.one (.p .nils))\/(o≠[]/\ ∃g,v=.one (.hsl site g 1 0 o.length)/\aj site=(g,some (.arr 105 1 (o.map fun w=>[CL w]))))
def axG(f:Int)(ls:ai)(hl:ls.length<=1000000)(aH:aG ls≠[])(hp:∀v l,ls[v]?=some l->(l.kind==2)=false->v∈aG ls):
  aK S 32 [ez f ls] (.one (.own 105 1 ((gH (iw ls (aG ls)) (2*ls.length+2*(aG ls).length)).map fun w=>[CL w]))):=by
 have pa:=al1 f ls hl;have kI:∀x∈aG ls,x<ls.length:=fun x h=>Qs h;have gT:(aG ls).length<=ls.length:=xT ls ls.length;unfold Qt at pa;rw[au aH]at pa;generalize aG ls=ax at aH hp pa kI gT;have m1:=vm (a:=ls.length) aa;have m2:=vm (a:=ax.length) aa;have m3:=wrap_add (a:=2*ls.length) (b:=2*ax.length) aa;have ti:(nP ax).length=ax.length:=af;have ll:2*ls.length+2*ax.length<=140737488355328:=aa;have vU:List.replicate (2*ls.length+2*ax.length) [PV.bool false]=bP (List.replicate (2*ls.length+2*ax.length) false):=af
 refine bt c32 ?_;have aqc:∀(aj:aC),land aj [] 2048128064 ((RV.one (.own 3 1 (nP ax))).gj (S.lone 2048128064))=some (.one (.hsl 2048128064 ((aj 2048128064).1+1) 1 0 ax.length),[(2048128064,((aj 2048128064).1+1,some (.arr 3 1 (nP ax))))]):=by intro aj;have eL:S.lone 2048128064=false:=ah;rw[eL];simp only[RV.gj,land,true_or,if_true,jO,iu,iJ,jt,dw,rQ,mS,cE,jG]
 simp only[go_sem,i32,s58,dr pa (aqc _),m1,m2,m3,ll,vU];generalize hN:2*ls.length+2*ax.length=N at ll;refine dD (fun k ak aj=>ak 1=.one (.aZ 2048000000 1 0)/\aj 2048000000=(1,some (.var (tQ f ls)))/\ak 4=.one (.hsl 2048128064 1 1 0 ax.length)/\aj 2048128064=(1,some (.arr 3 1 (nP ax)))/\
   ak 5=.one (.hsl 2048192512 1 1 0 N)/\aj 2048192512=(1,some (.arr 4 1 (bP (ef (iw ls ax) N k).2)))/\ak 6=vi k/\outW 2048896192 (ef (iw ls ax) N k).1 (ak 3) aj) 0 N (bR _) ?_ ?_
 .simp only[go_sem];exact⟨rfl,rfl,.inl ⟨rfl,rfl⟩⟩
 rintro k ak aj hk ⟨h1,hB,h4,hA,h5,hS,h6,ho⟩
 have hlen:=IQ (iw ls ax) N k;have F0:=PB (iw ls ax) N k;by_cases aA:k<N
 .have aM:((k:Int)<(N:Int)):=aa;have w1:=cU (n:=k) aa;have hs:=Am (iw ls ax) N k;generalize cV:ef (iw ls ax) N k=st at hlen hs ho hS F0;obtain⟨out,sn⟩:=st;simp only at hlen ho hS F0;obtain⟨b,hb⟩:=aL (ls:=sn) (k:=k) aa;have k9:=tO hb;unfold wD at hs;have Bf:sn.getD k true=b:=by rw[dC,hb];rfl
  simp only[Bf]at hs;cases b with
  |true=>have hs:ef (iw ls ax) N (k+1)=(out,sn):=hs;simp only[go_sem,i32_l4,i32_r3,h1,hB,h4,hA,h5,hS,h6,aA,aM,k9,w1,hs];exact ho
  |false=>
   have hs:ef (iw ls ax) N (k+1)=(out++[(fE (iw ls ax) (N+1) k sn).1],(fE (iw ls ax) (N+1) k sn).2):=by rw[hs,hlen];rfl
   have hul:=L1 sn;simp only[go_sem,i32_l4,h5,hS,h6,aA,aM,k9];refine axy (f:=f) hl aa kI hp (N+1) k sn [] _ _ ?_ ?_ ?_ ?_ ?_ ?_ ?_ ?_ aa aa aa (by simp;omega) ?_
   .simp only[go_sem,h1]
   .simp only[go_sem,hB]
   .simp only[go_sem,h4]
   .simp only[go_sem,hA]
   .simp only[go_sem,h5,hlen]
   .simp only[go_sem,hS]
   .exact .inl ⟨rfl,by simp only[go_sem]⟩
   .simp only[go_sem]
   intro aF ao q1 q3 q4 q5 q6 b1 b2 b3 b4 b5 b6;simp only[go_sem,h1,h4,h5,h6]at q1 q3 q4 q5 q6;simp only[go_sem,hB,hA]at b1 b2 b3 b4;have Sd:(fE (iw ls ax) (N+1) k sn).1≠[]:=by unfold fE;rw[Bf];simp
   rw[gn]at b6;rcases b6 with⟨e,_⟩|⟨_,g,h7,hC⟩
   .exact(Sd e).elim
   generalize fE (iw ls ax) (N+1) k sn=wf at hs Sd b5 h7 hC;obtain⟨w,iQ⟩:=wf;simp only at hs Sd b5 h7 hC;have u4:List.take w.length (nP w)=nP w:=gK af;rcases ho with⟨rfl,h3⟩|⟨ho,go,h3,hO⟩
   .rw[h3]at q3;simp only[go_sem,i32_r2,i32_r3,q1,q3,q4,q5,q6,b1,b2,b5,h7,hC,u4,w1,hs,aA,xY,gE,iG];exact .inr ⟨af,_,rfl,by simp[aP]⟩
   rw[h3]at q3;have F5:List.take out.length (out.map fun w=>[CL w])=out.map fun w=>[CL w]:=gK af;have ke:(out.length+1)*24<=140737488355328:=aa;simp only[go_sem,i32_r2,i32_r3,q1,q3,q4,q5,q6,b1,b2,b3,b5,h7,hC,hO,u4,F5,ke,w1,hs,aA,xY,bJ,gE,iG];exact .inr ⟨af,go+1,af,by simp[aP]⟩
 have:k=N:=aa;subst this;have he:gH (iw ls ax) k=(ef (iw ls ax) k k).1:=rfl;rw[<-he]at ho;rcases ho with⟨e,h3⟩|⟨ho,g,h3,hC⟩
 .exact(axC (iw ls ax) k k (by have:=jl.2 aH;omega) (by have:=jl.2 aH;omega) e).elim
 simp only[go_sem,i32_l4,i32_r5,h3,h5,h6,eS];exact Lq hC af
abbrev YI(l:Let):f_:=[.p (.int .i64 l.kind),.p (.int .i64 l.gate),.p (.int .i64 l.aw),.p (.int .i64 l.id),.p (.int .i64 l.sign),.p (.bool l.over)]
def jv(l o:Let):Bool:=(o.kind==l.kind&&o.gate==l.gate)&&o.aw==l.aw
def iZ(l o:Let):Bool:=((o.kind==l.kind&&o.id==l.id)&&o.sign==l.sign)&& !(o.over==l.over)
def xy(f:Int)(ls:ai)(l:Let):Bool:= !(((((((l.id !=0||l.sign !=0)||l.over)||decide (l.gate<0))||decide (f<l.gate))||decide (l.aw<1))||decide ((aq (pY l.gate) ls:Int)<l.aw))||(((aq (jv l) ls:Nat):Int)!=1))
def mR(ls:ai)(l:Let):Bool:= !((((((l.gate !=0||l.aw !=0)||(l.sign !=1&&l.sign != -1))||decide (l.id<1))||decide (((aq Let.aB ls/2:Nat):Int)<l.id))||(((aq (iZ l) ls:Nat):Int)!=1))||(((aq (mr l.id) ls:Nat):Int)!=2))
def eZ(f:Int)(ls:ai)(l:Let):Bool:=if l.kind==1 then xy f ls l else if l.kind==2 then mR ls l else false
def ar8{f:Int}{ls:ai}{l:Let}{g i:Nat}{ak:Env}{aj:aC}{Q:dX}(hl:ls.length<=1000000)(h1:ak 1=.one (.aZ 1984000000 1 0))(hB:aj 1984000000=(1,some (.var (tQ f ls))))(h3:ak 3=vi i)(h4:ak 4=.one (.aZ 1984256320 g 0))(hL:aj 1984256320=(g,some (.var (YI l))))
  (h5:ak 5=vi 0) (h6:ak 6=vi 0) (h7:ak 7=vi 0)
  (hq:∀aF ao,aF 1=ak 1->aF 3=ak 3->aF 4=ak 4->ao 1984000000=aj 1984000000->ao 1984256320=aj 1984256320->aF 5=vi (aq (jv l) ls)->aF 6=vi (aq (iZ l) ls)->Q .normal aF ao):
  W S .all (.loop i31_l1) (mY 2 Q) ak aj:=by
 refine dD (fun k aF ao=>aF 1=.one (.aZ 1984000000 1 0)/\ao 1984000000=(1,some (.var (tQ f ls)))/\aF 3=vi i/\aF 4=.one (.aZ 1984256320 g 0)/\ao 1984256320=(g,some (.var (YI l)))/\
   aF 5=vi (aq (jv l) (ls.take k))/\aF 6=vi (aq (iZ l) (ls.take k))/\aF 7=vi k) 0 ls.length (bR _) ?_ ?_
 .exact⟨h1,hB,h3,h4,hL,h5,h6,h7⟩
 rintro k aF ao hk ⟨g1,gB,g3,g4,gL,g5,g6,g7⟩
 by_cases aA:k<ls.length
 .obtain⟨o,ho⟩:=aL aA;have hi:=jf ho;have aM:((k:Int)<(ls.length:Int)):=aa;have b5:=AR (jv l) ls k;have b6:=AR (iZ l) ls k;have w1:=cU (n:=k) aa;have w5:=cU (n:=aq (jv l) (ls.take k)) aa;have w6:=cU (n:=aq (iZ l) (ls.take k)) aa;cases e0:(o.kind==l.kind)with
  |true=>
   cases e1:(o.gate==l.gate)with
   |true=>
    cases e2:(o.aw==l.aw)with
    |true=>
     cases e3:(o.id==l.id)with
     |true=>
      cases e4:(o.sign==l.sign)with
      |true=>
       cases e5:(o.over==l.over)with
       |true=>have c5:=sQ (p:=jv l) ho (by simp only[jv,e0,e1,e2];rfl);have c6:=j4 (p:=iZ l) ho (by simp only[iZ,e0,e3,e4,e5];rfl);simp only[go_sem,i31_l1,g1,gB,g3,g4,gL,g5,g6,g7,hi,Let.ps,aM,w1,w5,e0,e1,e2,e3,e4,e5,c5,c6];first|exact aA|exact⟨aA,rfl⟩|exact⟨aA,rfl,rfl⟩
       |false=>have c5:=sQ (p:=jv l) ho (by simp only[jv,e0,e1,e2];rfl);have c6:=sQ (p:=iZ l) ho (by simp only[iZ,e0,e3,e4,e5];rfl);simp only[go_sem,i31_l1,g1,gB,g3,g4,gL,g5,g6,g7,hi,Let.ps,aM,w1,w5,w6,e0,e1,e2,e3,e4,e5,c5,c6];first|exact aA|exact⟨aA,rfl⟩|exact⟨aA,rfl,rfl⟩
      |false=>have c5:=sQ (p:=jv l) ho (by simp only[jv,e0,e1,e2];rfl);have c6:=j4 (p:=iZ l) ho (by simp only[iZ,e0,e3,e4];rfl);simp only[go_sem,i31_l1,g1,gB,g3,g4,gL,g5,g6,g7,hi,Let.ps,aM,w1,w5,e0,e1,e2,e3,e4,c5,c6];first|exact aA|exact⟨aA,rfl⟩|exact⟨aA,rfl,rfl⟩
     |false=>have c5:=sQ (p:=jv l) ho (by simp only[jv,e0,e1,e2];rfl);have c6:=j4 (p:=iZ l) ho (by simp only[iZ,e0,e3];rfl);simp only[go_sem,i31_l1,g1,gB,g3,g4,gL,g5,g6,g7,hi,Let.ps,aM,w1,w5,e0,e1,e2,e3,c5,c6];first|exact aA|exact⟨aA,rfl⟩|exact⟨aA,rfl,rfl⟩
    |false=>
     cases e3:(o.id==l.id)with
     |true=>
      cases e4:(o.sign==l.sign)with
      |true=>
       cases e5:(o.over==l.over)with
       |true=>have c5:=j4 (p:=jv l) ho (by simp only[jv,e0,e1,e2];rfl);have c6:=j4 (p:=iZ l) ho (by simp only[iZ,e0,e3,e4,e5];rfl);simp only[go_sem,i31_l1,g1,gB,g3,g4,gL,g5,g6,g7,hi,Let.ps,aM,w1,e0,e1,e2,e3,e4,e5,c5,c6];first|exact aA|exact⟨aA,rfl⟩|exact⟨aA,rfl,rfl⟩
       |false=>have c5:=j4 (p:=jv l) ho (by simp only[jv,e0,e1,e2];rfl);have c6:=sQ (p:=iZ l) ho (by simp only[iZ,e0,e3,e4,e5];rfl);simp only[go_sem,i31_l1,g1,gB,g3,g4,gL,g5,g6,g7,hi,Let.ps,aM,w1,w6,e0,e1,e2,e3,e4,e5,c5,c6];first|exact aA|exact⟨aA,rfl⟩|exact⟨aA,rfl,rfl⟩
      |false=>have c5:=j4 (p:=jv l) ho (by simp only[jv,e0,e1,e2];rfl);have c6:=j4 (p:=iZ l) ho (by simp only[iZ,e0,e3,e4];rfl);simp only[go_sem,i31_l1,g1,gB,g3,g4,gL,g5,g6,g7,hi,Let.ps,aM,w1,e0,e1,e2,e3,e4,c5,c6];first|exact aA|exact⟨aA,rfl⟩|exact⟨aA,rfl,rfl⟩
     |false=>have c5:=j4 (p:=jv l) ho (by simp only[jv,e0,e1,e2];rfl);have c6:=j4 (p:=iZ l) ho (by simp only[iZ,e0,e3];rfl);simp only[go_sem,i31_l1,g1,gB,g3,g4,gL,g5,g6,g7,hi,Let.ps,aM,w1,e0,e1,e2,e3,c5,c6];first|exact aA|exact⟨aA,rfl⟩|exact⟨aA,rfl,rfl⟩
   |false=>
    cases e3:(o.id==l.id)with
    |true=>
     cases e4:(o.sign==l.sign)with
     |true=>
      cases e5:(o.over==l.over)with
      |true=>have c5:=j4 (p:=jv l) ho (by simp only[jv,e0,e1];rfl);have c6:=j4 (p:=iZ l) ho (by simp only[iZ,e0,e3,e4,e5];rfl);simp only[go_sem,i31_l1,g1,gB,g3,g4,gL,g5,g6,g7,hi,Let.ps,aM,w1,e0,e1,e3,e4,e5,c5,c6];first|exact aA|exact⟨aA,rfl⟩|exact⟨aA,rfl,rfl⟩
      |false=>have c5:=j4 (p:=jv l) ho (by simp only[jv,e0,e1];rfl);have c6:=sQ (p:=iZ l) ho (by simp only[iZ,e0,e3,e4,e5];rfl);simp only[go_sem,i31_l1,g1,gB,g3,g4,gL,g5,g6,g7,hi,Let.ps,aM,w1,w6,e0,e1,e3,e4,e5,c5,c6];first|exact aA|exact⟨aA,rfl⟩|exact⟨aA,rfl,rfl⟩
     |false=>have c5:=j4 (p:=jv l) ho (by simp only[jv,e0,e1];rfl);have c6:=j4 (p:=iZ l) ho (by simp only[iZ,e0,e3,e4];rfl);simp only[go_sem,i31_l1,g1,gB,g3,g4,gL,g5,g6,g7,hi,Let.ps,aM,w1,e0,e1,e3,e4,c5,c6];first|exact aA|exact⟨aA,rfl⟩|exact⟨aA,rfl,rfl⟩
    |false=>have c5:=j4 (p:=jv l) ho (by simp only[jv,e0,e1];rfl);have c6:=j4 (p:=iZ l) ho (by simp only[iZ,e0,e3];rfl);simp only[go_sem,i31_l1,g1,gB,g3,g4,gL,g5,g6,g7,hi,Let.ps,aM,w1,e0,e1,e3,c5,c6];first|exact aA|exact⟨aA,rfl⟩|exact⟨aA,rfl,rfl⟩
  |false=>have c5:=j4 (p:=jv l) ho (by simp only[jv,e0];rfl);have c6:=j4 (p:=iZ l) ho (by simp only[iZ,e0];rfl);simp only[go_sem,i31_l1,g1,gB,g3,g4,gL,g5,g6,g7,hi,Let.ps,aM,w1,e0,c5,c6];first|exact aA|exact⟨aA,rfl⟩|exact⟨aA,rfl,rfl⟩
 have:k=ls.length:=aa;subst this;rw[lJ]at g5 g6;simp only[go_sem,i31_l1,g1,gB,g7,eS];refine hq _ _ ?_ ?_ ?_ ?_ ?_ ?_ ?_;all_goals simp only[go_sem,g1,gB,g3,g4,gL,g5,g6,h1,hB,h3,h4,hL]
def ar9{f:Int}{ls:ai}{l:Let}{g i:Nat}{ak:Env}{aj:aC}{Q:dX}(hl:ls.length<=1000000)(h1:ak 1=.one (.aZ 1984000000 1 0))(hB:aj 1984000000=(1,some (.var (tQ f ls))))(h3:ak 3=vi i)(h4:ak 4=.one (.aZ 1984256320 g 0))(hL:aj 1984256320=(g,some (.var (YI l))))
  (h5:ak 5=vi (aq (jv l) ls)) (h6:ak 6=vi (aq (iZ l) ls))
  (hq:eZ f ls l=true->∀aF,aF 1=ak 1->aF 3=ak 3->Q .normal aF aj) (hr:eZ f ls l=false->∀aF,aF 2=.one (.p (.bool false))->Q .ret aF aj):
  W S .all i31_r2 Q ak aj:=by
 have pin:=in_r f ls hl l.gate;have pvi:=Z8 f ls hl;have pti:=aw3 f ls hl l.id;have hcv:=sR Let.aB ls;have wv:=wrap_small (n:=aq Let.aB ls/2) aa;cases k1:(l.kind==1)with
 |true=>
  cases a1:(l.id !=0)with
  |true=>
   have ay:eZ f ls l=false:=by simp only[eZ,k1,xy,a1];rfl
   simp only[go_sem,i31_r2,h4,hL,k1,a1];refine⟨ah,hr ay _ ?_⟩;simp only[go_sem]
  |false=>
   cases a2:(l.sign !=0)with
   |true=>
    have ay:eZ f ls l=false:=by simp only[eZ,k1,xy,a1,a2];rfl
    simp only[go_sem,i31_r2,h4,hL,k1,a1,a2];refine⟨ah,hr ay _ ?_⟩;simp only[go_sem]
   |false=>
    cases a3:(l.over)with
    |true=>
     have ay:eZ f ls l=false:=by simp only[eZ,k1,xy,a1,a2,a3];rfl
     simp only[go_sem,i31_r2,h4,hL,k1,a1,a2,a3];refine⟨ah,hr ay _ ?_⟩;simp only[go_sem]
    |false=>
     cases a4:(decide (l.gate<0))with
     |true=>
      have AM:(l.gate<0):=qx a4;have ay:eZ f ls l=false:=by simp only[eZ,k1,xy,a1,a2,a3,a4];rfl
      simp only[go_sem,i31_r2,h4,hL,k1,a1,a2,a3,AM];refine⟨ah,hr ay _ ?_⟩;simp only[go_sem]
     |false=>
      cases a5:(decide (f<l.gate))with
      |true=>
       have AM:¬(l.gate<0):=gZ a4;have lL:(f<l.gate):=qx a5;have ay:eZ f ls l=false:=by simp only[eZ,k1,xy,a1,a2,a3,a4,a5];rfl
       simp only[go_sem,i31_r2,h1,hB,h4,hL,k1,a1,a2,a3,AM,lL];refine⟨ah,hr ay _ ?_⟩;simp only[go_sem]
      |false=>
       cases a6:(decide (l.aw<1))with
       |true=>
        have AM:¬(l.gate<0):=gZ a4;have lL:¬(f<l.gate):=gZ a5;have oG:(l.aw<1):=qx a6;have ay:eZ f ls l=false:=by simp only[eZ,k1,xy,a1,a2,a3,a4,a5,a6];rfl
        simp only[go_sem,i31_r2,h1,hB,h4,hL,k1,a1,a2,a3,AM,lL,oG];refine⟨ah,hr ay _ ?_⟩;simp only[go_sem]
       |false=>
        cases a7:(decide ((aq (pY l.gate) ls:Int)<l.aw))with
        |true=>
         have AM:¬(l.gate<0):=gZ a4;have lL:¬(f<l.gate):=gZ a5;have oG:¬(l.aw<1):=gZ a6;have Ms:((aq (pY l.gate) ls:Int)<l.aw):=qx a7;have ay:eZ f ls l=false:=by simp only[eZ,k1,xy,a1,a2,a3,a4,a5,a6,a7];rfl
         simp only[go_sem,i31_r2,h1,hB,h4,hL,s56,ir pin,k1,a1,a2,a3,AM,lL,oG,Ms];refine⟨ah,hr ay _ ?_⟩;simp only[go_sem]
        |false=>
         cases a8:(((aq (jv l) ls:Nat):Int)!=1)with
         |true=>
          have AM:¬(l.gate<0):=gZ a4;have lL:¬(f<l.gate):=gZ a5;have oG:¬(l.aw<1):=gZ a6;have Ms:¬((aq (pY l.gate) ls:Int)<l.aw):=gZ a7;have ay:eZ f ls l=false:=by simp only[eZ,k1,xy,a1,a2,a3,a4,a5,a6,a7,a8];rfl
          simp only[go_sem,i31_r2,h1,hB,h4,hL,h5,s56,ir pin,k1,a1,a2,a3,AM,lL,oG,Ms,a8];refine⟨ah,hr ay _ ?_⟩;simp only[go_sem]
         |false=>
          have AM:¬(l.gate<0):=gZ a4;have lL:¬(f<l.gate):=gZ a5;have oG:¬(l.aw<1):=gZ a6;have Ms:¬((aq (pY l.gate) ls:Int)<l.aw):=gZ a7;have ay:eZ f ls l=true:=by simp only[eZ,k1,xy,a1,a2,a3,a4,a5,a6,a7,a8];rfl
          simp only[go_sem,i31_r2,h1,hB,h4,hL,h5,s56,ir pin,k1,a1,a2,a3,AM,lL,oG,Ms,a8];refine⟨ah,hq ay _ ?_ ?_⟩;all_goals simp only[go_sem]
 |false=>
  cases k2:(l.kind==2)with
  |true=>
   cases a1:(l.gate !=0)with
   |true=>
    have ay:eZ f ls l=false:=by simp only[eZ,k1,k2,mR,a1];rfl
    simp only[go_sem,i31_r2,h4,hL,k1,k2,a1];refine⟨ah,hr ay _ ?_⟩;simp only[go_sem]
   |false=>
    cases a2:(l.aw !=0)with
    |true=>
     have ay:eZ f ls l=false:=by simp only[eZ,k1,k2,mR,a1,a2];rfl
     simp only[go_sem,i31_r2,h4,hL,k1,k2,a1,a2];refine⟨ah,hr ay _ ?_⟩;simp only[go_sem]
    |false=>
     cases a3:(l.sign !=1)with
     |true=>
      cases a4:(l.sign != -1)with
      |true=>
       have ay:eZ f ls l=false:=by simp only[eZ,k1,k2,mR,a1,a2,a3,a4];rfl
       simp only[go_sem,i31_r2,h4,hL,k1,k2,a1,a2,a3,a4];refine⟨ah,hr ay _ ?_⟩;simp only[go_sem]
      |false=>
       cases a5:(decide (l.id<1))with
       |true=>
        have lL:(l.id<1):=qx a5;have ay:eZ f ls l=false:=by simp only[eZ,k1,k2,mR,a1,a2,a3,a4,a5];rfl
        simp only[go_sem,i31_r2,h4,hL,k1,k2,a1,a2,a3,a4,lL];refine⟨ah,hr ay _ ?_⟩;simp only[go_sem]
       |false=>
        cases a6:(decide (((aq Let.aB ls/2:Nat):Int)<l.id))with
        |true=>
         have lL:¬(l.id<1):=gZ a5;have oG:(((aq Let.aB ls/2:Nat):Int)<l.id):=qx a6;have ay:eZ f ls l=false:=by simp only[eZ,k1,k2,mR,a1,a2,a3,a4,a5,a6];rfl
         simp only[go_sem,i31_r2,h1,hB,h4,hL,s29,ir pvi,fR,eT,wv,k1,k2,a1,a2,a3,a4,lL,oG];refine⟨ah,hr ay _ ?_⟩;simp only[go_sem]
        |false=>
         cases a7:(((aq (iZ l) ls:Nat):Int)!=1)with
         |true=>
          have lL:¬(l.id<1):=gZ a5;have oG:¬(((aq Let.aB ls/2:Nat):Int)<l.id):=gZ a6;have ay:eZ f ls l=false:=by simp only[eZ,k1,k2,mR,a1,a2,a3,a4,a5,a6,a7];rfl
          simp only[go_sem,i31_r2,h1,hB,h4,hL,h6,s29,ir pvi,fR,eT,wv,k1,k2,a1,a2,a3,a4,lL,oG,a7];refine⟨ah,hr ay _ ?_⟩;simp only[go_sem]
         |false=>
          cases a8:(((aq (mr l.id) ls:Nat):Int)!=2)with
          |true=>
           have lL:¬(l.id<1):=gZ a5;have oG:¬(((aq Let.aB ls/2:Nat):Int)<l.id):=gZ a6;have ay:eZ f ls l=false:=by simp only[eZ,k1,k2,mR,a1,a2,a3,a4,a5,a6,a7,a8];rfl
           simp only[go_sem,i31_r2,h1,hB,h4,hL,h6,s29,s57,ir pvi,ir pti,fR,eT,wv,k1,k2,a1,a2,a3,a4,lL,oG,a7,a8];refine⟨ah,hr ay _ ?_⟩;simp only[go_sem]
          |false=>
           have lL:¬(l.id<1):=gZ a5;have oG:¬(((aq Let.aB ls/2:Nat):Int)<l.id):=gZ a6;have ay:eZ f ls l=true:=by simp only[eZ,k1,k2,mR,a1,a2,a3,a4,a5,a6,a7,a8];rfl
           simp only[go_sem,i31_r2,h1,hB,h4,hL,h6,s29,s57,ir pvi,ir pti,fR,eT,wv,k1,k2,a1,a2,a3,a4,lL,oG,a7,a8];refine⟨ah,hq ay _ ?_ ?_⟩;all_goals simp only[go_sem]
     |false=>
      cases a5:(decide (l.id<1))with
      |true=>
       have lL:(l.id<1):=qx a5;have ay:eZ f ls l=false:=by simp only[eZ,k1,k2,mR,a1,a2,a3,a5];rfl
       simp only[go_sem,i31_r2,h4,hL,k1,k2,a1,a2,a3,lL];refine⟨ah,hr ay _ ?_⟩;simp only[go_sem]
      |false=>
       cases a6:(decide (((aq Let.aB ls/2:Nat):Int)<l.id))with
       |true=>
        have lL:¬(l.id<1):=gZ a5;have oG:(((aq Let.aB ls/2:Nat):Int)<l.id):=qx a6;have ay:eZ f ls l=false:=by simp only[eZ,k1,k2,mR,a1,a2,a3,a5,a6];rfl
        simp only[go_sem,i31_r2,h1,hB,h4,hL,s29,ir pvi,fR,eT,wv,k1,k2,a1,a2,a3,lL,oG];refine⟨ah,hr ay _ ?_⟩;simp only[go_sem]
       |false=>
        cases a7:(((aq (iZ l) ls:Nat):Int)!=1)with
        |true=>
         have lL:¬(l.id<1):=gZ a5;have oG:¬(((aq Let.aB ls/2:Nat):Int)<l.id):=gZ a6;have ay:eZ f ls l=false:=by simp only[eZ,k1,k2,mR,a1,a2,a3,a5,a6,a7];rfl
         simp only[go_sem,i31_r2,h1,hB,h4,hL,h6,s29,ir pvi,fR,eT,wv,k1,k2,a1,a2,a3,lL,oG,a7];refine⟨ah,hr ay _ ?_⟩;simp only[go_sem]
        |false=>
         cases a8:(((aq (mr l.id) ls:Nat):Int)!=2)with
         |true=>
          have lL:¬(l.id<1):=gZ a5;have oG:¬(((aq Let.aB ls/2:Nat):Int)<l.id):=gZ a6;have ay:eZ f ls l=false:=by simp only[eZ,k1,k2,mR,a1,a2,a3,a5,a6,a7,a8];rfl
          simp only[go_sem,i31_r2,h1,hB,h4,hL,h6,s29,s57,ir pvi,ir pti,fR,eT,wv,k1,k2,a1,a2,a3,lL,oG,a7,a8];refine⟨ah,hr ay _ ?_⟩;simp only[go_sem]
         |false=>
          have lL:¬(l.id<1):=gZ a5;have oG:¬(((aq Let.aB ls/2:Nat):Int)<l.id):=gZ a6;have ay:eZ f ls l=true:=by simp only[eZ,k1,k2,mR,a1,a2,a3,a5,a6,a7,a8];rfl
          simp only[go_sem,i31_r2,h1,hB,h4,hL,h6,s29,s57,ir pvi,ir pti,fR,eT,wv,k1,k2,a1,a2,a3,lL,oG,a7,a8];refine⟨ah,hq ay _ ?_ ?_⟩;all_goals simp only[go_sem]
  |false=>
   have ay:eZ f ls l=false:=by simp only[eZ,k1,k2];rfl
   simp only[go_sem,i31_r2,h4,hL,k1,k2];refine hr ay _ ?_;simp only[go_sem]
def yC(f:Int)(ls:ai):Bool:=ls.all (eZ f ls)
def asa(f:Int)(ls:ai)(hl:ls.length<=1000000):aK S 31 [ez f ls] (rb (yC f ls)):=by
 refine bt c31 ?_;simp only[go_sem,i31];refine dD (fun k ak aj=>ak 1=.one (.aZ 1984000000 1 0)/\aj 1984000000=(1,some (.var (tQ f ls)))/\ak 3=vi k/\ ∀j l,j<k->ls[j]?=some l->eZ f ls l=true) 0 ls.length (bR _) ?_ ?_
 .simp only[go_sem];exact⟨rfl,fun j l h=>absurd h (o9 j)⟩
 rintro k ak aj hk ⟨h1,hB,h3,ay⟩
 by_cases aA:k<ls.length
 .obtain⟨l,ho⟩:=aL aA;have hi:=jf ho;have aM:((k:Int)<(ls.length:Int)):=aa;have w1:=cU (n:=k) aa;simp only[go_sem,i31_l4,h1,hB,h3,hi,Let.ps,aM];refine ar8 (f:=f) (l:=l) (g:=(aj 1984256320).1+1) (i:=k) hl ?_ ?_ ?_ ?_ ?_ ?_ ?_ ?_ ?_
  .simp only[go_sem,h1]
  .simp only[go_sem,hB]
  .simp only[go_sem,h3]
  .simp only[go_sem]
  .simp only[go_sem]
  .simp only[go_sem]
  .simp only[go_sem]
  .simp only[go_sem]
  intro aF ao q1 q3 q4 b1 b2 q5 q6;simp only[go_sem,h1,h3]at q1 q3 q4;simp only[go_sem,hB]at b1 b2;simp only[go_sem];refine ar9 (f:=f) (l:=l) (i:=k) hl q1 b1 q3 q4 b2 q5 q6 ?_ ?_
  .intro N7 dy e1 e3;rw[q1]at e1;rw[q3]at e3;simp only[go_sem,i31_r3,e1,b1,e3,w1];refine⟨aA,fun j l' hj j7=>?_⟩;rcases oD.1 hj with hj|rfl
   .exact ay j l' hj j7
   rw[ho]at j7;cases j7;exact N7
  intro Xy dy e2;have hf:yC f ls=false:=by unfold yC;rw[aak];exact⟨l,aV ho,by simp[Xy]⟩
  simp only[go_sem,e2,hf]
 have:k=ls.length:=aa;subst this;have hf:yC f ls=true:=by unfold yC;rw[gk];intro x hx;obtain⟨j,hj,rfl⟩:=List.getElem_of_mem hx;exact ay j _ hj af
 simp only[go_sem,i31_l4,i31_r5,h1,hB,h3,eS,hf]
def ara{ls:ai}{o:a_}{i x:Nat}:x∈Bo ls o i↔x∈o\/x=i:=by
 unfold Bo;generalize(o.takeWhile (CB ls i)).length=K;constructor
 .intro h;rcases eO.1 h with h|h
  .exact .inl (yV h)
  rcases bJ.1 h with h|h
  .exact .inr h
  exact .inl (xN h)
 rintro(h|rfl)
 .rw[<-mU K o]at h;rcases eO.1 h with h|h
  .exact eO.2 (.inl h)
  exact eO.2 (.inr (bJ.2 (.inr h)))
 simp
def abl{ls:ai}:∀ {k x:Nat},k<=ls.length->(x∈pJ ls k↔x<k/\ ∃l,ls[x]?=some l/\l.aE=true):=by
 intro k
 induction k with
 |zero=>intro x _;simp[pJ]
 |succ k ih=>
  intro x hk;rw[Jw];obtain⟨l,hl⟩:=aL (ls:=ls) (k:=k) aa;have ih:=ih (x:=x) aa;unfold BJ;rw[hl];simp only;by_cases hp:l.aE=true
  .rw[aD hp,ara,ih];constructor
   .rintro (⟨h1,h2⟩|rfl)
    .exact⟨aa,h2⟩
    exact⟨aa,l,hl,hp⟩
   rintro⟨h1,h2⟩
   rcases oD.1 h1 with h|rfl
   .exact .inl ⟨h,h2⟩
   exact .inr rfl
  rw[au hp,ih];constructor
  .rintro ⟨h1,h2⟩;exact⟨aa,h2⟩
  rintro⟨h1,m,hm,vR⟩
  rcases oD.1 h1 with h|rfl
  .exact⟨h,m,hm,vR⟩
  rw[hl]at hm;cases hm;exact(hp vR).elim
def uF{ls:ai}{x:Nat}:x∈aG ls↔ ∃l,ls[x]?=some l/\l.aE=true:=by
 have:=abl (ls:=ls) (k:=ls.length) (x:=x) (bY _);have e:aG ls=pJ ls ls.length:=rfl;rw[e,this];constructor
 .rintro ⟨_,h⟩;exact h
 rintro⟨l,h,h2⟩;exact⟨(aT.1 h).1,l,h,h2⟩
def agZ{ls:ai}(h:yC f ls=true){v:Nat}{l:Let}(hv:ls[v]?=some l):l.aE=true\/l.aB=true:=by
 have:=(gk.1 h) l (aV hv);unfold eZ at this;unfold Let.aE Let.aB;cases h1:(l.kind==1)with
 |true=>exact .inl rfl
 |false=>
  cases h2:(l.kind==2)with
  |true=>exact .inr rfl
  |false=>rw[h1,h2]at this;simp at this
def mQ(ls:ai):Nat:=(gH (iw ls (aG ls)) (2*ls.length+2*(aG ls).length)).length
def my(f:Int)(ls:ai):Bool:=(match ls[0]? with|some l=>l.kind==1|none=>true)&&(aq Let.aE ls%2==0)&&yC f ls&&(mQ ls==aq Let.aE ls+aq Let.aB ls/2+2)
def cG(f:Int)(ls:ai):Int:=if 400<ls.length\/200<aq Let.aB ls then 7 else if f<0\/40<f then 2 else if ls=[]then 0 else if my f ls then 0 else 3
def amP(f:Int)(ls:ai)(hl:ls.length<=1000000):aK S 11 [ez f ls] (ri (cG f ls)):=by
 have pvi:=Z8 f ls hl;have ppa:=ats f ls hl;have ple:=asa f ls hl;have pcr:=anv f ls hl;have hci:=sR Let.aB ls;have gD:=sR Let.aE ls;refine bt c11 ?_;unfold cG;by_cases h1:400<ls.length
 .have j6:(400:Int)<(ls.length:Int):=aa;simp only[go_sem,i11,h1,j6]
 have j6:¬(400:Int)<(ls.length:Int):=aa;by_cases h2:200<aq Let.aB ls
 .have jB:(200:Int)<(aq Let.aB ls:Int):=aa;simp only[go_sem,i11,h1,j6,h2,jB,s29,eW pvi]
 have jB:¬(200:Int)<(aq Let.aB ls:Int):=aa;by_cases h3:f<0
 .simp only[go_sem,i11,h1,j6,h2,jB,h3,s29,eW pvi]
 by_cases h4:40<f
 .simp only[go_sem,i11,h1,j6,h2,jB,h3,h4,s29,eW pvi]
 have aqD:¬(400<ls.length\/200<aq Let.aB ls):=aa;have aqE:¬(f<0\/40<f):=aa;rw[au aqD,au aqE];by_cases he:ls=[]
 .subst he;have hz:(((0:Nat):Int)==0)=true:=ae;have hz3:¬((400:Int)<((0:Nat):Int)):=ae;have auA:aK S 29 [.agg [.p (.int .i64 f),.p (.sl [])]] (ri (aq Let.aB [])):=pvi;simp only[go_sem,i11,hz3,jB,h3,h4,s29,eW auA,hz]
 have hlen:0<ls.length:=jl.2 he;obtain⟨l0,h0⟩:=aL hlen;have Bh:=jf h0;have HU:(((ls.length:Nat):Int)==0)=false:=by simp;omega
 rw[au he];generalize hr:(if my f ls=true then(0:Int)else 3)=r;cases c1:(l0.kind==1)with
 |false=>
  have c1':(l0.kind !=1)=true:=by simp[bne,c1]
  have hv:my f ls=false:=by simp only[my,h0,c1];rfl
  rw[hv]at hr;have hr:(3:Int)=r:=hr;subst hr;simp only[go_sem,i11,j6,jB,h3,h4,s29,eW pvi,HU,s30,eW ppa,Bh,Let.ps,c1'];exact aJ
 |true=>
  have c1':(l0.kind !=1)=false:=by simp[bne,c1]
  cases c2:(aq Let.aE ls%2==0)with
  |false=>
   have c2':(((aq Let.aE ls%2:Nat):Int)!=0)=true:=by simp at c2 |-;omega
   have hv:my f ls=false:=by simp only[my,h0,c1,c2];rfl
   rw[hv]at hr;have hr:(3:Int)=r:=hr;subst hr;simp only[go_sem,i11,j6,jB,h3,h4,s29,eW pvi,HU,s30,eW ppa,Bh,Let.ps,c1',jQ,eT,c2'];exact aJ
  |true=>
   have c2':(((aq Let.aE ls%2:Nat):Int)!=0)=false:=by simp at c2 |-;omega
   cases c3:yC f ls with
   |false=>
    rw[c3]at ple;have hv:my f ls=false:=by simp only[my,h0,c1,c2,c3];rfl
    rw[hv]at hr;have hr:(3:Int)=r:=hr;subst hr;simp only[go_sem,i11,j6,jB,h3,h4,s29,eW pvi,HU,s30,eW ppa,Bh,Let.ps,c1',jQ,eT,c2',s31,mZ ple];exact aJ
   |true=>
    rw[c3]at ple;have aH:aG ls≠[]:=fun e=>by have:(0:Nat)∈aG ls:=uF.2 ⟨l0,h0,c1⟩;rw[e]at this;cases this
    have hp:∀v l,ls[v]?=some l->(l.kind==2)=false->v∈aG ls:=fun v l hv h2=>by
     rcases agZ c3 hv with h|h
     .exact uF.2 ⟨l,hv,h⟩
     unfold Let.aB at h;rw[h2]at h;cases h
    have pw:=axG f ls hl aH hp;have Oq:mQ ls=(gH (iw ls (aG ls)) (2*ls.length+2*(aG ls).length)).length:=rfl;have jU:=PB (iw ls (aG ls)) (2*ls.length+2*(aG ls).length) (2*ls.length+2*(aG ls).length);generalize hW:gH (iw ls (aG ls)) (2*ls.length+2*(aG ls).length)=ws at pw jU Oq;have a1:=wrap_add (a:=aq Let.aE ls) (b:=aq Let.aB ls/2) aa;have a2:IntKind.i64.wrap (((aq Let.aE ls+aq Let.aB ls/2:Nat):Int)+2)=((aq Let.aE ls+aq Let.aB ls/2+2:Nat):Int):=wrap_add (a:=aq Let.aE ls+aq Let.aB ls/2) (b:=2) aa;have eL:S.lone 704513152=false:=ah
    have iC:∀(aj:aC),land aj [] 704513152 ((RV.one (.own 105 1 (ws.map fun w=>[CL w]))).gj (S.lone 704513152))=some (.one (.hsl 704513152 ((aj 704513152).1+1) 1 0 ws.length),[(704513152,((aj 704513152).1+1,some (.arr 105 1 (ws.map fun w=>[CL w]))))]):=by intro aj;rw[eL];simp only[RV.gj,land,true_or,if_true,jO,iu,iJ,jt,dw,rQ,mS,cE,jG]
    cases c4:(ws.length==aq Let.aE ls+aq Let.aB ls/2+2)with
    |false=>
     have c4':(((ws.length:Nat):Int)!=((aq Let.aE ls+aq Let.aB ls/2+2:Nat):Int))=true:=by simp at c4 |-;omega
     have hv:my f ls=false:=by simp only[my,h0,c1,c2,c3,Oq,c4];rfl
     rw[hv]at hr;have hr:(3:Int)=r:=hr;subst hr;simp only[go_sem,i11,j6,jB,h3,h4,s29,eW pvi,HU,s30,eW ppa,Bh,Let.ps,c1',jQ,eT,c2',s31,mZ ple,s32,He pw (iC _),s33,ir pcr,a1,a2,c4'];exact aJ
    |true=>
     have c4':(((ws.length:Nat):Int)!=((aq Let.aE ls+aq Let.aB ls/2+2:Nat):Int))=false:=by simp at c4 |-;omega
     have hv:my f ls=true:=by simp only[my,h0,c1,c2,c3,Oq,c4];rfl
     rw[hv]at hr;have hr:(0:Int)=r:=hr;subst hr;simp only[go_sem,i11,j6,jB,h3,h4,s29,eW pvi,HU,s30,eW ppa,Bh,Let.ps,c1',jQ,eT,c2',s31,mZ ple,s32,He pw (iC _),s33,ir pcr,a1,a2,c4'];exact aJ
def dQ(f:Int)(l:Let):Bool:=if l.kind==1 then(((decide (l.gate<0)||decide (f<l.gate))||l.id !=0)||l.sign !=0)||l.over else if l.kind==2 then(l.gate !=0||l.aw !=0)||(l.sign !=1&&l.sign != -1)else true
def al8(f:Int)(l:Let)(x1 x2 x3 x4 x5 x6:PV):aK S 124 [K8 l,.one (.p (.box [.box [.int .i64 f,x1,x2,x3,x4,x5,x6]]))] (rb (dQ f l)):=by
 refine bt c124 ?_;cases k1:(l.kind==1)with
 |true=>
  cases a1:(decide (l.gate<0))with
  |true=>
   have AL:(l.gate<0):=qx a1;have hb:dQ f l=true:=by simp only[dQ,k1,a1];rfl
   simp only[go_sem,i124,k1,AL,hb];exact aJ
  |false=>
   cases a2:(decide (f<l.gate))with
   |true=>
    have AL:¬(l.gate<0):=gZ a1;have Dp:(f<l.gate):=qx a2;have hb:dQ f l=true:=by simp only[dQ,k1,a1,a2];rfl
    simp only[go_sem,i124,k1,AL,Dp,hb];exact aJ
   |false=>
    cases a3:(l.id !=0)with
    |true=>
     have AL:¬(l.gate<0):=gZ a1;have Dp:¬(f<l.gate):=gZ a2;have hb:dQ f l=true:=by simp only[dQ,k1,a1,a2,a3];rfl
     simp only[go_sem,i124,k1,AL,Dp,a3,hb];exact aJ
    |false=>
     cases a4:(l.sign !=0)with
     |true=>
      have AL:¬(l.gate<0):=gZ a1;have Dp:¬(f<l.gate):=gZ a2;have hb:dQ f l=true:=by simp only[dQ,k1,a1,a2,a3,a4];rfl
      simp only[go_sem,i124,k1,AL,Dp,a3,a4,hb];exact aJ
     |false=>
      cases a5:(l.over)with
      |true=>
       have AL:¬(l.gate<0):=gZ a1;have Dp:¬(f<l.gate):=gZ a2;have hb:dQ f l=true:=by simp only[dQ,k1,a1,a2,a3,a4,a5];rfl
       simp only[go_sem,i124,k1,AL,Dp,a3,a4,a5,hb];exact aJ
      |false=>
       have AL:¬(l.gate<0):=gZ a1;have Dp:¬(f<l.gate):=gZ a2;have hb:dQ f l=false:=by simp only[dQ,k1,a1,a2,a3,a4,a5];rfl
       simp only[go_sem,i124,k1,AL,Dp,a3,a4,a5,hb];exact aJ
 |false=>
  cases k2:(l.kind==2)with
  |true=>
   cases a1:(l.gate !=0)with
   |true=>
    have hb:dQ f l=true:=by simp only[dQ,k1,k2,a1];rfl
    simp only[go_sem,i124,k1,k2,a1,hb]
   |false=>
    cases a2:(l.aw !=0)with
    |true=>
     have hb:dQ f l=true:=by simp only[dQ,k1,k2,a1,a2];rfl
     simp only[go_sem,i124,k1,k2,a1,a2,hb]
    |false=>
     cases a3:(l.sign !=1)with
     |true=>
      cases a4:(l.sign != -1)with
      |true=>
       have hb:dQ f l=true:=by simp only[dQ,k1,k2,a1,a2,a3,a4];rfl
       simp only[go_sem,i124,k1,k2,a1,a2,a3,a4,hb]
      |false=>
       have hb:dQ f l=false:=by simp only[dQ,k1,k2,a1,a2,a3,a4];rfl
       simp only[go_sem,i124,k1,k2,a1,a2,a3,a4,hb]
     |false=>
      have hb:dQ f l=false:=by simp only[dQ,k1,k2,a1,a2,a3];rfl
      simp only[go_sem,i124,k1,k2,a1,a2,a3,hb]
  |false=>
   have hb:dQ f l=true:=by simp only[dQ,k1,k2];rfl
   simp only[go_sem,i124,k1,k2,hb]
abbrev dfn(f:Int)(x1 x2 x3 x4 x5 x6:PV):PV:=.fn 124 [] [.box [.box [.int .i64 f,x1,x2,x3,x4,x5,x6]]]
def al9(f:Int)(ls:ai)(x1 x2 x3 x4 x5 x6:PV)(hl:ls.length<=1000000)(hn:x1.norm=x1/\x2.norm=x2/\x3.norm=x3/\x4.norm=x4/\x5.norm=x5/\x6.norm=x6):
  ∃k:Int,(0<=k↔ls.any (dQ f)=true)/\aK S 157 [.one (.p (dd ls)),.one (.p (dfn f x1 x2 x3 x4 x5 x6))] (ri k):=by
 have main:∀r:Int,(∀(k:Nat) l,ls[k]?=some l->dQ f l=true->(∀(j:Nat) m,j<k->ls[j]?=some m->dQ f m=false)->r=k)->((∀(j:Nat) m,ls[j]?=some m->dQ f m=false)->r= -1)->
   aK S 157 [.one (.p (dd ls)),.one (.p (dfn f x1 x2 x3 x4 x5 x6))] (ri r):=by
  intro r ke uY;refine bt c157 ?_;simp only[go_sem,i157];refine dD (fun k ak aj=>ak 0=.one (.p (dd ls))/\ak 1=.one (.p (dfn f x1 x2 x3 x4 x5 x6))/\ak 7=vi ls.length/\ak 8=vi k/\ ∀j m,j<k->ls[j]?=some m->dQ f m=false) 0 ls.length (bR _) ?_ ?_
  .simp only[go_sem];exact⟨rfl,fun j m h=>absurd h (o9 j)⟩
  rintro k ak aj hk ⟨h0,h1,h7,h8,hn⟩
  by_cases aA:k<ls.length
  .obtain⟨l,eK⟩:=aL aA;have hi:=jf eK;have aM:((k:Int)<(ls.length:Int)):=aa;have w1:=cU (n:=k) aa;have pb:=al8 f l x1 x2 x3 x4 x5 x6;cases hb:dQ f l with
   |true=>rw[hb]at pb;have hr:=ke k l eK hb hn;subst hr;simp only[go_sem,i157_l1,h0,h1,h7,h8,hi,Let.ps,aM,s124,eD pb]
   |false=>
    rw[hb]at pb;simp only[go_sem,i157_l1,h0,h1,h7,h8,hi,Let.ps,aM,w1,s124,eD pb];refine⟨aA,fun j m hj hm=>?_⟩;rcases oD.1 hj with hj|rfl
    .exact hn j m hj hm
    rw[eK]at hm;cases hm;exact hb
  have:k=ls.length:=aa;subst this;have hr:=uY fun j m hm=>hn j m (aT.1 hm).1 hm;subst hr;simp only[go_sem,i157_l1,i157_r2,h7,h8,eS]
 cases ha:ls.any (dQ f)with
 |true=>
  have hx:ls.findIdx (dQ f)<ls.length:=axS (by simpa using ha);refine⟨(ls.findIdx (dQ f):Nat),⟨fun _=>rfl,fun _=>aa⟩,main _ ?_ ?_⟩
  .intro k l eK hb hn;have hk:=(aT.1 eK).1;have h1:dQ f ls[ls.findIdx (dQ f)]=true:=akx;rcases P9 (ls.findIdx (dQ f)) k with h|h|h
   .have:=hn _ _ h (rS hx);rw[h1]at this;cases this
   .rw[h]
   have:=List.not_of_lt_findIdx h;have e:ls[k]=l:=by rw[rS hk]at eK;exact pz eK
   rw[e,hb]at this;simp at this
  intro hn;have h1:dQ f ls[ls.findIdx (dQ f)]=true:=akx;have:=hn _ _ (rS hx);rw[h1]at this;cases this
 |false=>refine⟨-1,⟨fun h=>aa,fun h=>by cases h⟩,main _ ?_ (fun _=>rfl)⟩;intro k l eK hb _;have:=IZ.1 ha l (aV eK);exact(this hb).elim
def anl(f:Int)(ls:ai)(x1 x2 x3 x4 x5 x6:PV)(hl:ls.length<=1000000)(hn:x1.norm=x1/\x2.norm=x2/\x3.norm=x3/\x4.norm=x4/\x5.norm=x5/\x6.norm=x6):
  aK S 123 [.one (.p (dd ls)),.one (.p (dfn f x1 x2 x3 x4 x5 x6))] (rb (ls.any (dQ f))):=by
 obtain⟨k,hk,pk⟩:=al9 f ls x1 x2 x3 x4 x5 x6 hl hn;refine bt c123 ?_;cases ha:ls.any (dQ f)with
 |true=>have h0:=hk.2 ha;simp only[go_sem,i123,s157,eW pk,h0]
 |false=>
  have h0:¬0<=k:=fun h=>by rw[hk.1 h]at ha;cases ha
  simp only[go_sem,i123,s157,eW pk,h0]
abbrev dgP(f:Int)(ls:ai)(x2 x3 x4 x5 x6:PV):PV:=.box [.int .i64 f,dd ls,x2,x3,x4,x5,x6]
def anN(f:Int)(ls:ai)(x2 x3 x4 x5 x6:PV)(hl:ls.length<=1000000)(hn:x2.norm=x2/\x3.norm=x3/\x4.norm=x4/\x5.norm=x5/\x6.norm=x6):
  aK S 93 [.one (.p (dgP f ls x2 x3 x4 x5 x6))] (rb (!ls.any (dQ f))):=by
 have pc:=anl f ls (dd ls) x2 x3 x4 x5 x6 hl ⟨rfl,hn.1,hn.2.1,hn.2.2.1,hn.2.2.2.1,hn.2.2.2.2⟩;refine bt c93 ?_;simp only[go_sem,i93,s123,eD pc]
def anH(f:Int)(ls:ai)(l0:Let)(x2 x3 x4 x5 x6:PV)(hl:ls.length<=1000000)(h0:ls[0]?=some l0):
  aK S 94 [.one (.p (dgP f ls x2 x3 x4 x5 x6))] (rb (l0.kind==1&&aq Let.aE ls%2==0)):=by
 have pp:=Zm f ls hl;have Bh:=jf h0;refine bt c94 ?_;have e2:((((aq Let.aE ls)%2:Nat):Int)==0)=(aq Let.aE ls%2==0):=by
  cases h:(aq Let.aE ls%2==0)with
  |true=>simp at h |-;omega
  |false=>simp at h |-;omega
 cases hk:(l0.kind==1)with
 |true=>simp only[go_sem,i94,Bh,Let.ps,hk,s48,eW pp,jQ,eT,e2]
 |false=>simp only[go_sem,i94,Bh,Let.ps,hk]
def mE(g:Nat)(l:Let):Bool:=l.aE&&l.gate==(g:Int)
abbrev cg(ls:ai)(g:Nat):Nat:=aq (mE g) ls
def sT(ls:ai)(F k:Nat):a_:=(List.range (F+1)).map fun g=>cg (ls.take k) g
def counts(ls:ai)(F:Nat):a_:=(List.range (F+1)).map (cg ls)
def acd{ls:ai}{k G:Nat}(h:G<=F):(sT ls F k)[G]?=some (cg (ls.take k) G):=by simp[sT,vp (show G<F+1 by omega)]
def UU(ls:ai)(F:Nat):sT ls F ls.length=counts ls F:=by simp[sT,counts]
def UW(ls:ai)(F:Nat):sT ls F 0=List.replicate (F+1) 0:=by apply yU<;>simp[sT]
def acf{ls:ai}{k:Nat}{l:Let}(h:ls[k]?=some l)(hp:l.aE=false):sT ls F (k+1)=sT ls F k:=by unfold sT;congr 1;funext g;exact j4 h (by simp[mE,hp])
def ace{ls:ai}{k G:Nat}{l:Let}(h:ls[k]?=some l)(hp:l.aE=true)(hg:l.gate=(G:Int)):
  sT ls F (k+1)=(sT ls F k).set G (cg (ls.take k) G+1):=by
 apply yU
 .simp[sT]
 intro i h1 h2;rw[Mg];simp only[sT,EW,Mf];split
 .rename_i e;subst e;exact sQ h (by simp[mE,hp,hg])
 exact j4 h (by simp[mE,hg];intro _ e;omega)
def Le(o:a_)(k n:Nat):(nP o).set k [.int .i64 (n:Int)]=nP (o.set k n):=by simp[Mi]
def YX(o:a_):(nP o).length=o.length:=af
def YY(n m:Nat):nP (List.replicate n m)=List.replicate n [.int .i64 (m:Int)]:=af
def abp(n:Nat)(b:Bool):bP (List.replicate n b)=List.replicate n [.bool b]:=af
def MX{ls:ai}{k:Nat}{l:Let}(h:ls[k]?=some l)(hp:l.aE=true):dn ls (k+1)= !dn ls k:=by
 unfold dn;rw[sQ h hp];cases hc:(aq Let.aE (ls.take k)%2==0)with
 |true=>simp at hc |-;omega
 |false=>simp at hc |-;omega
def MY{ls:ai}{k:Nat}{l:Let}(h:ls[k]?=some l)(hp:l.aE=false):dn ls (k+1)=dn ls k:=by unfold dn;rw[j4 h hp]
def eN(ls:ai)(i:Nat):Bool:=match ls[i]? with|some l=>l.aE&&dn ls i|none=>false
def uJ(ls:ai)(k:Nat):m_:=(List.range ls.length).map fun i=>decide (i<k)&&eN ls i
def kY(ls:ai):m_:=(List.range ls.length).map (eN ls)
def anU(ls:ai):uJ ls 0=List.replicate ls.length false:=by apply yU<;>simp[uJ]
def anQ(ls:ai):uJ ls ls.length=kY ls:=by unfold uJ kY;apply As;intro i hi;simp[im.1 hi]
def anS(ls:ai)(k:Nat):(uJ ls k).length=ls.length:=by simp[uJ]
def anT{ls:ai}{k:Nat}{l:Let}(h:ls[k]?=some l)(hp:l.aE=false):uJ ls (k+1)=uJ ls k:=by
 unfold uJ;apply As;intro i hi;by_cases e:i=k
 .subst e;simp[eN,h,hp]
 have:(i<k+1)↔(i<k):=aa;simp[this]
def anR{ls:ai}{k:Nat}{l:Let}(h:ls[k]?=some l)(hp:l.aE=true):uJ ls (k+1)=(uJ ls k).set k (dn ls k):=by
 apply yU
 .simp[uJ]
 intro i h1 h2;rw[Mg];simp only[uJ,EW,Mf];split
 .rename_i e;subst e;simp[eN,h,hp]
 have:(i<k+1)↔(i<k):=aa;simp[this]
def fh(ls:ai)(g:Nat):Nat:=((List.range g).map (cg ls)).sum
def uM(ls:ai)(g:Nat):fh ls (g+1)=fh ls g+cg ls g:=by simp[fh,yX]
def xW(ls:ai)(F k:Nat):a_:=(List.range (F+1)).map fun g=>if g<k then fh ls g else 0
def Ka(ls:ai)(F:Nat):a_:=(List.range (F+1)).map (fh ls)
def aoO(ls:ai)(F:Nat):xW ls F 0=List.replicate (F+1) 0:=by apply yU<;>simp[xW]
def aoL(ls:ai)(F:Nat):xW ls F (F+1)=Ka ls F:=by unfold xW Ka;apply As;intro i hi;simp[im.1 hi]
def aoM(ls:ai)(F k:Nat):(xW ls F k).length=F+1:=by simp[xW]
def aoN(ls:ai)(F k:Nat):xW ls F (k+1)=(xW ls F k).set k (fh ls k):=by
 apply yU
 .simp[xW]
 intro i h1 h2;rw[Mg];simp only[xW,EW,Mf];by_cases e:k=i
 .subst e;simp
 have:(i<k+1)↔(i<k):=aa;simp only[this,au e]
def QF{ls:ai}{G:Nat}(h:G<=F):(counts ls F)[G]?=some (cg ls G):=by simp[counts,vp (show G<F+1 by omega)]
def aoP{ls:ai}{G:Nat}(h:G<=F):(Ka ls F)[G]?=some (fh ls G):=by simp[Ka,vp (show G<F+1 by omega)]
def BS{ls:ai}{a b:Nat}(h:a<=b):fh ls a<=fh ls b:=by
 induction h with
 |refl=>exact bY _
 |step _ ih=>rw[uM];omega
def alN(g:Nat)(a:Let):((a.aE&&(decide (0<=a.gate)&&decide (a.gate<((g+1:Nat):Int))))=true)↔((a.aE&&(decide (0<=a.gate)&&decide (a.gate<(g:Int))))=true\/mE g a=true):=by
 simp only[mE,cH,mf,cZ];constructor
 .rintro ⟨h1,h2,h3⟩
  by_cases h:a.gate=(g:Int)
  .exact Or.inr ⟨h1,h⟩
  exact Or.inl ⟨h1,h2,aa⟩
 rintro(⟨h1,h2,h3⟩|⟨h1,h2⟩)
 .exact⟨h1,h2,aa⟩
 exact⟨h1,aa,aa⟩
def alM(g:Nat)(a:Let):(a.aE&&(decide (0<=a.gate)&&decide (a.gate<(g:Int))))=true->mE g a=true->False:=by simp only[mE,cH,mf,cZ];omega
def UT{p q r:Let->Bool}(h:∀a,r a=true↔(p a=true\/q a=true))(hn:∀a,p a=true->q a=true->False):∀ls:ai,ls.countP r=ls.countP p+ls.countP q:=by
 intro ls
 induction ls with
 |nil=>rfl
 |cons a ls ih=>rw[xK,xK,xK,ih];have h1:=h a;have h2:=hn a;cases ep:p a<;>cases eq:q a<;>cases er:r a<;>simp_all<;>omega
def aej(ls:ai):∀g,fh ls g=aq (fun l=>l.aE&&(decide (0<=l.gate)&&decide (l.gate<((g:Nat):Int)))) ls:=by
 intro g
 induction g with
 |zero=>symm;show ls.countP _=0;rw[Mb];intro a _;simp only[cH,mf];omega
 |succ g ih=>rw[uM,ih];exact(UT (alN g) (alM g) ls).symm
def Xb(ls:ai)(g:Nat):fh ls g<=ls.length:=by rw[aej];exact sR _ _
def dF(ls:ai)(l:Let):Nat:=fh ls l.gate.toNat+l.aw.toNat-1
def ua(ls:ai)(p i:Nat):Bool:=match ls[i]? with|some l=>l.aE&&dF ls l==p|none=>false
def yM(ls:ai)(T k:Nat):m_:=(List.range T).map fun p=>(List.range k).any (ua ls p)
def axP(ls:ai)(k p:Nat):Nat:=((List.range k).find? (ua ls p)).getD 0
def tN(ls:ai)(T k:Nat):a_:=(List.range T).map (axP ls k)
def CR(ls:ai)(i:Nat):Nat:=match ls[i]? with|some l=>if l.aE then dF ls l else 0|none=>0
def jX(ls:ai)(k:Nat):a_:=(List.range ls.length).map fun i=>if i<k then CR ls i else 0
def ur(ls:ai)(i:Nat):Bool:=match ls[i]? with
 |some l=> !l.aE||(decide (1<=l.aw)&&decide (l.aw<=(cg ls l.gate.toNat:Int)))&& !(List.range i).any (ua ls (dF ls l))
 |none=>true
def Ac(ls:ai):Bool:=(List.range ls.length).all (ur ls)
def aw0(ls:ai)(T:Nat):yM ls T 0=List.replicate T false:=by apply yU<;>simp[yM]
def alQ(ls:ai)(T:Nat):tN ls T 0=List.replicate T 0:=by apply yU<;>simp[tN,axP]
def atK(ls:ai):jX ls 0=List.replicate ls.length 0:=by apply yU<;>simp[jX]
def abk(ls:ai)(T k:Nat):(tN ls T k).length=T:=by simp[tN]
def atI(ls:ai)(k:Nat):(jX ls k).length=ls.length:=by simp[jX]
def awX{ls:ai}{T k p:Nat}(h:p<T):(yM ls T k)[p]?=some ((List.range k).any (ua ls p)):=by simp[yM,h]
def afb{ls:ai}{k p:Nat}{l:Let}(h:ls[k]?=some l)(hp:l.aE=false):ua ls p k=false:=by simp[ua,h,hp]
def awZ{ls:ai}{T k:Nat}{l:Let}(h:ls[k]?=some l)(hp:l.aE=false):yM ls T (k+1)=yM ls T k:=by unfold yM;congr 1;funext p;simp[yX,aal,afb h hp]
def alP{ls:ai}{T k:Nat}{l:Let}(h:ls[k]?=some l)(hp:l.aE=false):tN ls T (k+1)=tN ls T k:=by unfold tN;congr 1;funext p;simp[axP,yX,akw,afb h hp]
def atJ{ls:ai}{k:Nat}{l:Let}(h:ls[k]?=some l)(hp:l.aE=false):jX ls (k+1)=jX ls k:=by
 unfold jX;apply As;intro i hi;by_cases e:i=k
 .subst e;simp[CR,h,hp]
 have:(i<k+1)↔(i<k):=aa;simp[this]
def NY{ls:ai}{k p:Nat}{l:Let}(h:ls[k]?=some l)(hp:l.aE=true):ua ls p k=(dF ls l==p):=by simp[ua,h,hp]
def awY{ls:ai}{T k:Nat}{l:Let}(h:ls[k]?=some l)(hp:l.aE=true):yM ls T (k+1)=(yM ls T k).set (dF ls l) true:=by
 apply yU
 .simp[yM]
 intro i h1 h2;rw[Mg];simp only[yM,EW,Mf,yX,aal,List.any_cons,List.any_nil,Bool.or_false,NY h hp];split
 .rename_i e;simp[e]
 rename_i e;simp[e]
def alO{ls:ai}{T k:Nat}{l:Let}(h:ls[k]?=some l)(hp:l.aE=true)(hn:(List.range k).any (ua ls (dF ls l))=false):tN ls T (k+1)=(tN ls T k).set (dF ls l) k:=by
 apply yU
 .simp[tN]
 intro i h1 h2;rw[Mg];simp only[tN,EW,Mf,axP,yX,akw];by_cases e:dF ls l=i
 .have h3:(List.range k).find? (ua ls i)=none:=by
   rw[<-e,Jb];intro x hx hq;rw[IZ]at hn;exact hn x hx hq
  have h4:ua ls i k=true:=by rw[NY h hp];simp[e]
  rw[h3,aD e,List.find?_cons,h4];rfl
 have h4:ua ls i k=false:=by rw[NY h hp];simp[e]
 rw[au e,List.find?_cons,h4];simp
def atH{ls:ai}{k:Nat}{l:Let}(h:ls[k]?=some l)(hp:l.aE=true):jX ls (k+1)=(jX ls k).set k (dF ls l):=by
 apply yU
 .simp[jX]
 intro i h1 h2;rw[Mg];simp only[jX,EW,Mf];by_cases e:k=i
 .subst e;simp[CR,h,hp]
 have:(i<k+1)↔(i<k):=aa;simp only[this,au e]
def Zx{ls:ai}{k:Nat}(hk:k<ls.length)(h:ur ls k=false):Ac ls=false:=by unfold Ac;rw[aak];exact⟨k,im.2 hk,by simp[h]⟩
def auE{ls:ai}(h:∀i,i<ls.length->ur ls i=true):Ac ls=true:=by unfold Ac;rw[gk];exact fun i hi=>h i (im.1 hi)
abbrev Ji(id:Nat):Prop:=id=2496320128\/jw id=95
abbrev wS(F:Nat)(ls:ai)(c2 c3 c4 c5 c6:C):f_:=[.p (.int .i64 (F:Int)),.p (dd ls),c2,c3,c4,c5,c6]
abbrev hs(id g n:Nat):C:=.hsl id g 1 0 n
abbrev r6(F:Nat)(ls:ai):Prop:=∀l∈ls,l.aE=true->0<=l.gate/\l.gate<=(F:Int)
def LF(F:Nat)(ls:ai)(g:Nat)(c5:C)(pK:aC)(v:V)(ao:aC):Prop:=
 v=vb (Ac ls)/\Kept Ji pK ao/\(Ac ls=true->∃g1 g2 g3 g5,ao 2496320128=(g,some (.var (wS F ls (hs 6080128448 g2 ls.length) (hs 6081344128 g5 (fh ls (F+1))) (hs 6080192448 g3 ls.length) c5 (hs 6080064448 g1 (F+1)))))/\
  ao 6080064448=(g1,some (.arr 3 1 (nP (counts ls F))))/\ao 6080128448=(g2,some (.arr 4 1 (bP (kY ls))))/\ao 6080192448=(g3,some (.arr 3 1 (nP (jX ls ls.length))))/\
  ao 6081344128=(g5,some (.arr 3 1 (nP (tN ls (fh ls (F+1)) ls.length)))))
def rk3{al:Al}(okD:al.ok 2496320128=true)(ok:∀id,jw id=95->al.ok id=true){pK aj:aC}{ak:Env}{g g1 g2 g3 g4 F:Nat}{ls:ai}{c3 c5:C}(hl:ls.length<=1000000)(hF:F<=1000000)(hg:r6 F ls)
  (h0:ak 0=.one (.aZ 2496320128 g 0)) (h6:ak 6=.one (hs 6080832384 g4 (F+1))) (h7:ak 7=vi (fh ls (F+1)))
  (bD:aj 2496320128=(g,some (.var (wS F ls (hs 6080128448 g2 ls.length) c3 (hs 6080192448 g3 ls.length) c5 (hs 6080064448 g1 (F+1))))))
  (bC:aj 6080064448=(g1,some (.arr 3 1 (nP (counts ls F))))) (bW:aj 6080128448=(g2,some (.arr 4 1 (bP (kY ls))))) (qB:aj 6080192448=(g3,some (.arr 3 1 (nP (jX ls 0)))))
  (bF:aj 6080832384=(g4,some (.arr 3 1 (nP (Ka ls F))))) (hk:Kept Ji pK aj):W S al i95_r5 (oJ al [(2,none)] (LF F ls g c5 pK)) ak aj:=by
 have o1:=ok 6080064448 rfl;have o2:=ok 6080128448 rfl;have o3:=ok 6080192448 rfl;have o4:=ok 6080448192 rfl;have o5:=ok 6080832384 rfl;have o6:=ok 6081344128 rfl;have o7:=ok 6081408064 rfl;have o8:=ok 6081600192 rfl;have hT:=Xb ls (F+1);have OD:fh ls (F+1)*8<=140737488355328:=aa;have ke:fh ls (F+1)<=140737488355328:=aa;simp only[go_sem,i95_r5,h0,h7,bD,OD,ke,okD,o6,o7];refine dD (fun k ak ao=>ak 0=.one (.aZ 2496320128 g 0)/\ak 6=.one (hs 6080832384 g4 (F+1))/\ak 10=.one (hs 6081408064 ((aj 6081408064).1+1) (fh ls (F+1)))/\ak 114=.one (.p (dd ls))/\ak 115=vi ls.length/\ak 116=vi k/\
  ao 2496320128=(g,some (.var (wS F ls (hs 6080128448 g2 ls.length) (hs 6081344128 ((aj 6081344128).1+1) (fh ls (F+1))) (hs 6080192448 g3 ls.length) c5 (hs 6080064448 g1 (F+1)))))/\
  ao 6080064448=(g1,some (.arr 3 1 (nP (counts ls F))))/\ao 6080128448=(g2,some (.arr 4 1 (bP (kY ls))))/\ao 6080192448=(g3,some (.arr 3 1 (nP (jX ls k))))/\
  ao 6080832384=(g4,some (.arr 3 1 (nP (Ka ls F))))/\ao 6081344128=((aj 6081344128).1+1,some (.arr 3 1 (nP (tN ls (fh ls (F+1)) k))))/\ao 6081408064=((aj 6081408064).1+1,some (.arr 4 1 (bP (yM ls (fh ls (F+1)) k))))/\
  (∀i,i<k->ur ls i=true)/\Kept Ji pK ao) 0 ls.length (bR _) ?_ ?_
 .simp only[go_sem,h0,h6,bC,bW,qB,bF,alQ,aw0,YY,abp];refine⟨rfl,rfl,fun i h=>absurd h (o9 i),?_⟩;repeat(first|exact hk|refine Kept.eh ?_ (by first|exact Or.inl rfl|exact Or.inr rfl) _)
 rintro k ak ao hk ⟨h0,h6,fq,Ny,Kj,FH,bD,bC,bW,qB,bF,bA,bT,ay,dM⟩
 by_cases aA:k<ls.length
 .obtain⟨l,eK⟩:=aL aA;have hi:=jf eK;have aM:((k:Int)<(ls.length:Int)):=aa;have w1:=cU (n:=k) aa;cases hp:(l.kind==1)with
  |false=>
   have gh:l.aE=false:=hp;have ml:(l.kind !=1)=true:=by simp[bne,hp]
   have mq:ur ls k=true:=by simp[ur,eK,gh]
   simp only[go_sem,i95_l3,h0,h6,fq,Ny,Kj,FH,bD,bC,bW,bF,qB,bA,bT,hi,Let.ps,aM,ml,w1,o8];refine⟨aA,?_,?_,?_,?_,?_⟩
   .rw[atJ eK gh]
   .rw[alP eK gh]
   .rw[awZ eK gh]
   .intro i hi;rcases oD.1 hi with h|rfl
    .exact ay i h
    exact mq
   repeat(first|exact dM|refine Kept.eh ?_ (by first|exact Or.inl rfl|exact Or.inr rfl) _)
  |true=>
   have gh:l.aE=true:=hp;have ml:(l.kind !=1)=false:=by simp[bne,hp]
   obtain⟨HM,Ec⟩:=hg l (aV eK) gh;obtain⟨G,hG⟩:=tJ HM;have Kl:G<=F:=aa;have Hw:G<F+1:=aa;have yl:=kN (QF (ls:=ls) Kl);have Ca:=kN (aoP (ls:=ls) Kl);have qK:l.gate.toNat=G:=aa;cases r1:decide (l.aw<1)with
   |true=>have tC:l.aw<1:=qx r1;have r1n:¬1<=l.aw:=aa;have dR:=Zx aA (show ur ls k=false by simp[ur,eK,gh,r1n]);simp only[go_sem,i95_l3,Ny,Kj,FH,hi,Let.ps,aM,ml,tC,o8];refine⟨aJ,?_⟩;unfold LF;refine⟨by rw[dR],?_,fun h=>by rw[dR]at h;cases h⟩;repeat(first|exact dM|refine Kept.eh ?_ (by first|exact Or.inl rfl|exact Or.inr rfl) _)
   |false=>
    have tC:¬l.aw<1:=gZ r1;obtain⟨R,hR⟩:=tJ (show 0<=l.aw by omega);have r1R:¬((R:Int)<1):=aa;cases r2:decide ((cg ls G:Int)<(R:Int))with
    |true=>
     have uq:(cg ls G:Int)<(R:Int):=qx r2;have r2n:¬l.aw<=(cg ls l.gate.toNat:Int):=by rw[qK];omega
     have dR:=Zx aA (show ur ls k=false by simp[ur,eK,gh,r2n]);simp only[go_sem,i95_l3,h0,Ny,Kj,FH,bD,bC,hi,Let.ps,aM,ml,hR,hG,r1R,uq,yl,Hw,okD,o1,o8];refine⟨aJ,?_⟩;unfold LF;refine⟨by rw[dR],?_,fun h=>by rw[dR]at h;cases h⟩;repeat(first|exact dM|refine Kept.eh ?_ (by first|exact Or.inl rfl|exact Or.inr rfl) _)
    |false=>
     have uq:¬(cg ls G:Int)<(R:Int):=gZ r2;have hfle:=Xb ls G;have hmono:=BS (ls:=ls) (show G+1<=F+1 by omega);have yq:=uM ls G;have hPT:dF ls l<fh ls (F+1):=by unfold dF;rw[qK];omega
     have bU:fh ls G+R-1=dF ls l:=by unfold dF;rw[qK];omega
     have cS:cg ls G<=ls.length:=sR _ _;have w2:=wrap_add (a:=fh ls G) (b:=R) aa;have w3:=IS (a:=fh ls G+R) aa aa;rw[bU]at w3;have HZ:=tO (awX (ls:=ls) (k:=k) hPT);cases hu:(List.range k).any (ua ls (dF ls l))with
     |true=>rw[hu]at HZ;have dR:=Zx aA (show ur ls k=false by simp[ur,eK,gh,hu]);simp only[go_sem,i95_l3,h0,h6,fq,Ny,Kj,FH,bD,bC,bF,bT,hi,Let.ps,aM,ml,hR,hG,r1R,uq,yl,Ca,Hw,w2,w3,HZ,hPT,okD,o1,o5,o7,o8];refine⟨aJ,aJ,?_⟩;unfold LF;refine⟨by rw[dR],?_,fun h=>by rw[dR]at h;cases h⟩;repeat(first|exact dM|refine Kept.eh ?_ (by first|exact Or.inl rfl|exact Or.inr rfl) _)
     |false=>
      rw[hu]at HZ;have mq:ur ls k=true:=by
       have e1:1<=l.aw:=aa;have e2:l.aw<=(cg ls l.gate.toNat:Int):=by rw[qK];omega
       simp[ur,eK,e1,e2,hu]
      obtain⟨a0,yg⟩:=aL (show dF ls l<(tN ls (fh ls (F+1)) k).length by rw[abk];exact hPT);obtain⟨p0,yv⟩:=aL (show k<(jX ls k).length by rw[atI];exact aA);have yg:=kN yg;have yv:=kN yv;have s1:=Jy (yM ls (fh ls (F+1)) k) (dF ls l) true;rw[<-awY eK gh]at s1;have s2:=Le (tN ls (fh ls (F+1)) k) (dF ls l) k;rw[<-alO eK gh hu]at s2;have s3:=Le (jX ls k) k (dF ls l);rw[<-atH eK gh]at s3;simp only[go_sem,i95_l3,h0,h6,fq,Ny,Kj,FH,bD,bC,bW,bF,qB,bA,bT,hi,Let.ps,aM,aA,ml,w1,hR,hG,r1R,uq,yl,Ca,Hw,w2,w3,HZ,hPT,yg,yv,s1,s2,s3,okD,o1,o3,o5,o6,o7,o8];refine⟨aJ,aJ,aJ,?_,?_⟩
      .intro i hi;rcases oD.1 hi with h|rfl
       .exact ay i h
       exact mq
      repeat(first|exact dM|refine Kept.eh ?_ (by first|exact Or.inl rfl|exact Or.inr rfl) _)
 have:k=ls.length:=aa;subst this;have hr:=auE ay;simp only[go_sem,i95_l3,i95_r4,Kj,FH,eS];exact⟨by rw[hr],dM,fun _=>⟨g1,g2,g3,(aj 6081344128).1+1,bD,bC,bW,qB,bA⟩⟩
def rk2{al:Al}(okD:al.ok 2496320128=true)(ok:∀id,jw id=95->al.ok id=true){pK aj:aC}{ak:Env}{g g1 g2 g3 F:Nat}{ls:ai}{c3 c5:C}(hl:ls.length<=1000000)(hF:F<=1000000)(hg:r6 F ls)
  (h0:ak 0=.one (.aZ 2496320128 g 0))
  (bD:aj 2496320128=(g,some (.var (wS F ls (hs 6080128448 g2 ls.length) c3 (hs 6080192448 g3 ls.length) c5 (hs 6080064448 g1 (F+1))))))
  (bC:aj 6080064448=(g1,some (.arr 3 1 (nP (counts ls F))))) (bW:aj 6080128448=(g2,some (.arr 4 1 (bP (kY ls))))) (qB:aj 6080192448=(g3,some (.arr 3 1 (nP (jX ls 0)))))
  (hk:Kept Ji pK aj):W S al i95_r6 (oJ al [(2,none)] (LF F ls g c5 pK)) ak aj:=by
 have o1:=ok 6080064448 rfl;have o2:=ok 6080128448 rfl;have o3:=ok 6080192448 rfl;have o4:=ok 6080448192 rfl;have o5:=ok 6080832384 rfl;have o6:=ok 6081344128 rfl;have o7:=ok 6081408064 rfl;have o8:=ok 6081600192 rfl;have OD:(F+1)*8<=140737488355328:=aa;have wF:=cU (n:=F) aa;simp only[go_sem,i95_r6,h0,bD,wF,OD,okD,o5];refine dD (fun k ak ao=>ak 0=.one (.aZ 2496320128 g 0)/\ak 6=.one (hs 6080832384 ((aj 6080832384).1+1) (F+1))/\ak 7=vi (fh ls k)/\ak 88=.one (hs 6080064448 g1 (F+1))/\ak 89=vi ((F+1:Nat):Int)/\ak 90=vi k/\
  ao 2496320128=(g,some (.var (wS F ls (hs 6080128448 g2 ls.length) c3 (hs 6080192448 g3 ls.length) c5 (hs 6080064448 g1 (F+1)))))/\
  ao 6080064448=(g1,some (.arr 3 1 (nP (counts ls F))))/\ao 6080128448=(g2,some (.arr 4 1 (bP (kY ls))))/\ao 6080192448=(g3,some (.arr 3 1 (nP (jX ls 0))))/\
  ao 6080832384=((aj 6080832384).1+1,some (.arr 3 1 (nP (xW ls F k))))/\Kept Ji pK ao) 0 (F+1) (bR _) ?_ ?_
 .simp only[go_sem,h0,bD,bC,bW,qB,aoO,YY];refine⟨rfl,rfl,rfl,?_⟩;repeat(first|exact hk|refine Kept.eh ?_ (by first|exact Or.inl rfl|exact Or.inr rfl) _)
 rintro k ak ao hk ⟨h0,h6,h7,h88,h89,h90,bD,bC,bW,qB,bF,dM⟩
 by_cases aA:k<F+1
 .have aM:((k:Int)<((F+1:Nat):Int)):=aa;have w1:=cU (n:=k) aa;have hc:=kN (QF (ls:=ls) (show k<=F by omega));obtain⟨a0,ha⟩:=aL (show k<(xW ls F k).length by rw[aoM];exact aA);have ha:=kN ha;have s1:=Le (xW ls F k) k (fh ls k);rw[<-aoN]at s1;have hs:=uM ls k;have hle:=Xb ls (k+1);have w2:=wrap_add (a:=fh ls k) (b:=cg ls k) aa;rw[<-hs]at w2;simp only[go_sem,i95_l2,h0,h6,h7,h88,h89,h90,bD,bC,bW,qB,bF,aA,aM,hc,ha,s1,w1,w2,o1,o5];repeat(first|exact dM|refine Kept.eh ?_ (by first|exact Or.inl rfl|exact Or.inr rfl) _)
 have:k=F+1:=aa;subst this;simp only[go_sem,i95_l2,h89,h90,eS];exact rk3 okD ok hl hF hg h0 h6 h7 bD bC bW qB (by rw[bF,aoL]) dM
def auD{al:Al}(okD:al.ok 2496320128=true)(ok:∀id,jw id=95->al.ok id=true){aj:aC}{g F:Nat}{ls:ai}{c2 c3 c4 c5 c6:C}(hl:ls.length<=1000000)(hF:F<=1000000)(hg:r6 F ls)
  (bD:aj 2496320128=(g,some (.var (wS F ls c2 c3 c4 c5 c6)))):∃v ao,jg S 95 [.one (.aZ 2496320128 g 0)] al aj v ao/\LF F ls g c5 aj v ao:=by
 have o1:=ok 6080064448 rfl;have o2:=ok 6080128448 rfl;have o3:=ok 6080192448 rfl;have o4:=ok 6080448192 rfl;have o5:=ok 6080832384 rfl;have o6:=ok 6081344128 rfl;have o7:=ok 6081408064 rfl;have o8:=ok 6081600192 rfl;refine nL c95 (iH rfl) ?_;have OD:(F+1)*8<=140737488355328:=aa;have hn8:ls.length*8<=140737488355328:=aa;have iL:ls.length<=140737488355328:=aa;have wF:=cU (n:=F) aa;simp only[go_sem,i95,bD,wF,OD,hn8,iL,okD,o1,o2,o3];refine dD (fun k ak ao=>ak 0=.one (.aZ 2496320128 g 0)/\ak 3=vb (dn ls k)/\ak 48=.one (.p (dd ls))/\ak 49=vi ls.length/\ak 50=vi k/\
  ao 2496320128=(g,some (.var (wS F ls (hs 6080128448 ((aj 6080128448).1+1) ls.length) c3 (hs 6080192448 ((aj 6080192448).1+1) ls.length) c5 (hs 6080064448 ((aj 6080064448).1+1) (F+1)))))/\
  ao 6080064448=((aj 6080064448).1+1,some (.arr 3 1 (nP (sT ls F k))))/\ao 6080128448=((aj 6080128448).1+1,some (.arr 4 1 (bP (uJ ls k))))/\ao 6080192448=((aj 6080192448).1+1,some (.arr 3 1 (nP (jX ls 0))))/\
  Kept Ji aj ao) 0 ls.length (bR _) ?_ ?_
 .simp only[go_sem,bD,UW,anU,atK,YY,abp];refine⟨rfl,rfl,rfl,rfl,?_⟩;repeat(first|exact(Kept.refl _ _)|refine Kept.eh ?_ (by first|exact Or.inl rfl|exact Or.inr rfl) _)
 rintro k ak ao hk ⟨h0,h3,zu,h49,h50,bD,bC,bW,qB,dM⟩
 by_cases aA:k<ls.length
 .obtain⟨l,eK⟩:=aL aA;have hi:=jf eK;have aM:((k:Int)<(ls.length:Int)):=aa;have w1:=cU (n:=k) aa;cases hp:(l.kind==1)with
  |false=>
   have gh:l.aE=false:=hp;simp only[go_sem,i95_l1,h0,h3,zu,h49,h50,bD,bC,bW,qB,hi,Let.ps,aM,hp,w1,o4];refine⟨aA,?_,?_,?_,?_⟩
   .rw[MY eK gh]
   .rw[acf eK gh]
   .rw[anT eK gh]
   repeat(first|exact dM|refine Kept.eh ?_ (by first|exact Or.inl rfl|exact Or.inr rfl) _)
  |true=>have gh:l.aE=true:=hp;obtain⟨HM,Ec⟩:=hg l (aV eK) gh;obtain⟨G,hG⟩:=tJ HM;have Kl:G<=F:=aa;have Hw:G<F+1:=aa;have yl:=kN (acd (ls:=ls) (k:=k) Kl);have cS:cg (ls.take k) G<=k:=AR _ _ _;have w2:=cU (n:=cg (ls.take k) G) aa;have s1:=Le (sT ls F k) G (cg (ls.take k) G+1);rw[<-ace eK gh hG]at s1;obtain⟨b0,hb⟩:=aL (show k<(uJ ls k).length by rw[anS];exact aA);have hb:=tO hb;have s2:=Jy (uJ ls k) k (dn ls k);rw[<-anR eK gh]at s2;have hd:=MX eK gh;simp only[go_sem,i95_l1,h0,h3,zu,h49,h50,bD,bC,bW,qB,hi,Let.ps,aM,aA,hp,w1,hG,yl,Hw,w2,s1,hb,s2,hd,okD,o1,o2,o4];refine⟨aJ,?_⟩;repeat(first|exact dM|refine Kept.eh ?_ (by first|exact Or.inl rfl|exact Or.inr rfl) _)
 have:k=ls.length:=aa;subst this;simp only[go_sem,i95_l1,h49,h50,eS];exact rk2 okD ok hl hF hg h0 bD (by rw[bC,UU]) (by rw[bW,anQ]) qB dM
def r9(ls:ai)(id:Int)(o:Bool)(j:Nat):Bool:=match ls[j]? with|some m=>m.aB&&(m.id==id&&m.over==o)|none=>false
def gU(ls:ai)(k:Nat)(id:Int)(o:Bool):w_:=(List.range k).find? (r9 ls id o)
def Dc:w_->Int
 |some j=>j
 |none=> -1
def fA(ls:ai):Nat->d_
 |0=>[]
 |k+1=>match ls[k]? with
  |some l=>if l.aB&& !(fA ls k).contains l.id then fA ls k++[l.id]else fA ls k
  |none=>fA ls k
def rZ(ls:ai)(k:Nat)(id:Int):b_:=[.int .i64 (Dc (gU ls k id false)),.int .i64 (Dc (gU ls k id true))]
def qR(ls:ai)(k:Nat):t_:=(fA ls k).map fun id=>(PV.int .i64 id,rZ ls k id)
def EJ(ls:ai)(j:Nat):Int:=((ls[j]?).map Let.sign).getD 0
def nH(ls:ai)(n2:Nat)(k:Nat):Bool:=match ls[k]? with
 |some l=> !l.aB||((decide (1<=l.id)&&decide (l.id<=(n2:Int)))&&((gU ls k l.id l.over).isNone&&(match gU ls k l.id (!l.over)with|some j=>EJ ls j==l.sign|none=>true)))
 |none=>true
def mJ(ls:ai):Bool:=(aq Let.aB ls%2==0)&&(List.range ls.length).all (nH ls (aq Let.aB ls/2))&&((fA ls ls.length).length==aq Let.aB ls/2)
def KA{ls:ai}{k:Nat}{l:Let}(h:ls[k]?=some l)(hc:l.aB=true)(id:Int)(o:Bool):r9 ls id o k=(l.id==id&&l.over==o):=by simp[r9,h,hc]
def afj{ls:ai}{k:Nat}{l:Let}(h:ls[k]?=some l)(hc:l.aB=false)(id:Int)(o:Bool):r9 ls id o k=false:=by simp[r9,h,hc]
def TH(ls:ai)(k:Nat)(id:Int)(o:Bool):gU ls (k+1) id o=(gU ls k id o).or (if r9 ls id o k then some k else none):=by simp only[gU,yX,akw,List.find?_cons,List.find?_nil];cases r9 ls id o k<;>rfl
def IP{ls:ai}{k:Nat}{id:Int}{o:Bool}{j:Nat}(h:gU ls k id o=some j):j<k/\r9 ls id o j=true:=
 ⟨im.1 (Jf h),Md h⟩
def Cd{ls:ai}{id:Int}{o:Bool}{j:Nat}(h:r9 ls id o j=true):∃m,ls[j]?=some m/\m.aB=true/\m.id=id/\m.over=o:=by
 unfold r9 at h;split at h
 .rename_i m hm;simp only[cH,cZ]at h;exact⟨m,hm,h.1,h.2.1,h.2.2⟩
 cases h
def PA{ls:ai}{k:Nat}{id:Int}{o:Bool}(h:gU ls k id o=none){j:Nat}(hj:j<k):r9 ls id o j=false:=by
 have:=Jb.1 h j (im.2 hj)
 simpa using this
def afG{ls:ai}{k:Nat}{l:Let}(h:ls[k]?=some l)(hc:l.aB=false):fA ls (k+1)=fA ls k:=by simp[fA,h,hc]
def afH{ls:ai}{k:Nat}{l:Let}(h:ls[k]?=some l)(hc:l.aB=true)(hn:l.id∉fA ls k):fA ls (k+1)=fA ls k++[l.id]:=by simp[fA,h,hc,hn]
def afI{ls:ai}{k:Nat}{l:Let}(h:ls[k]?=some l)(hn:l.id∈fA ls k):fA ls (k+1)=fA ls k:=by simp[fA,h,hn]
def asx{ls:ai}{k:Nat}{l:Let}(h:ls[k]?=some l)(hc:l.aB=false):qR ls (k+1)=qR ls k:=by unfold qR rZ;rw[afG h hc];simp[TH,afj h hc]
def aqX{ls:ai}{id:Int}:∀(k:Nat),k<=ls.length->(id∈fA ls k↔ ∃j o,j<k/\r9 ls id o j=true):=by
 intro k
 induction k with
 |zero=>intro _;simp[fA]
 |succ k ih=>
  intro hk;obtain⟨l,hl⟩:=aL (show k<ls.length by omega);have ih:=ih aa;have old:(∃j o,j<k/\r9 ls id o j=true)->∃j o,j<k+1/\r9 ls id o j=true:=fun⟨j,o,h1,h2⟩=>⟨j,o,aa,h2⟩;cases hc:l.aB with
  |false=>
   rw[afG hl hc,ih];refine⟨old,?_⟩;rintro⟨j,o,h1,h2⟩
   rcases oD.1 h1 with h|rfl
   .exact⟨j,o,h,h2⟩
   rw[afj hl hc]at h2;cases h2
  |true=>
   have key:id∈fA ls (k+1)↔(id∈fA ls k\/id=l.id):=by
    by_cases hm:l.id∈fA ls k
    .rw[afI hl hm];exact⟨Or.inl,fun h=>h.elim fy (fun e=>e▸hm)⟩
    rw[afH hl hc hm];simp
   rw[key,ih];constructor
   .rintro (h|rfl)
    .exact old h
    exact⟨k,l.over,aa,by rw[KA hl hc];simp⟩
   rintro⟨j,o,h1,h2⟩
   rcases oD.1 h1 with h|rfl
   .exact Or.inl ⟨j,o,h,h2⟩
   rw[KA hl hc]at h2;simp only[cH,cZ]at h2;exact Or.inr h2.1.symm
where fy {p:Prop} (h:p):p:=h
def Ig{ls:ai}{id:Int}{k:Nat}(h:k<=ls.length):id∈fA ls k↔ ∃j o,j<k/\r9 ls id o j=true:=aqX k h
def Sf(ls:ai):∀k,(fA ls k).Nodup:=by
 intro k
 induction k with
 |zero=>simp[fA]
 |succ k ih=>
  unfold fA;split
  .split
   .rename_i h;simp only[cH,l9,aam,decide_eq_false_iff_not]at h;rw[GG];refine⟨ih,af,?_⟩;intro a ha b hb;simp only[lI]at hb;subst hb;rintro rfl
    exact h.2 ha
   exact ih
  exact ih
def axs{ls:ai}{k:Nat}(hk:k<=ls.length){id:Int}(h:id∉fA ls k)(o:Bool):gU ls k id o=none:=by
 cases hv:gU ls k id o with
 |none=>rfl
 |some j=>obtain⟨h1,h2⟩:=IP hv;exact absurd ((Ig hk).2 ⟨j,o,h1,h2⟩) h
def aj0{ls:ai}{k:Nat}(hk:k<=ls.length){id:Int}(h:id∈fA ls k)(o:Bool)(hn:gU ls k id o=none):∃j m,gU ls k id (!o)=some j/\ls[j]?=some m/\j<k:=by
 obtain⟨j,o',h1,h2⟩:=(Ig hk).1 h;by_cases e:o'=o
 .subst e;rw[PA hn h1]at h2;cases h2
 have e:o'= !o:=by cases o<;>cases o'<;>simp_all
 subst e;cases hv:gU ls k id (!o)with
 |none=>rw[PA hv h1]at h2;cases h2
 |some i=>obtain⟨h3,h4⟩:=IP hv;obtain⟨m,hm,_⟩:=Cd h4;exact⟨i,m,rfl,hm,h3⟩
def aj1{ls:ai}{k:Nat}{l:Let}(h:ls[k]?=some l)(hc:l.aB=true){id:Int}(hn:¬l.id=id)(o:Bool):gU ls (k+1) id o=gU ls k id o:=by rw[TH,KA h hc];simp[hn]
def Z7{ls:ai}{k:Nat}{l:Let}(h:ls[k]?=some l)(hc:l.aB=true)(hn:gU ls k l.id l.over=none):gU ls (k+1) l.id l.over=some k:=by rw[TH,KA h hc,hn];simp
def Z6{ls:ai}{k:Nat}{l:Let}(h:ls[k]?=some l)(hc:l.aB=true):gU ls (k+1) l.id (!l.over)=gU ls k l.id (!l.over):=by rw[TH,KA h hc];cases l.over<;>simp
def acQ{ls:ai}{k:Nat}{l:Let}(h:ls[k]?=some l)(hc:l.aB=true){id:Int}(hn:¬l.id=id):rZ ls (k+1) id=rZ ls k id:=by unfold rZ;rw[aj1 h hc hn,aj1 h hc hn]
def asy{ls:ai}{k:Nat}{l:Let}(h:ls[k]?=some l)(hc:l.aB=true)(hn:l.id∉fA ls k):qR ls (k+1)=qR ls k++[(.int .i64 l.id,rZ ls (k+1) l.id)]:=by unfold qR;rw[afH h hc hn,kS];congr 1;apply As;intro id hid;rw[acQ h hc (by rintro rfl;exact hn hid)]
def asz{ls:ai}{k:Nat}{l:Let}(h:ls[k]?=some l)(hc:l.aB=true)(hn:l.id∈fA ls k):qR ls (k+1)=(qR ls k).set ((fA ls k).idxOf l.id) (.int .i64 l.id,rZ ls (k+1) l.id):=by
 unfold qR;rw[afI h hn];apply yU
 .simp
 intro i h1 h2;rw[Mg];simp only[cE]at h1;by_cases e:(fA ls k).idxOf l.id=i
 .subst e;simp only[EW,aD,aat]
 rw[au e];simp only[EW];rw[acQ h hc];intro e2;apply e;rw[e2];exact(Sf ls k).idxOf_getElem i h1
def aeh(ls:ai)(k:Nat)(q:Int):qF (.int .i64 q) (qR ls k) 0=some (if q∈fA ls k then some ((fA ls k).idxOf q,rZ ls k q)else none):=by unfold qR;rw[aoI];simp
def JM{ls:ai}{k:Nat}(hk:k<ls.length)(h:nH ls (aq Let.aB ls/2) k=false):mJ ls=false:=by have:(List.range ls.length).all (nH ls (aq Let.aB ls/2))=false:=aak.2 ⟨k,im.2 hk,by simp[h]⟩;simp[mJ,this]
def U0{ls:ai}(he:aq Let.aB ls%2=0)(h:∀i,i<ls.length->nH ls (aq Let.aB ls/2) i=true):mJ ls=((fA ls ls.length).length==aq Let.aB ls/2):=by have:(List.range ls.length).all (nH ls (aq Let.aB ls/2))=true:=gk.2 fun i hi=>h i (im.1 hi);simp[mJ,this,he]
abbrev aaI(id:Nat):Prop:=id=2496320128\/jw id=96
def IV(F:Nat)(ls:ai)(g:Nat)(c2 c3 c4 c6:C)(pK:aC)(v:V)(ao:aC):Prop:=v=vb (mJ ls)/\Kept aaI pK ao/\(mJ ls=true->∃g1,ao 2496320128=(g,some (.var (wS F ls c2 c3 c4 (.kL 6144256064 g1) c6)))/\ao 6144256064=(g1,some (.map true (qR ls ls.length))))
def ge0(j:Nat):decide ((0:Int)<=(j:Int))=true:=Dj aa
def wr0:IntKind.i64.wrap 0=0:=ae
def wr1:IntKind.i64.wrap 1=1:=ae
def Lf:((-1:Int)≥0)=False:=af
def neg1':((0:Int)<= -1)=False:=af
def anJ{al:Al}(okD:al.ok 2496320128=true)(ok:∀id,jw id=96->al.ok id=true){aj:aC}{g F:Nat}{ls:ai}{c2 c3 c4 c5 c6:C}(hl:ls.length<=1000000)
  (bD:aj 2496320128=(g,some (.var (wS F ls c2 c3 c4 c5 c6)))):∃v ao,jg S 96 [.one (.aZ 2496320128 g 0)] al aj v ao/\IV F ls g c2 c3 c4 c6 aj v ao:=by
 have o1:=ok 6144256064 rfl;have o2:=ok 6144448192 rfl;have o3:=ok 6144704640 rfl;refine nL c96 (iH rfl) ?_;have pc:=U1 F ls hl;have cS:aq Let.aB ls<=ls.length:=sR _ _;cases he:(((aq Let.aB ls%2:Nat):Int)!=0)with
 |true=>
  have dR:mJ ls=false:=by
   have:(aq Let.aB ls%2==0)=false:=by simp at he |-;omega
   simp[mJ,this]
  simp only[go_sem,i96,bD,s67,Nq pc,jQ,eT,he,okD];exact⟨by rw[dR],Kept.refl _ _,fun h=>by rw[dR]at h;cases h⟩
 |false=>
  have he0:aq Let.aB ls%2=0:=by simp at he;omega
  simp only[go_sem,i96,bD,s67,Nq pc,jQ,eT,he,okD,o1];refine dD (fun k ak ao=>ak 0=.one (.aZ 2496320128 g 0)/\ak 3=vi (aq Let.aB ls)/\ak 25=.one (.p (dd ls))/\ak 26=vi ls.length/\ak 27=vi k/\
   ao 2496320128=(g,some (.var (wS F ls c2 c3 c4 (.kL 6144256064 ((aj 6144256064).1+1)) c6)))/\ao 6144256064=((aj 6144256064).1+1,some (.map true (qR ls k)))/\
   (∀i,i<k->nH ls (aq Let.aB ls/2) i=true)/\Kept aaI aj ao) 0 ls.length (bR _) ?_ ?_
  .simp only[go_sem,bD];refine⟨rfl,rfl,fun i h=>absurd h (o9 i),?_⟩;repeat(first|exact(Kept.refl _ _)|refine Kept.eh ?_ (by first|exact Or.inl rfl|exact Or.inr rfl) _)
  rintro k ak ao hk ⟨h0,h3,nj,zq,zt,bD,bM,ay,dM⟩
  have wq:IntKind.i64.wrap ((aq Let.aB ls/2:Nat):Int)=((aq Let.aB ls/2:Nat):Int):=wrap_small aa;by_cases aA:k<ls.length
  .obtain⟨l,eK⟩:=aL aA;have hi:=jf eK;have aM:((k:Int)<(ls.length:Int)):=aa;have w1:=cU (n:=k) aa;cases hc:(l.kind==2)with
   |false=>
    have iv:l.aB=false:=hc;have hp:(l.kind !=2)=true:=by simp[bne,hc]
    have mq:nH ls (aq Let.aB ls/2) k=true:=by simp[nH,eK,iv]
    simp only[go_sem,i96_l1,h0,h3,nj,zq,zt,bD,bM,hi,Let.ps,aM,hp,w1,o2];refine⟨aA,?_,?_,?_⟩
    .rw[asx eK iv]
    .intro i hi;rcases oD.1 hi with h|rfl
     .exact ay i h
     exact mq
    repeat(first|exact dM|refine Kept.eh ?_ (by first|exact Or.inl rfl|exact Or.inr rfl) _)
   |true=>
    have iv:l.aB=true:=hc;have hp:(l.kind !=2)=false:=by simp[bne,hc]
    cases r1:decide (l.id<1)with
    |true=>have tC:l.id<1:=qx r1;have r1n:¬1<=l.id:=aa;have dR:=JM aA (show nH ls (aq Let.aB ls/2) k=false by simp[nH,eK,iv,r1n]);simp only[go_sem,i96_l1,nj,zq,zt,hi,Let.ps,aM,hp,tC,o2];unfold IV;refine⟨by rw[dR],?_,fun h=>by rw[dR]at h;cases h⟩;repeat(first|exact dM|refine Kept.eh ?_ (by first|exact Or.inl rfl|exact Or.inr rfl) _)
    |false=>
     have tC:¬l.id<1:=gZ r1;have r1y:1<=l.id:=aa;cases r2:decide (((aq Let.aB ls/2:Nat):Int)<l.id)with
     |true=>have uq:((aq Let.aB ls/2:Nat):Int)<l.id:=qx r2;have r2n:¬l.id<=((aq Let.aB ls/2:Nat):Int):=aa;have dR:=JM aA (show nH ls (aq Let.aB ls/2) k=false by simp only[nH,eK,iv,r2n];simp);simp only[go_sem,i96_l1,h3,nj,zq,zt,hi,Let.ps,aM,hp,tC,uq,fR,eT,wq,o2];unfold IV;refine⟨by rw[dR],?_,fun h=>by rw[dR]at h;cases h⟩;repeat(first|exact dM|refine Kept.eh ?_ (by first|exact Or.inl rfl|exact Or.inr rfl) _)
     |false=>
      have uq:¬((aq Let.aB ls/2:Nat):Int)<l.id:=gZ r2;have r2y:l.id<=((aq Let.aB ls/2:Nat):Int):=aa;have hf:=aeh ls k l.id;have oU:nH ls (aq Let.aB ls/2) k=((gU ls k l.id l.over).isNone&&(match gU ls k l.id (!l.over)with|some j=>EJ ls j==l.sign|none=>true)):=by simp only[nH,eK,iv,r1y,r2y,decide_true];rfl
      by_cases hm:l.id∈fA ls k
      .rw[aD hm]at hf;obtain⟨e0,hse⟩:=aL (show(fA ls k).idxOf l.id<(qR ls k).length by simp[qR];exact List.idxOf_lt_length_of_mem hm);have Ci:=asz eK iv hm;have NW:rZ ls k l.id=[.int .i64 (Dc (gU ls k l.id false)),.int .i64 (Dc (gU ls k l.id true))]:=rfl;rw[NW]at hf;cases ho:l.over with
       |true=>
        cases hv:gU ls k l.id true with
        |some j=>have dR:=JM aA (show nH ls (aq Let.aB ls/2) k=false by rw[oU,ho,hv];rfl);rw[hv]at hf;simp only[Dc]at hf;simp only[go_sem,i96_l1,h0,h3,nj,zq,zt,bD,bM,hi,Let.ps,aM,hp,tC,uq,fR,eT,wq,hf,ho,ge0,mapOf,mapVal,iW,Int.reduceNeg,okD,o1,o2,o3];refine⟨aJ,aJ,?_⟩;unfold IV;refine⟨by rw[dR],?_,fun h=>by rw[dR]at h;cases h⟩;repeat(first|exact dM|refine Kept.eh ?_ (by first|exact Or.inl rfl|exact Or.inr rfl) _)
        |none=>
         obtain⟨j,m,hj,HO,hjk⟩:=aj0 hk hm true hv;have hj:gU ls k l.id false=some j:=hj;have Bi:=jf HO;have KL:EJ ls j=m.sign:=by simp[EJ,HO]
         rw[hv,hj]at hf;simp only[Dc]at hf;cases hs:(m.sign==l.sign)with
         |false=>
          have fO:(m.sign !=l.sign)=true:=by simp[bne,hs]
          have dR:=JM aA (show nH ls (aq Let.aB ls/2) k=false by rw[oU,ho,hv];simp only[Ao,hj,KL,hs];rfl);simp only[go_sem,i96_l1,h0,h3,nj,zq,zt,bD,bM,hi,Let.ps,aM,hp,tC,uq,fR,eT,wq,hf,ho,Lf,Bi,fO,wr0,mapOf,mapVal,iW,Int.reduceNeg,Int.reduceSub,okD,o1,o2,o3];refine⟨aJ,aJ,?_⟩;unfold IV;refine⟨by rw[dR],?_,fun h=>by rw[dR]at h;cases h⟩;repeat(first|exact dM|refine Kept.eh ?_ (by first|exact Or.inl rfl|exact Or.inr rfl) _)
         |true=>
          have fO:(m.sign !=l.sign)=false:=by simp[bne,hs]
          have mq:nH ls (aq Let.aB ls/2) k=true:=by rw[oU,ho,hv];simp only[Ao,hj,KL,hs];rfl
          have se:=Z7 eK iv (show gU ls k l.id l.over=none by rw[ho];exact hv);have yx:=Z6 eK iv;rw[ho]at se yx;rw[show gU ls k l.id (!true)=some j from hj]at yx;have XH:rZ ls (k+1) l.id=[.int .i64 (j:Int),.int .i64 (k:Int)]:=by simp only[rZ];rw[se,show gU ls (k+1) l.id false=some j from yx];rfl
          rw[XH]at Ci;simp only[go_sem,i96_l1,h0,h3,nj,zq,zt,bD,bM,hi,Let.ps,aM,hp,w1,tC,uq,fR,eT,wq,hf,ho,Lf,Bi,fO,wr0,mapOf,mapVal,iW,zc,Int.reduceNeg,Int.reduceSub,okD,o1,o2,o3];refine⟨aJ,aJ,aJ,?_⟩;refine⟨aA,?_,?_,?_⟩
          .rw[Ci]
          .intro i hi;rcases oD.1 hi with h|rfl
           .exact ay i h
           exact mq
          repeat(first|exact dM|refine Kept.eh ?_ (by first|exact Or.inl rfl|exact Or.inr rfl) _)
       |false=>
        cases hv:gU ls k l.id false with
        |some j=>have dR:=JM aA (show nH ls (aq Let.aB ls/2) k=false by rw[oU,ho,hv];rfl);rw[hv]at hf;simp only[Dc]at hf;simp only[go_sem,i96_l1,h0,h3,nj,zq,zt,bD,bM,hi,Let.ps,aM,hp,tC,uq,fR,eT,wq,hf,ho,ge0,mapOf,mapVal,iW,Int.reduceNeg,okD,o1,o2,o3];refine⟨aJ,aJ,?_⟩;unfold IV;refine⟨by rw[dR],?_,fun h=>by rw[dR]at h;cases h⟩;repeat(first|exact dM|refine Kept.eh ?_ (by first|exact Or.inl rfl|exact Or.inr rfl) _)
        |none=>
         obtain⟨j,m,hj,HO,hjk⟩:=aj0 hk hm false hv;have hj:gU ls k l.id true=some j:=hj;have Bi:=jf HO;have KL:EJ ls j=m.sign:=by simp[EJ,HO]
         rw[hv,hj]at hf;simp only[Dc]at hf;cases hs:(m.sign==l.sign)with
         |false=>
          have fO:(m.sign !=l.sign)=true:=by simp[bne,hs]
          have dR:=JM aA (show nH ls (aq Let.aB ls/2) k=false by rw[oU,ho,hv];simp only[GC,hj,KL,hs];rfl);simp only[go_sem,i96_l1,h0,h3,nj,zq,zt,bD,bM,hi,Let.ps,aM,hp,tC,uq,fR,eT,wq,hf,ho,Lf,Bi,fO,wr1,mapOf,mapVal,iW,Int.reduceNeg,Int.reduceSub,okD,o1,o2,o3];refine⟨aJ,aJ,?_⟩;unfold IV;refine⟨by rw[dR],?_,fun h=>by rw[dR]at h;cases h⟩;repeat(first|exact dM|refine Kept.eh ?_ (by first|exact Or.inl rfl|exact Or.inr rfl) _)
         |true=>
          have fO:(m.sign !=l.sign)=false:=by simp[bne,hs]
          have mq:nH ls (aq Let.aB ls/2) k=true:=by rw[oU,ho,hv];simp only[GC,hj,KL,hs];rfl
          have se:=Z7 eK iv (show gU ls k l.id l.over=none by rw[ho];exact hv);have yx:=Z6 eK iv;rw[ho]at se yx;rw[show gU ls k l.id (!false)=some j from hj]at yx;have XH:rZ ls (k+1) l.id=[.int .i64 (k:Int),.int .i64 (j:Int)]:=by simp only[rZ];rw[se,show gU ls (k+1) l.id true=some j from yx];rfl
          rw[XH]at Ci;simp only[go_sem,i96_l1,h0,h3,nj,zq,zt,bD,bM,hi,Let.ps,aM,hp,w1,tC,uq,fR,eT,wq,hf,ho,Lf,Bi,fO,wr1,mapOf,mapVal,iW,zc,Int.reduceNeg,Int.reduceSub,okD,o1,o2,o3];refine⟨aJ,aJ,aJ,?_⟩;refine⟨aA,?_,?_,?_⟩
          .rw[Ci]
          .intro i hi;rcases oD.1 hi with h|rfl
           .exact ay i h
           exact mq
          repeat(first|exact dM|refine Kept.eh ?_ (by first|exact Or.inl rfl|exact Or.inr rfl) _)
      rw[au hm]at hf;have hv:=axs hk hm;have nU:=asy eK iv hm;have mq:nH ls (aq Let.aB ls/2) k=true:=by rw[oU,hv,hv];rfl
      have se:=Z7 eK iv (hv _);have yx:=Z6 eK iv;rw[hv]at yx;cases ho:l.over with
      |true=>
       rw[ho]at se yx;have NW:rZ ls (k+1) l.id=[.int .i64 (-1),.int .i64 (k:Int)]:=by simp only[rZ];rw[se,show gU ls (k+1) l.id false=none from yx];rfl
       rw[NW]at nU;simp only[go_sem,i96_l1,h0,h3,nj,zq,zt,bD,bM,hi,Let.ps,aM,hp,w1,tC,uq,fR,eT,wq,hf,ho,Lf,mapOf,mapVal,iW,zc,Qa,Int.reduceNeg,okD,o1,o2,o3];refine⟨aJ,aJ,aJ,?_⟩;refine⟨aA,?_,?_,?_⟩
       .rw[nU]
       .intro i hi;rcases oD.1 hi with h|rfl
        .exact ay i h
        exact mq
       repeat(first|exact dM|refine Kept.eh ?_ (by first|exact Or.inl rfl|exact Or.inr rfl) _)
      |false=>
       rw[ho]at se yx;have NW:rZ ls (k+1) l.id=[.int .i64 (k:Int),.int .i64 (-1)]:=by simp only[rZ];rw[se,show gU ls (k+1) l.id true=none from yx];rfl
       rw[NW]at nU;simp only[go_sem,i96_l1,h0,h3,nj,zq,zt,bD,bM,hi,Let.ps,aM,hp,w1,tC,uq,fR,eT,wq,hf,ho,Lf,mapOf,mapVal,iW,zc,Qa,Int.reduceNeg,okD,o1,o2,o3];refine⟨aJ,aJ,aJ,?_⟩;refine⟨aA,?_,?_,?_⟩
       .rw[nU]
       .intro i hi;rcases oD.1 hi with h|rfl
        .exact ay i h
        exact mq
       repeat(first|exact dM|refine Kept.eh ?_ (by first|exact Or.inl rfl|exact Or.inr rfl) _)
  have:k=ls.length:=aa;subst this;have hr:=U0 he0 ay;have j8:(qR ls ls.length).length=(fA ls ls.length).length:=by simp[qR]
  have hb:((((fA ls ls.length).length:Nat):Int)==((aq Let.aB ls/2:Nat):Int))=((fA ls ls.length).length==aq Let.aB ls/2):=by
   cases h:((fA ls ls.length).length==aq Let.aB ls/2)with
   |true=>simp at h |-;omega
   |false=>simp at h |-;omega
  simp only[go_sem,i96_l1,i96_r2,h0,h3,zq,zt,bD,bM,eS,Bp,Int.reduceNeg,j8,fR,eT,wq,hb,okD,o1];exact⟨by rw[hr],dM,fun _=>⟨_,bD,bM⟩⟩
def Hb{p:Let->Bool}{ls:ai}{i:Nat}{l:Let}(h:ls[i]?=some l)(hp:p l=true):aq p ls=1↔ ∀j m,ls[j]?=some m->p m=true->j=i:=by
 obtain⟨hi,e⟩:=aT.1 h;have hs:ls=ls.take i++l::ls.drop (i+1):=by rw[<-e,uw];simp
 have hc:aq p ls=aq p (ls.take i)+(aq p (ls.drop (i+1))+1):=by
  conv=>lhs;rw[hs]
  simp[aq,xJ,hp]
 constructor
 .intro h1 j m hj hm;have z1:aq p (ls.take i)=0:=aa;have z2:aq p (ls.drop (i+1))=0:=aa;have z1:=Mb.1 z1;have z2:=Mb.1 z2;rcases P9 j i with Cf|Cf|Cf
  .have:m∈ls.take i:=aV (i:=j) (by rw[mA,aD Cf,hj]);exact absurd hm (z1 m this)
  .exact Cf
  have:m∈ls.drop (i+1):=aV (i:=j-(i+1)) (by rw[Ar,show i+1+(j-(i+1))=j by omega,hj]);exact absurd hm (z2 m this)
 intro hu;have z1:aq p (ls.take i)=0:=by
  refine Mb.2 fun m hm lk=>?_;obtain⟨j,hj⟩:=gV hm;have Cf:j<i:=by have:=(aT.1 hj).1;rw[iz]at this;omega
  rw[mA,aD Cf]at hj;have:=hu j m hj lk;omega
 have z2:aq p (ls.drop (i+1))=0:=by refine Mb.2 fun m hm lk=>?_;obtain⟨j,hj⟩:=gV hm;rw[Ar]at hj;have:=hu _ m hj lk;omega
 omega
def ana{p:Let->Bool}{ls:ai}(h:∀(i j:Nat) (l m:Let),ls[i]?=some l->ls[j]?=some m->p l=true->p m=true->i=j):aq p ls<=1:=by
 by_cases hz:aq p ls=0
 .omega
 have:0<ls.countP p:=Nat.pos_of_ne_zero hz;obtain⟨l,hl,hp⟩:=Ap.1 this;obtain⟨i,hi⟩:=gV hl;have:=(Hb hi hp).2 fun j m hj hm=>h j i m l hj hi hm hp;omega
structure vF (F:Nat) (ls:ai) (l:Let):Prop where
 g0:0<=l.gate
 g1:l.gate<=(F:Int)
 r0:1<=l.aw
 r1:l.aw<=(cg ls l.gate.toNat:Int)
def IH{ls:ai}{l m:Let}(hl:vF F ls l)(hm:vF F ls m):dF ls l=dF ls m↔l.gate=m.gate/\l.aw=m.aw:=by
 obtain⟨l1,l2,l3,l4⟩:=hl;obtain⟨m1,m2,m3,m4⟩:=hm;unfold dF;constructor
 .intro h;have sl:=uM ls l.gate.toNat;have sm:=uM ls m.gate.toNat;rcases P9 l.gate.toNat m.gate.toNat with c|c|c
  .have:=BS (ls:=ls) (show l.gate.toNat+1<=m.gate.toNat by omega);omega
  .rw[c]at h;omega
  have:=BS (ls:=ls) (show m.gate.toNat+1<=l.gate.toNat by omega);omega
 rintro⟨h1,h2⟩;rw[h1,h2]
def atL{ls:ai}{l m:Let}(hl:vF F ls l)(hm:vF F ls m):Ir l m=true↔dF ls l<dF ls m:=by
 obtain⟨l1,l2,l3,l4⟩:=hl;obtain⟨m1,m2,m3,m4⟩:=hm;unfold dF Ir;simp only[wE,cH,mf,cZ];have sl:=uM ls l.gate.toNat;have sm:=uM ls m.gate.toNat;rcases P9 l.gate.toNat m.gate.toNat with c|c|c
 .have:=BS (ls:=ls) (show l.gate.toNat+1<=m.gate.toNat by omega);omega
 .rw[c];omega
 have:=BS (ls:=ls) (show m.gate.toNat+1<=l.gate.toNat by omega);omega
def Zq{ls:ai}{l:Let}(hl:vF F ls l):dF ls l<fh ls (F+1):=by obtain⟨l1,l2,l3,l4⟩:=hl;unfold dF;have sl:=uM ls l.gate.toNat;have:=BS (ls:=ls) (show l.gate.toNat+1<=F+1 by omega);omega
def S9{ls:ai}{i:Nat}{l:Let}(h:ls[i]?=some l)(hp:l.aE=true):ur ls i=true↔1<=l.aw/\l.aw<=(cg ls l.gate.toNat:Int)/\ ∀j m,j<i->ls[j]?=some m->m.aE=true->dF ls m≠dF ls l:=by
 simp only[ur,h,hp,Ao,De,cH,mf,l9,IZ,im];constructor
 .rintro ⟨⟨h1,h2⟩,h3⟩
  refine⟨h1,h2,fun j m hj hm lk e=>?_⟩;have:=h3 j hj;rw[NY hm lk]at this;simp[e]at this
 rintro⟨h1,h2,h3⟩
 refine⟨⟨h1,h2⟩,fun j hj=>?_⟩;unfold ua;split
 .rename_i m hm;cases lk:m.aE with
  |false=>simp
  |true=>simpa using h3 j m hj hm lk
 simp
def Pj{ls:ai}(hg:r6 F ls):Ac ls=true↔(∀l∈ls,l.aE=true->vF F ls l)/\ ∀(i j:Nat) (l m:Let),ls[i]?=some l->ls[j]?=some m->l.aE=true->m.aE=true->dF ls l=dF ls m->i=j:=by
 unfold Ac;rw[gk];constructor
 .intro h;refine⟨fun l hl hp=>?_,fun i j l m hi hj bU lk e=>?_⟩
  .obtain⟨i,hi⟩:=gV hl;have:=(S9 hi hp).1 (h i (im.2 (aT.1 hi).1));exact⟨(hg l hl hp).1,(hg l hl hp).2,this.1,this.2.1⟩
  have ci:=(S9 hi bU).1 (h i (im.2 (aT.1 hi).1));have cj:=(S9 hj lk).1 (h j (im.2 (aT.1 hj).1));rcases P9 i j with c|c|c
  .exact absurd e (cj.2.2 i l c hi bU)
  .exact c
  exact absurd e.symm (ci.2.2 j m c hj lk)
 rintro⟨h1,h2⟩ i hi
 obtain⟨l,hl⟩:=aL (im.1 hi);cases hp:l.aE with
 |false=>simp[ur,hl,hp]
 |true=>have hg:=h1 l (aV hl) hp;refine(S9 hl hp).2 ⟨hg.r0,hg.r1,fun j m hj hm lk e=>?_⟩;have:=h2 j i m l hm hl lk hp e;omega
def Sg(g:Int)(h:0<=g)(l:Let):pY g l=mE g.toNat l:=by unfold pY mE;rw[ako h]
def sB{l:Let}(hp:l.aE=true):dQ f l=false↔(((0<=l.gate/\l.gate<=f)/\l.id=0)/\l.sign=0)/\l.over=false:=by unfold Let.aE at hp;simp only[dQ,hp,if_true,TR,decide_eq_false_iff_not,bne_eq_false_iff_eq,Int.not_lt]
def Lk{ls:ai}{l:Let}(hp:l.aE=true):xy f ls l=true↔dQ f l=false/\1<=l.aw/\l.aw<=(aq (pY l.gate) ls:Int)/\aq (jv l) ls=1:=by
 rw[sB hp];unfold xy;simp only[l9,TR,decide_eq_false_iff_not,bne_eq_false_iff_eq];constructor
 .rintro ⟨⟨⟨⟨⟨⟨⟨a,b⟩,c⟩,d⟩,e⟩,g⟩,h⟩,i⟩
  exact⟨⟨⟨⟨⟨aa,aa⟩,a⟩,b⟩,c⟩,aa,aa,aa⟩
 rintro⟨⟨⟨⟨⟨d,e⟩,a⟩,b⟩,c⟩,g,h,i⟩
 exact⟨⟨⟨⟨⟨⟨⟨a,b⟩,c⟩,aa⟩,aa⟩,aa⟩,aa⟩,aa⟩
def Tf{l m:Let}(hp:l.aE=true):jv l m=true↔m.aE=true/\m.gate=l.gate/\m.aw=l.aw:=by unfold Let.aE at hp |-;simp only[cZ]at hp;unfold jv;simp only[cH,cZ,hp,and_assoc]
def atr{ls:ai}:(∀l∈ls,l.aE=true->xy F ls l=true)↔(∀l∈ls,l.aE=true->dQ F l=false)/\Ac ls=true:=by
 constructor
 .intro h;have hb:∀l∈ls,l.aE=true->dQ F l=false:=fun l hl hp=>((Lk hp).1 (h l hl hp)).1;have hg:r6 F ls:=fun l hl hp=>((sB hp).1 (hb l hl hp)).1.1.1;refine⟨hb,(Pj hg).2 ⟨fun l hl hp=>?_,fun i j l m hi hj bU lk e=>?_⟩⟩
  .obtain⟨_,h2,h3,_⟩:=(Lk hp).1 (h l hl hp);have:=hg l hl hp;refine⟨this.1,this.2,h2,?_⟩;have e:aq (pY l.gate) ls=cg ls l.gate.toNat:=by unfold cg aq;congr 1;funext m;exact Sg _ this.1 m
   omega
  have gl:vF F ls l:=by
   obtain⟨_,h2,h3,_⟩:=(Lk bU).1 (h l (aV hi) bU);have:=hg l (aV hi) bU;have e:aq (pY l.gate) ls=cg ls l.gate.toNat:=by unfold cg aq;congr 1;funext m;exact Sg _ this.1 m
   exact⟨this.1,this.2,h2,aa⟩
  have gm:vF F ls m:=by
   obtain⟨_,h2,h3,_⟩:=(Lk lk).1 (h m (aV hj) lk);have:=hg m (aV hj) lk;have e:aq (pY m.gate) ls=cg ls m.gate.toNat:=by unfold cg aq;congr 1;funext m;exact Sg _ this.1 m
   exact⟨this.1,this.2,h2,aa⟩
  have e2:=(IH gl gm).1 e;have hs:=((Lk lk).1 (h m (aV hj) lk)).2.2.2;exact(Hb hj ((Tf lk).2 ⟨lk,rfl,rfl⟩)).1 hs i l hi ((Tf lk).2 ⟨bU,e2.1,e2.2⟩)
 rintro⟨hb,hr⟩ l hl hp
 have hg:r6 F ls:=fun l hl hp=>((sB hp).1 (hb l hl hp)).1.1.1;obtain⟨h1,h2⟩:=(Pj hg).1 hr;have gl:=h1 l hl hp;have e:aq (pY l.gate) ls=cg ls l.gate.toNat:=by unfold cg aq;congr 1;funext m;exact Sg _ gl.g0 m
 obtain⟨i,hi⟩:=gV hl;refine(Lk hp).2 ⟨hb l hl hp,gl.r0,by rw[e];exact gl.r1,(Hb hi ((Tf hp).2 ⟨hp,rfl,rfl⟩)).2 fun j m hj hs=>?_⟩;obtain⟨lk,eg,er⟩:=(Tf hp).1 hs;exact h2 j i m l hj hi lk hp ((IH (h1 m (aV hj) lk) gl).2 ⟨eg,er⟩)
def th(id:Int)(o:Bool)(l:Let):Bool:=l.aB&&(l.id==id&&l.over==o)
def Kz{ls:ai}{j:Nat}{m:Let}(h:ls[j]?=some m)(id:Int)(o:Bool):r9 ls id o j=th id o m:=by simp[r9,th,h]
def rG{id:Int}{o:Bool}{l:Let}:th id o l=true↔l.aB=true/\l.id=id/\l.over=o:=by unfold th;simp only[cH,cZ]
def ID(ls:ai):Prop:=∀(i j:Nat) (l m:Let),ls[i]?=some l->ls[j]?=some m->l.aB=true->m.aB=true->l.id=m.id->i≠j->l.over≠m.over/\l.sign=m.sign
def Ym(ls:ai):Prop:=∀l∈ls,l.aB=true->1<=l.id/\l.id<=((aq Let.aB ls/2:Nat):Int)
def aki{ls:ai}{n2 k:Nat}{l:Let}(h:ls[k]?=some l)(hc:l.aB=true):nH ls n2 k=true↔(1<=l.id/\l.id<=(n2:Int))/\gU ls k l.id l.over=none/\ ∀j,gU ls k l.id (!l.over)=some j->EJ ls j=l.sign:=by
 simp only[nH,h,hc,Ao,De,cH,mf,Option.isNone_iff_eq_none];constructor
 .rintro ⟨h1,h2,h3⟩
  refine⟨h1,h2,fun j hj=>?_⟩;rw[hj]at h3
  simpa using h3
 rintro⟨h1,h2,h3⟩
 refine⟨h1,h2,?_⟩;split
 .rename_i j hj
  simpa using h3 j hj
 rfl
def IU{ls:ai}:(∀k,k<ls.length->nH ls (aq Let.aB ls/2) k=true)↔Ym ls/\ID ls:=by
 constructor
 .intro h;have hx:∀ {k:Nat}{l:Let},ls[k]?=some l->l.aB=true->_:=fun{k l} hk hc=>(aki (n2:=aq Let.aB ls/2) hk hc).1 (h k (aT.1 hk).1);refine⟨fun l hl hc=>?_,?_⟩
  .obtain⟨i,hi⟩:=gV hl;exact(hx hi hc).1
  have key:∀(i j:Nat) (l m:Let),ls[i]?=some l->ls[j]?=some m->l.aB=true->m.aB=true->l.id=m.id->i<j->l.over≠m.over/\l.sign=m.sign:=by
   intro i j l m hi hj cS zD he ij;obtain⟨_,hn,hs⟩:=hx hj zD;have ho:l.over≠m.over:=by intro e;have:=PA hn ij;rw[Kz hi,rG.2 ⟨cS,he,e⟩]at this;cases this
   refine⟨ho,?_⟩;have lX:l.over= !m.over:=by revert ho;cases l.over<;>cases m.over<;>simp
   cases hv:gU ls j m.id (!m.over)with
   |none=>have:=PA hv ij;rw[Kz hi,rG.2 ⟨cS,he,lX⟩]at this;cases this
   |some p=>
    have h3:=hs p hv;obtain⟨lY,ml⟩:=IP hv;obtain⟨x,jT,OO,jV,hxo⟩:=Cd ml;have:p=i:=by
     rcases P9 p i with c|c|c
     .have uW:=(hx hi cS).2.1;have:=PA uW c;rw[Kz jT,rG.2 ⟨OO,by rw[jV,he],by rw[hxo,lX]⟩]at this;cases this
     .exact c
     have h4:(List.range j).find? (r9 ls m.id (!m.over))=some p:=hv;rw[List.find?_range_eq_some]at h4;have:=h4.2.2 i c;rw[Kz hi,rG.2 ⟨cS,he,lX⟩]at this;cases this
    subst this;rw[hi]at jT;cases jT
    simpa [EJ,hi]using h3
  intro i j l m hi hj cS zD he ij;rcases akH ij with c|c
  .exact key i j l m hi hj cS zD he c
  have:=key j i m l hj hi zD cS he.symm c;exact⟨fun e=>this.1 e.symm,this.2.symm⟩
 rintro⟨h1,h2⟩ k hk
 obtain⟨l,hl⟩:=aL hk;cases hc:l.aB with
 |false=>simp[nH,hl,hc]
 |true=>
  refine(aki hl hc).2 ⟨h1 l (aV hl) hc,?_,fun j hj=>?_⟩
  .cases hv:gU ls k l.id l.over with
   |none=>rfl
   |some p=>obtain⟨lY,ml⟩:=IP hv;obtain⟨x,jT,OO,jV,hxo⟩:=Cd ml;exact absurd hxo (h2 p k x l jT hl OO hc jV aa).1
  obtain⟨lY,ml⟩:=IP hj;obtain⟨x,jT,OO,jV,hxo⟩:=Cd ml;have:=(h2 j k x l jT hl OO hc jV aa).2;simp[EJ,jT,this]
def awO(ls:ai):∀ids:d_,ids.Nodup->(ids.map fun id=>aq (mr id) ls).sum=aq (fun l=>l.aB&&ids.contains l.id) ls:=by
 intro ids
 induction ids with
 |nil=>intro _;simp[aq]
 |cons a ids ih=>
  intro hn;rw[rh]at hn;rw[ek,Mj,ih hn.2];refine(UT (p:=mr a) (q:=fun l=>l.aB&&ids.contains l.id) (r:=fun l=>l.aB&&(a::ids).contains l.id) ?_ ?_ ls).symm
  .intro l;simp only[mr,cH,cZ,aam,mf,bJ];constructor
   .rintro ⟨h1,h2|h2⟩
    .exact .inl ⟨h1,h2⟩
    exact .inr ⟨h1,h2⟩
   rintro(⟨h1,h2⟩|⟨h1,h2⟩)
   .exact⟨h1,.inl h2⟩
   exact⟨h1,.inr h2⟩
  intro l;simp only[mr,cH,cZ,aam,mf];rintro⟨_,h1⟩ ⟨_,h2⟩
  exact hn.1 (h1▸h2)
def Se{ls:ai}{l:Let}(hl:l∈ls)(hc:l.aB=true):l.id∈fA ls ls.length:=by obtain⟨i,hi⟩:=gV hl;refine(Ig (bY _)).2 ⟨i,l.over,(aT.1 hi).1,?_⟩;rw[Kz hi];exact rG.2 ⟨hc,rfl,rfl⟩
def ZT(ls:ai):((fA ls ls.length).map fun id=>aq (mr id) ls).sum=aq Let.aB ls:=by
 rw[awO _ _ (Sf ls _)];apply Ja;intro l hl;cases hc:l.aB with
 |false=>simp
 |true=>simp[Se hl hc]
def So(id:Int)(ls:ai):aq (mr id) ls=aq (th id true) ls+aq (th id false) ls:=by
 refine UT ?_ ?_ ls
 .intro l;rw[rG,rG];simp only[mr,cH,cZ];cases l.over<;>simp
 intro l;rw[rG,rG];rintro⟨_,_,h1⟩ ⟨_,_,h2⟩
 rw[h1]at h2;cases h2
def Yr(id:Int)(o:Bool)(ls:ai):aq (mr id) ls=aq (th id o) ls+aq (th id (!o)) ls:=by
 rw[So];cases o with
 |true=>rfl
 |false=>simp only[GC];omega
def Cc{ls:ai}(h:ID ls)(id:Int)(o:Bool):aq (th id o) ls<=1:=by refine ana fun i j l m hi hj hl hm=>?_;obtain⟨l1,l2,l3⟩:=rG.1 hl;obtain⟨m1,m2,m3⟩:=rG.1 hm;refine Decidable.byContradiction fun aH=>?_;exact(h i j l m hi hj l1 m1 (by rw[l2,m2]) aH).1 (by rw[l3,m3])
def ajE{f:Int->Nat}:∀ids:d_,(∀x∈ids,f x<=2)->(ids.map f).sum<=2*ids.length:=by
 intro ids
 induction ids with
 |nil=>intro _;simp
 |cons a ids ih=>intro h;have:=ih fun x hx=>h x (vq _ hx);have:=h a PS;simp only[ek,Mj,dI];omega
def aba{f:Int->Nat}:∀ids:d_,(∀x∈ids,f x<=2)->(ids.map f).sum=2*ids.length->∀x∈ids,f x=2:=by
 intro ids
 induction ids with
 |nil=>intro _ _ x hx;cases hx
 |cons a ids ih=>
  intro h hs;have h1:=ajE ids fun x hx=>h x (vq _ hx);have h2:=h a PS;simp only[ek,Mj,dI]at hs;intro x hx;rcases bJ.1 hx with rfl|hx
  .omega
  exact ih (fun x hx=>h x (vq _ hx)) aa x hx
def awP{f:Int->Nat}:∀ids:d_,(∀x∈ids,f x=2)->(ids.map f).sum=2*ids.length:=by
 intro ids
 induction ids with
 |nil=>intro _;simp
 |cons a ids ih=>intro h;have:=ih fun x hx=>h x (vq _ hx);have:=h a PS;simp only[ek,Mj,dI];omega
def Zl{l m:Let}(hc:l.aB=true):iZ l m=true↔m.aB=true/\m.id=l.id/\m.sign=l.sign/\m.over= !l.over:=by unfold Let.aB at hc |-;simp only[cZ]at hc;unfold iZ;simp only[cH,cZ,hc,and_assoc,l9,lS,ne_eq];cases l.over<;>cases m.over<;>simp
def O4{l:Let}(hc:l.aB=true):dQ f l=false↔(l.gate=0/\l.aw=0)/\(l.sign !=1&&l.sign != -1)=false:=by
 unfold Let.aB at hc;have h1:(l.kind==1)=false:=by simp only[cZ]at hc;rw[hc];rfl
 simp only[dQ,hc,h1,if_true];simp
def ahN{ls:ai}{l:Let}(hc:l.aB=true):mR ls l=true↔dQ f l=false/\(1<=l.id/\l.id<=((aq Let.aB ls/2:Nat):Int))/\aq (iZ l) ls=1/\aq (mr l.id) ls=2:=by
 rw[O4 hc];unfold mR;simp only[l9,TR,decide_eq_false_iff_not,bne_eq_false_iff_eq];constructor
 .rintro ⟨⟨⟨⟨⟨⟨a,b⟩,c⟩,d⟩,e⟩,g⟩,h⟩
  exact⟨⟨⟨a,b⟩,c⟩,⟨aa,aa⟩,aa,aa⟩
 rintro⟨⟨⟨a,b⟩,c⟩,⟨d,e⟩,g,h⟩
 exact⟨⟨⟨⟨⟨⟨a,b⟩,c⟩,aa⟩,aa⟩,aa⟩,aa⟩
def anu{ls:ai}:(∀l∈ls,l.aB=true->mR ls l=true)↔(∀l∈ls,l.aB=true->dQ f l=false)/\mJ ls=true:=by
 have OJ:=ZT ls;constructor
 .intro h;have dz:=fun l hl hc=>(ahN (f:=f) hc).1 (h l hl hc);have hp:ID ls:=by
   intro i j l m hi hj cS zD he ij;obtain⟨_,_,h3,h4⟩:=dz l (aV hi) cS;have e1:=Yr l.id l.over ls;have g1:0<aq (th l.id l.over) ls:=Ap.2 ⟨l,aV hi,rG.2 ⟨cS,rfl,rfl⟩⟩;obtain⟨x,hx,ug⟩:=Ap.1 (show 0<ls.countP (iZ l) by show 0<aq (iZ l) ls;omega);obtain⟨x1,x2,x3,x4⟩:=(Zl cS).1 ug;have g2:0<aq (th l.id (!l.over)) ls:=Ap.2 ⟨x,hx,rG.2 ⟨x1,x2,x4⟩⟩;have u1:aq (th l.id l.over) ls=1:=aa;have u2:aq (th l.id (!l.over)) ls=1:=aa;have ho:l.over≠m.over:=by intro e;have:=(Hb hi (rG.2 ⟨cS,rfl,rfl⟩)).1 u1 j m hj (rG.2 ⟨zD,he.symm,e.symm⟩);exact ij this.symm
   refine⟨ho,?_⟩;have lX:m.over= !l.over:=by revert ho;cases l.over<;>cases m.over<;>simp
   obtain⟨p,jT⟩:=gV hx;have:=(Hb hj (rG.2 ⟨zD,he.symm,lX⟩)).1 u2 p x jT (rG.2 ⟨x1,x2,x4⟩);subst this;rw[jT]at hj;cases hj;exact x3.symm
  have aqS:∀id∈fA ls ls.length,aq (mr id) ls=2:=by intro id hid;obtain⟨j,o,h1,h2⟩:=(Ig (bY _)).1 hid;obtain⟨m,hm,hc,hi,_⟩:=Cd h2;rw[<-hi];exact(dz m (aV hm) hc).2.2.2
  rw[awP _ aqS]at OJ;refine⟨fun l hl hc=>(dz l hl hc).1,?_⟩;have hx:=(IU (ls:=ls)).2 ⟨fun l hl hc=>(dz l hl hc).2.1,hp⟩;rw[U0 aa hx];simp only[cZ];omega
 rintro⟨hb,hr⟩ l hl hc
 unfold mJ at hr;simp only[cH,cZ,gk,im]at hr;obtain⟨⟨he,hx⟩,hlen⟩:=hr;obtain⟨hid,hp⟩:=IU.1 hx;have hle:∀id∈fA ls ls.length,aq (mr id) ls<=2:=fun id _=>by rw[So id];have:=Cc hp id true;have:=Cc hp id false;omega
 have h2:=aba _ hle (by rw[OJ,hlen];omega) l.id (Se hl hc);have e1:=Yr l.id l.over ls;have b1:=Cc hp l.id l.over;have b2:=Cc hp l.id (!l.over);refine(ahN hc).2 ⟨hb l hl hc,hid l hl hc,?_,h2⟩;have u2:aq (th l.id (!l.over)) ls=1:=aa;obtain⟨i,hi⟩:=gV hl;obtain⟨x,hx,ug⟩:=Ap.1 (show 0<ls.countP (th l.id (!l.over)) by show 0<aq (th l.id (!l.over)) ls;omega);obtain⟨p,jT⟩:=gV hx;obtain⟨x1,x2,x3⟩:=rG.1 ug;have gD:p≠i:=by
  rintro rfl
  rw[hi]at jT;cases jT;revert x3;cases l.over<;>simp
 have hsg:=(hp p i x l jT hi x1 hc x2 gD).2;refine(Hb jT ((Zl hc).2 ⟨x1,x2,hsg,x3⟩)).2 fun j m hj hm=>?_;obtain⟨m1,m2,m3,m4⟩:=(Zl hc).1 hm;exact(Hb jT ug).1 u2 j m hj (rG.2 ⟨m1,m2,m4⟩)
def wM{l:Let}(h:dQ f l=false):l.aE=true\/l.aB=true:=by
 unfold Let.aE Let.aB;cases h1:(l.kind==1)with
 |true=>exact .inl rfl
 |false=>
  cases h2:(l.kind==2)with
  |true=>exact .inr rfl
  |false=>simp only[dQ,h1,h2]at h;cases h
def qS{l:Let}(hp:l.aE=true):l.aB=false:=by unfold Let.aE at hp;unfold Let.aB;simp only[cZ]at hp;rw[hp];rfl
def ahP{ls:ai}{l:Let}(hp:l.aE=true):eZ f ls l=xy f ls l:=by unfold Let.aE at hp;simp only[eZ,hp,if_true]
def ahO{ls:ai}{l:Let}(hp:l.aB=true):eZ f ls l=mR ls l:=by
 unfold Let.aB at hp;have h1:(l.kind==1)=false:=by simp only[cZ]at hp;rw[hp];rfl
 simp only[eZ,hp,h1,if_true];simp
def YJ{ls:ai}:yC F ls=true↔ls.any (dQ F)=false/\Ac ls=true/\mJ ls=true:=by
 unfold yC;rw[gk,IZ];have e1:=atr (F:=F) (ls:=ls);have e2:=anu (f:=(F:Int)) (ls:=ls);constructor
 .intro h;have hk:=fun{l:Let} (hl:l∈ls)=>agZ (f:=F) (ls:=ls) (gk.2 h) (gV hl).choose_spec;obtain⟨p1,p2⟩:=e1.1 fun l hl hp=>by rw[<-ahP hp];exact h l hl
  obtain⟨c1,c2⟩:=e2.1 fun l hl hc=>by rw[<-ahO (f:=F) hc];exact h l hl
  refine⟨fun l hl=>?_,p2,c2⟩;rcases hk hl with hp|hc
  .rw[p1 l hl hp];simp
  rw[c1 l hl hc];simp
 rintro⟨hb,hr,hc⟩ l hl
 have hb:∀l∈ls,dQ F l=false:=fun l hl=>by simpa using hb l hl
 rcases wM (hb l hl)with hp|iv
 .rw[ahP hp];exact e1.2 ⟨fun l hl _=>hb l hl,hr⟩ l hl hp
 rw[ahO iv];exact e2.2 ⟨fun l hl _=>hb l hl,hc⟩ l hl iv
def awt{o:a_}(hs:o.Pairwise (· < ·))(aA:∀x∈o,x<o.length):∀(k:Nat) (h:k<o.length),o[k]=k:=by
 rw[T2]at hs;have lo:∀(k:Nat) (h:k<o.length),k<=o[k]:=by
  intro k
  induction k with
  |zero=>intro _;omega
  |succ k ih=>intro h;have:=ih aa;have:=hs k (k+1) aa h aa;omega
 have hi:∀(d k:Nat) (h:k<o.length),k+d+1=o.length->o[k]<=k:=by
  intro d
  induction d with
  |zero=>intro k h e;have:=aA _ (List.getElem_mem h);omega
  |succ d ih=>intro k h e;have:=ih (k+1) aa aa;have:=hs k (k+1) h aa aa;omega
 intro k h;have:=lo k h;have:=hi (o.length-k-1) k h aa;omega
def arf{key:Nat->Nat}{p:Nat->Bool}{i:Nat}:∀ {o:a_},o.Pairwise (fun a b=>key a<key b)->(∀x∈o,p x=decide (key x<key i))->(∀x∈o,key x≠key i)->
  (o.take (o.takeWhile p).length++i::o.drop (o.takeWhile p).length).Pairwise (fun a b=>key a<key b):=by
 intro o
 induction o with
 |nil=>intro _ _ _;simp
 |cons a o ih=>
  intro hs hp hn;rw[mB]at hs;have pa:=hp a PS;have na:=hn a PS;by_cases aA:key a<key i
  .have Pa:p a=true:=by rw[pa];simpa using aA
   rw[List.takeWhile_cons,aD Pa];simp only[dI,aaD,List.drop_succ_cons,nJ];rw[mB];refine⟨fun b hb=>?_,ih hs.2 (fun x hx=>hp x (vq _ hx)) (fun x hx=>hn x (vq _ hx))⟩;rcases eO.1 hb with hb|hb
   .exact hs.1 b (yV hb)
   rcases bJ.1 hb with rfl|hb
   .exact aA
   exact hs.1 b (xN hb)
  have Pa:¬p a=true:=by rw[pa];simpa using aA
  rw[List.takeWhile_cons,au Pa];simp only[fe,List.take_zero,PO,gn];rw[mB,mB];refine⟨fun b hb=>?_,hs⟩;rcases bJ.1 hb with rfl|hb
  .omega
  have:=hs.1 b hb;omega
def IG{ls:ai}{i:Nat}{l:Let}(h:ls[i]?=some l)(hp:l.aE=true):CR ls i=dF ls l:=by simp[CR,h,hp]
structure Dx (F:Nat) (ls:ai):Prop where
 fi:∀l∈ls,l.aE=true->vF F ls l
 inj:∀(i j:Nat) (l m:Let),ls[i]?=some l->ls[j]?=some m->l.aE=true->m.aE=true->dF ls l=dF ls m->i=j
def abm{ls:ai}(h:Dx F ls):∀k,k<=ls.length->(pJ ls k).Pairwise (fun a b=>CR ls a<CR ls b):=by
 intro k
 induction k with
 |zero=>intro _;simp[pJ]
 |succ k ih=>
  intro hk;have ih:=ih aa;rw[Jw];obtain⟨l,hl⟩:=aL (show k<ls.length by omega);unfold BJ;rw[hl];simp only;cases hp:l.aE with
  |false=>simpa using ih
  |true=>
   simp only[if_true];unfold Bo;have hm:=fun{x:Nat} (hx:x∈pJ ls k)=>(abl (ls:=ls) (k:=k) aa).1 hx;refine arf ih (fun x hx=>?_) (fun x hx e=>?_)
   .obtain⟨h1,m,hm,xe⟩:=hm hx;rw[IG hm xe,IG hl hp];unfold CB;rw[hm,hl];simp only;have:=atL (h.fi m (aV hm) xe) (h.fi l (aV hl) hp);cases hb:Ir m l with
    |true=>simpa using this.1 hb
    |false=>symm;rw[decide_eq_false_iff_not];intro hc;rw[this.2 hc]at hb;cases hb
   obtain⟨h1,m,hm,xe⟩:=hm hx;rw[IG hm xe,IG hl hp]at e;have:=h.inj x k m l hm hl xe hp e;omega
def alU{ls:ai}:∀k,k<=ls.length->(pJ ls k).length=aq Let.aE (ls.take k):=by
 intro k
 induction k with
 |zero=>intro _;simp[pJ,aq]
 |succ k ih=>
  intro hk;have ih:=ih aa;rw[Jw];obtain⟨l,hl⟩:=aL (show k<ls.length by omega);unfold BJ;rw[hl];simp only;cases hp:l.aE with
  |false=>rw[j4 hl hp];simpa using ih
  |true=>simp only[if_true];rw[aq9,sQ hl hp,ih]
def Dy{ls:ai}:(aG ls).length=aq Let.aE ls:=by have:=alU (ls:=ls) ls.length (bY _);rwa[lJ]at this
def GN{ls:ai}(h:r6 F ls):fh ls (F+1)=(aG ls).length:=by
 rw[Dy,aej];apply Ja;intro l hl;cases hp:l.aE with
 |false=>simp
 |true=>have:=h l hl hp;simp only[Df,cH,mf,iff_true];omega
def Dx.r6{ls:ai}(h:Dx F ls):r6 F ls:=fun l hl hp=>⟨(h.fi l hl hp).g0,(h.fi l hl hp).g1⟩
def BK{ls:ai}(h:Dx F ls){k i:Nat}(hk:(aG ls)[k]?=some i):∃l,ls[i]?=some l/\l.aE=true/\dF ls l=k:=by
 have hs:((aG ls).map (CR ls)).Pairwise (· < ·):=by rw[yW];exact abm h ls.length (bY _)
 have hT:=GN h.r6;have aA:∀x∈(aG ls).map (CR ls),x<((aG ls).map (CR ls)).length:=by intro x hx;obtain⟨j,hj,rfl⟩:=cJ.1 hx;obtain⟨l,hl,hp⟩:=uF.1 hj;rw[IG hl hp,cE,<-hT];exact Zq (h.fi l (aV hl) hp)
 obtain⟨df,jr⟩:=aT.1 hk;have:=awt hs aA k (by rw[cE];exact df);rw[EW,jr]at this;obtain⟨l,hl,hp⟩:=uF.1 (aV hk);exact⟨l,hl,hp,by rw[<-IG hl hp];exact this⟩
def Jx{ls:ai}(h:Dx F ls){i:Nat}{l:Let}(hl:ls[i]?=some l)(hp:l.aE=true):(aG ls)[dF ls l]?=some i:=by have aA:=Zq (h.fi l (aV hl) hp);rw[GN h.r6]at aA;obtain⟨j,hj⟩:=aL aA;obtain⟨m,hm,xe,he⟩:=BK h hj;rw[hj,h.inj j i m l hm hl xe hp he]
def Fh{ls:ai}(h:Dx F ls){i:Nat}{l:Let}(hl:ls[i]?=some l)(hp:l.aE=true):(aG ls).idxOf i=dF ls l:=by have h1:=Jx h hl hp;have h2:=afJ (aV h1);obtain⟨m,hm,xe,he⟩:=BK h h2;rw[hl]at hm;cases hm;exact he.symm
def alZ{ls:ai}(h:Dx F ls):tN ls (fh ls (F+1)) ls.length=aG ls:=by
 apply yU
 .rw[abk,GN h.r6]
 intro k h1 h2;simp only[tN,EW,Mf];obtain⟨l,hl,hp,he⟩:=BK h (rS h2);generalize(aG ls)[k]=i at hl;unfold axP;have jL:=(aT.1 hl).1;have hf:(List.range ls.length).find? (ua ls k)=some i:=by
  refine DR jL (fun j hj=>?_) ?_
  .cases hh:ua ls k j with
   |false=>rfl
   |true=>
    unfold ua at hh;split at hh
    .rename_i m hm;simp only[cH,cZ]at hh;have:=h.inj j i m l hm hl hh.1 hp (by rw[hh.2,he]);omega
    cases hh
  rw[NY hl hp];simp[he]
 rw[hf];rfl
def SM{ls:ai}(hr:mJ ls=true){i:Nat}{l:Let}(hl:ls[i]?=some l)(hc:l.aB=true):gU ls ls.length l.id (!l.over)=some (fM ls i)/\fM ls i<ls.length:=by
 have OJ:=ZT ls;unfold mJ at hr;simp only[cH,cZ,gk,im]at hr;obtain⟨⟨he,hx⟩,hlen⟩:=hr;obtain⟨hid,hp⟩:=IU.1 hx;have hle:∀id∈fA ls ls.length,aq (mr id) ls<=2:=fun id _=>by rw[So id];have:=Cc hp id true;have:=Cc hp id false;omega
 have h2:=aba _ hle (by rw[OJ,hlen];omega) l.id (Se (aV hl) hc);have e1:=Yr l.id l.over ls;have b1:=Cc hp l.id l.over;have b2:=Cc hp l.id (!l.over);obtain⟨x,hx,ug⟩:=Ap.1 (show 0<ls.countP (th l.id (!l.over)) by show 0<aq (th l.id (!l.over)) ls;omega);obtain⟨p,jT⟩:=gV hx;obtain⟨x1,x2,x3⟩:=rG.1 ug;have hpn:=(aT.1 jT).1;have gD:p≠i:=by
  rintro rfl
  rw[hl]at jT;cases jT;revert x3;cases l.over<;>simp
 have uniq:∀(j:Nat) (m:Let),ls[j]?=some m->m.aB=true->m.id=l.id->j≠i->j=p:=by intro j m hj mc mi Cf;refine Decidable.byContradiction fun aH=>?_;have o1:=(hp j i m l hj hl mc hc mi Cf).1;have o2:=(hp j p m x hj jT mc x1 (by rw[mi,x2]) aH).1;rw[x3]at o2;revert o1 o2;cases m.over<;>cases l.over<;>simp
 have Be:(List.range ls.length).find? (Bt ls i)=some p:=by
  refine DR hpn (fun j hj=>?_) ?_
  .cases hh:Bt ls i j with
   |false=>rfl
   |true=>
    unfold Bt at hh;simp only[cH,bne_iff_ne,ne_eq]at hh;obtain⟨h1,h2⟩:=hh;split at h2
    .rename_i m hm;simp only[cH,cZ,hl,nK,oE]at h2;have:=uniq j m hm h2.1 h2.2 h1;omega
    cases h2
  unfold Bt;rw[jT];simp[gD,x1,hl,x2]
 have ho:fM ls i=p:=by unfold fM;rw[Be];rfl
 rw[ho];refine⟨?_,hpn⟩;unfold gU;refine DR hpn (fun j hj=>?_) ?_
 .cases hh:r9 ls l.id (!l.over) j with
  |false=>rfl
  |true=>
   obtain⟨m,hm,mc,mi,mo⟩:=Cd hh;have Cf:j≠i:=by
    rintro rfl
    rw[hl]at hm;cases hm;revert mo;cases l.over<;>simp
   have:=uniq j m hm mc mi Cf;omega
 rw[Kz jT];exact ug
end
end Go.Abs
