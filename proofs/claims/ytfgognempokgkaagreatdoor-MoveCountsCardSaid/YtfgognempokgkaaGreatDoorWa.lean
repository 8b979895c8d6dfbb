/- A part. -/
import Derived.Test.YtfgognempokgkaaGreatDoorSa
set_option linter.all false
set_option maxRecDepth 100000
set_option maxHeartbeats 16000000
namespace Go.Abs
section
variable{f:Int}{F:Nat}
structure Let where
 kind:Int
 gate:Int
 aO:Int
 id:Int
 sign:Int
 over:Bool
 deriving DecidableEq
def Let.ps(l:Let):List PV:=[.int .i64 l.kind,.int .i64 l.gate,.int .i64 l.aO,.int .i64 l.id,.int .i64 l.sign,.bool l.over]
def Let.aG(l:Let):Bool:=l.kind==1
def Let.aC(l:Let):Bool:=l.kind==2
abbrev mJ(ls:List Let):PV:=.sl (ls.map Let.ps)
abbrev eQ(f:Int)(ls:List Let):V:=.agg [.p (.int .i64 f),.p (mJ ls)]
abbrev oI(f:Int)(ls:List Let):List C:=[.p (.int .i64 f),.p (mJ ls)]
abbrev vi(k:Int):V:=.one (.p (.int .i64 k))
abbrev vb(b:Bool):V:=.one (.p (.bool b))
abbrev ri(k:Int):RV:=.one (.p (.int .i64 k))
abbrev rb(k:Bool):RV:=.one (.p (.bool k))
abbrev aA(p:Let->Bool)(ls:List Let):Nat:=ls.countP p
theorem aL{α:Type}{ls:List α}{k:Nat}(h:k<ls.length):∃l,ls[k]?=some l:=⟨ls[k],by simp[h]⟩
theorem nQ{p:Let->Bool}{ls:List Let}{k:Nat}{l:Let}(h:ls[k]?=some l)(hp:p l=true):aA p (ls.take (k+1))=aA p (ls.take k)+1:=by unfold aA;obtain⟨hk,rfl⟩:=bn.1 h;rw[List.take_succ_eq_append_getElem hk,List.countP_append,List.countP_singleton,if_pos hp]
theorem ie{p:Let->Bool}{ls:List Let}{k:Nat}{l:Let}(h:ls[k]?=some l)(hp:p l=false):aA p (ls.take (k+1))=aA p (ls.take k):=by unfold aA;obtain⟨hk,rfl⟩:=bn.1 h;rw[List.take_succ_eq_append_getElem hk,List.countP_append,List.countP_singleton,hp];rfl
theorem ub(p:Let->Bool)(ls:List Let)(k:Nat):aA p (ls.take k)<=k:=mm List.countP_le_length (by rw[jt];exact Nat.min_le_left _ _)
theorem oH(p:Let->Bool)(ls:List Let):aA p ls<=ls.length:=List.countP_le_length
theorem iU{ls:List Let}{k:Nat}{l:Let}(h:ls[k]?=some l):(ls.map Let.ps)[k]?=some l.ps:=by simp[h]
theorem wrap_add{a b:Nat}(h:a+b<=9223372036854775807):IntKind.i64.wrap ((a:Int)+(b:Int))=((a+b:Nat):Int):=wrap_small (n:=a+b) h
theorem mj{a:Nat}(h:2*a<=9223372036854775807):IntKind.i64.wrap (2*(a:Int))=((2*a:Nat):Int):=wrap_small (n:=2*a) h
theorem Oz{a b:Nat}(h:b<=a)(h2:a<=9223372036854775807):IntKind.i64.wrap ((a:Int)-(b:Int))=((a-b:Nat):Int):=by have:((a:Int)-(b:Int))=((a-b:Nat):Int):=aa;rw[this];exact wrap_small aa
theorem Bl{a:Nat}(h:1<=a)(h2:a<=9223372036854775807):IntKind.i64.wrap ((a:Int)-1)=((a-1:Nat):Int):=Oz (b:=1) h h2
def N9(x y:Option (List PV×List Nat))(f:Nat):Option (PV×List Nat):=match x,y with
 |some (x,r),some (y,s)=>some (.fn f x y,r++s)
 |_,_=>none
theorem afH{x y:List PV}{r s:List Nat}{f:Nat}:N9 (some (x,r)) (some (y,s)) f=some (.fn f x y,r++s):=rfl
theorem afL{blk:aw}{f:Nat}{a b:List C}:snap blk dD (.hfn f a b)=N9 (collect (snap blk 5) a) (collect (snap blk 5) b) f:=by unfold dD;rw[snap];unfold N9;rfl
theorem afM{blk:aw}{n id g off:Nat}:snap blk (n+1) (.aZ id g off)=I2 (blk id) (collect (snap blk n)) id g off:=by rw[snap];rfl
theorem afN{blk:aw}{n id g z off len:Nat}:snap blk (n+1) (.hsl id g z off len)=I3 (blk id) (collect (collect (snap blk n))) id g off len:=by rw[snap];rfl
theorem ay{b:Bool}(h:b=true:=by kernel_rfl):b=true:=h
theorem bd{f:Nat}{fn:aU}{args:List V}{r:RV}(hf:S.fns f=some fn)(h:W S .all fn.body (oL .all fn.results fun v blk=>ji blk v=some r) (nr args) vx)(hp:S.prim f args=none:=by rfl)(hl:args.length<=fn.ntmps:=by exact fy rfl):aE S f args r:=WI hp hf hl h
theorem dw:¬((2:Int)=0):=ae
theorem rm(a b:Nat):(a:Int).tmod b=((a%b:Nat):Int):=by rw[Int.tmod_eq_emod_of_nonneg aa];rfl
theorem gR(a:Nat):(a:Int).tmod 2=((a%2:Nat):Int):=rm a 2
theorem eo(a:Nat):(a:Int).tdiv 2=((a/2:Nat):Int):=by rw[Int.tdiv_eq_ediv_of_nonneg aa];rfl
theorem dT{n:Nat}:¬((n:Int)<(n:Int)):=aa
theorem ps_len(l:Let):l.ps.length=6:=rfl
theorem aah{blk:aw}{all:List Nat}:pZ blk all []=some []:=rfl
attribute [go_sem] afL afH afM afN aah
def kU(g:Int)(l:Let):Bool:=l.aG&&l.gate==g
def jr(g:Int)(l:Let):Bool:=l.aC&&l.id==g
theorem Ns(f:Int)(ls:List Let)(hl:ls.length<=1000000):aE S 33 [eQ f ls] (ri (aA Let.aG ls)):=by
 refine bd c33 ?_;simp only[go_sem,i33];refine ck (fun k aj _=>aj 7=.one (.p (mJ ls))/\aj 8=vi ls.length/\aj 9=vi k/\aj 3=vi (aA Let.aG (ls.take k))) 0 ls.length (bc _) ?_ ?_
 .simp only[go_sem];exact⟨rfl,rfl⟩
 rintro k aj blk hk ⟨h7,h8,h9,h3⟩
 by_cases au:k<ls.length
 .obtain⟨l,bx⟩:=aL au;have hi:=iU bx;have aF:((k:Int)<(ls.length:Int)):=aa;have hb:=ub (Let.aG) ls k;have w1:=bj (n:=k) aa;have w2:=bj (n:=aA (Let.aG) (ls.take k)) aa;cases hp:(l.kind==1) with
  |true=>have hc:=nQ (p:=Let.aG) bx hp;simp only[go_sem,i33_l1,h3,h7,h8,h9,hi,Let.ps,aF,w1,w2,hp,hc];first|exact au|exact⟨au,rfl⟩
  |false=>have hc:=ie (p:=Let.aG) bx hp;simp only[go_sem,i33_l1,h3,h7,h8,h9,hi,Let.ps,aF,w1,hp,hc];first|exact au|exact⟨au,rfl⟩
 have:k=ls.length:=aa;subst this;rw[ke] at h3;simp only[go_sem,i33_l1,i33_r2,h3,h8,h9,dT]
theorem Kf(f:Int)(ls:List Let)(hl:ls.length<=1000000):aE S 52 [eQ f ls] (ri (aA Let.aC ls)):=by
 refine bd c52 ?_;simp only[go_sem,i52];refine ck (fun k aj _=>aj 7=.one (.p (mJ ls))/\aj 8=vi ls.length/\aj 9=vi k/\aj 3=vi (aA Let.aC (ls.take k))) 0 ls.length (bc _) ?_ ?_
 .simp only[go_sem];exact⟨rfl,rfl⟩
 rintro k aj blk hk ⟨h7,h8,h9,h3⟩
 by_cases au:k<ls.length
 .obtain⟨l,bx⟩:=aL au;have hi:=iU bx;have aF:((k:Int)<(ls.length:Int)):=aa;have hb:=ub (Let.aC) ls k;have w1:=bj (n:=k) aa;have w2:=bj (n:=aA (Let.aC) (ls.take k)) aa;cases hp:(l.kind==2) with
  |true=>have hc:=nQ (p:=Let.aC) bx hp;simp only[go_sem,i52_l1,h3,h7,h8,h9,hi,Let.ps,aF,w1,w2,hp,hc];first|exact au|exact⟨au,rfl⟩
  |false=>have hc:=ie (p:=Let.aC) bx hp;simp only[go_sem,i52_l1,h3,h7,h8,h9,hi,Let.ps,aF,w1,hp,hc];first|exact au|exact⟨au,rfl⟩
 have:k=ls.length:=aa;subst this;rw[ke] at h3;simp only[go_sem,i52_l1,i52_r2,h3,h8,h9,dT]
theorem P9(f:Int)(ls:List Let)(hl:ls.length<=1000000):aE S 34 [eQ f ls] (ri ((aA Let.aC ls/2:Nat))):=by
 have hb:=oH Let.aC ls;have e1:IntKind.i64.wrap ((aA Let.aC ls:Int).tdiv 2)=((aA Let.aC ls/2:Nat):Int):=by
  have:(aA Let.aC ls:Int).tdiv 2=((aA Let.aC ls/2:Nat):Int):=by rw[Int.tdiv_eq_ediv_of_nonneg aa];omega
  rw[this];exact wrap_small aa
 refine bd c34 ?_;simp only[go_sem,i34,s52,dR (Kf f ls hl),e1,(by decide:¬(2:Int)=0)]
theorem Nt(f:Int)(ls:List Let)(hl:ls.length<=1000000):aE S 8 [eQ f ls] (ri (aA Let.aG ls)):=by
 refine bd c8 ?_;simp only[go_sem,i8];refine ck (fun k aj blk=>aj 1=.one (.aZ 512000000 1 0)/\blk 512000000=(1,some (.var (oI f ls)))/\aj 4=vi k/\aj 3=vi (aA Let.aG (ls.take k))) 0 ls.length (bc _) ?_ ?_
 .simp only[go_sem];first|exact⟨rfl,rfl⟩|exact⟨rfl,rfl,rfl⟩
 rintro k aj blk hk ⟨aQ,hB,jn,fV⟩
 by_cases au:k<ls.length
 .obtain⟨l,bx⟩:=aL au;have hi:=iU bx;have aF:((k:Int)<(ls.length:Int)):=aa;have hb:=ub (Let.aG) ls k;have w1:=bj (n:=k) aa;have w2:=bj (n:=aA (Let.aG) (ls.take k)) aa;cases hp:(l.kind==1) with
  |true=>have hc:=nQ (p:=Let.aG) bx hp;simp only[go_sem,i8_l1,aQ,hB,jn,fV,hi,Let.ps,aF,w1,w2,hp,hc];first|exact au|exact⟨au,rfl⟩
  |false=>have hc:=ie (p:=Let.aG) bx hp;simp only[go_sem,i8_l1,aQ,hB,jn,fV,hi,Let.ps,aF,w1,hp,hc];first|exact au|exact⟨au,rfl⟩
 have:k=ls.length:=aa;subst this;rw[ke] at fV;simp only[go_sem,i8_l1,i8_r2,aQ,hB,jn,fV,dT]
theorem Ot(f:Int)(ls:List Let)(hl:ls.length<=1000000):aE S 19 [eQ f ls] (ri (aA Let.aC ls)):=by
 refine bd c19 ?_;simp only[go_sem,i19];refine ck (fun k aj blk=>aj 1=.one (.aZ 1216000000 1 0)/\blk 1216000000=(1,some (.var (oI f ls)))/\aj 4=vi k/\aj 3=vi (aA Let.aC (ls.take k))) 0 ls.length (bc _) ?_ ?_
 .simp only[go_sem];first|exact⟨rfl,rfl⟩|exact⟨rfl,rfl,rfl⟩
 rintro k aj blk hk ⟨aQ,hB,jn,fV⟩
 by_cases au:k<ls.length
 .obtain⟨l,bx⟩:=aL au;have hi:=iU bx;have aF:((k:Int)<(ls.length:Int)):=aa;have hb:=ub (Let.aC) ls k;have w1:=bj (n:=k) aa;have w2:=bj (n:=aA (Let.aC) (ls.take k)) aa;cases hp:(l.kind==2) with
  |true=>have hc:=nQ (p:=Let.aC) bx hp;simp only[go_sem,i19_l1,aQ,hB,jn,fV,hi,Let.ps,aF,w1,w2,hp,hc];first|exact au|exact⟨au,rfl⟩
  |false=>have hc:=ie (p:=Let.aC) bx hp;simp only[go_sem,i19_l1,aQ,hB,jn,fV,hi,Let.ps,aF,w1,hp,hc];first|exact au|exact⟨au,rfl⟩
 have:k=ls.length:=aa;subst this;rw[ke] at fV;simp only[go_sem,i19_l1,i19_r2,aQ,hB,jn,fV,dT]
theorem Kg(f:Int)(ls:List Let)(hl:ls.length<=1000000):aE S 9 [eQ f ls] (ri ((aA Let.aC ls/2:Nat))):=by
 have hb:=oH Let.aC ls;have e1:IntKind.i64.wrap ((aA Let.aC ls:Int).tdiv 2)=((aA Let.aC ls/2:Nat):Int):=by
  have:(aA Let.aC ls:Int).tdiv 2=((aA Let.aC ls/2:Nat):Int):=by rw[Int.tdiv_eq_ediv_of_nonneg aa];omega
  rw[this];exact wrap_small aa
 refine bd c9 ?_;simp only[go_sem,i9,s19,dR (Ot f ls hl),e1,(by decide:¬(2:Int)=0)]
theorem in_r(f:Int)(ls:List Let)(hl:ls.length<=1000000)(g:Int):aE S 39 [eQ f ls,vi g] (ri (aA (kU g) ls)):=by
 refine bd c39 ?_;simp only[go_sem,i39];refine ck (fun k aj blk=>aj 2=.one (.aZ 2496000000 1 0)/\blk 2496000000=(1,some (.var (oI f ls)))/\aj 6=vi k/\aj 5=vi (aA (kU g) (ls.take k))/\aj 1=vi g) 0 ls.length (bc _) ?_ ?_
 .simp only[go_sem];first|exact⟨rfl,rfl⟩|exact⟨rfl,rfl,rfl⟩
 rintro k aj blk hk ⟨aQ,hB,jn,fV,uq⟩
 by_cases au:k<ls.length
 .obtain⟨l,bx⟩:=aL au;have hi:=iU bx;have aF:((k:Int)<(ls.length:Int)):=aa;have hb:=ub ((kU g)) ls k;have w1:=bj (n:=k) aa;have w2:=bj (n:=aA ((kU g)) (ls.take k)) aa;cases hp:(l.kind==1) with
  |true=>
   cases hq:(l.gate==g) with
   |true=>have hc:=nQ (p:=(kU g)) bx (by simp only[kU,Let.aG,hp,hq];rfl);simp only[go_sem,i39_l1,aQ,hB,jn,fV,hi,Let.ps,aF,w1,w2,uq,hp,hq,hc];first|exact au|exact⟨au,rfl⟩
   |false=>have hc:=ie (p:=(kU g)) bx (by simp only[kU,Let.aG,hp,hq];rfl);simp only[go_sem,i39_l1,aQ,hB,jn,fV,hi,Let.ps,aF,w1,uq,hp,hq,hc];first|exact au|exact⟨au,rfl⟩
  |false=>have hc:=ie (p:=(kU g)) bx (by simp only[kU,Let.aG,hp];rfl);simp only[go_sem,i39_l1,aQ,hB,jn,fV,hi,Let.ps,aF,w1,uq,hp,hc];first|exact au|exact⟨au,rfl⟩
 have:k=ls.length:=aa;subst this;rw[ke] at fV;simp only[go_sem,i39_l1,i39_r2,aQ,hB,jn,fV,dT]
theorem agz(f:Int)(ls:List Let)(hl:ls.length<=1000000)(g:Int):aE S 40 [eQ f ls,vi g] (ri (aA (jr g) ls)):=by
 refine bd c40 ?_;simp only[go_sem,i40];refine ck (fun k aj blk=>aj 2=.one (.aZ 2560000000 1 0)/\blk 2560000000=(1,some (.var (oI f ls)))/\aj 6=vi k/\aj 5=vi (aA (jr g) (ls.take k))/\aj 1=vi g) 0 ls.length (bc _) ?_ ?_
 .simp only[go_sem];first|exact⟨rfl,rfl⟩|exact⟨rfl,rfl,rfl⟩
 rintro k aj blk hk ⟨aQ,hB,jn,fV,uq⟩
 by_cases au:k<ls.length
 .obtain⟨l,bx⟩:=aL au;have hi:=iU bx;have aF:((k:Int)<(ls.length:Int)):=aa;have hb:=ub ((jr g)) ls k;have w1:=bj (n:=k) aa;have w2:=bj (n:=aA ((jr g)) (ls.take k)) aa;cases hp:(l.kind==2) with
  |true=>
   cases hq:(l.id==g) with
   |true=>have hc:=nQ (p:=(jr g)) bx (by simp only[jr,Let.aC,hp,hq];rfl);simp only[go_sem,i40_l1,aQ,hB,jn,fV,hi,Let.ps,aF,w1,w2,uq,hp,hq,hc];first|exact au|exact⟨au,rfl⟩
   |false=>have hc:=ie (p:=(jr g)) bx (by simp only[jr,Let.aC,hp,hq];rfl);simp only[go_sem,i40_l1,aQ,hB,jn,fV,hi,Let.ps,aF,w1,uq,hp,hq,hc];first|exact au|exact⟨au,rfl⟩
  |false=>have hc:=ie (p:=(jr g)) bx (by simp only[jr,Let.aC,hp];rfl);simp only[go_sem,i40_l1,aQ,hB,jn,fV,hi,Let.ps,aF,w1,uq,hp,hc];first|exact au|exact⟨au,rfl⟩
 have:k=ls.length:=aa;subst this;rw[ke] at fV;simp only[go_sem,i40_l1,i40_r2,aQ,hB,jn,fV,dT]
def dn (ls:List Let)(i:Nat):Bool:=aA Let.aG (ls.take i)%2==0
theorem Kh(f:Int)(ls:List Let)(i:Nat)(hl:ls.length<=1000000)(uy:i<=ls.length):aE S 67 [eQ f ls,vi i] (rb (dn ls i)):=by
 refine bd c67 ?_;simp only[go_sem,i67];refine ck (fun k aj blk=>aj 1=vi i/\aj 2=.one (.aZ 4288000000 1 0)/\blk 4288000000=(1,some (.var (oI f ls)))/\aj 6=vi k/\aj 5=vi (aA Let.aG (ls.take k))) 0 i (bc _) ?_ ?_
 .simp only[go_sem];exact⟨rfl,rfl⟩
 rintro k aj blk hk ⟨h1,aQ,hB,jn,fV⟩
 have hb:=ub Let.aG ls k;by_cases au:k<i
 .obtain⟨l,bx⟩:=aL (ls:=ls) (k:=k) aa;have hi:=iU bx;have aF:((k:Int)<(i:Int)):=aa;have w1:=bj (n:=k) aa;have w2:=bj (n:=aA Let.aG (ls.take k)) aa;cases hp:(l.kind==1) with
  |true=>have hc:=nQ (p:=Let.aG) bx hp;simp only[go_sem,i67_l1,h1,aQ,hB,jn,fV,hi,Let.ps,aF,w1,w2,hp,hc];exact au
  |false=>have hc:=ie (p:=Let.aG) bx hp;simp only[go_sem,i67_l1,h1,aQ,hB,jn,fV,hi,Let.ps,aF,w1,hp,hc];exact au
 have:k=i:=aa;subst this;have e2:((((aA Let.aG (ls.take k))%2:Nat):Int)==0)=dn ls k:=by
  unfold dn;cases h:(aA Let.aG (ls.take k)%2==0) with
  |true=>simp at h ⊢;omega
  |false=>simp at h ⊢;omega
 simp only[go_sem,i67_l1,i67_r2,h1,jn,fV,dT,dw,gR,e2]
theorem acw(a b:Let):aE S 65 [.agg (a.ps.map .p),.agg (b.ps.map .p)] (rb (decide (a.gate<b.gate)||(a.gate==b.gate&&decide (a.aO<b.aO)))):=by
 refine bd c65 ?_;by_cases h1:a.gate<b.gate
 .simp only[go_sem,i65,Let.ps,h1]
 cases h2:(a.gate==b.gate) with
 |true=>simp only[go_sem,i65,Let.ps,h1,h2]
 |false=>simp only[go_sem,i65,Let.ps,h1,h2]
def gn(n i:Nat)(fw:Bool):Nat:=if fw then 2*i else 2*((i+n-1)%n)+1
theorem Ju(f:Int)(ls:List Let)(i:Nat)(fw:Bool)(hl:ls.length<=1000000)(hi:i<ls.length):aE S 66 [eQ f ls,vi i,vb fw] (ri (gn ls.length i fw)):=by
 refine bd c66 ?_;cases fw with
 |true=>have e:IntKind.i64.wrap (2*(i:Int))=((2*i:Nat):Int):=wrap_small (n:=2*i) aa;simp only[go_sem,i66,e,gn]
 |false=>
  have w1:IntKind.i64.wrap ((i:Int)+(ls.length:Int))=((i+ls.length:Nat):Int):=wrap_small (n:=i+ls.length) aa;have w2:IntKind.i64.wrap (((i+ls.length:Nat):Int)-1)=((i+ls.length-1:Nat):Int):=by have:(((i+ls.length:Nat):Int)-1)=((i+ls.length-1:Nat):Int):=aa;rw[this];exact wrap_small aa
  have e1:=rm (i+ls.length-1) ls.length;have hm:=eJ (i+ls.length-1) (show 0<ls.length by omega);have w3:IntKind.i64.wrap (2*(((i+ls.length-1)%ls.length:Nat):Int))=((2*((i+ls.length-1)%ls.length):Nat):Int):=wrap_small (n:=2*((i+ls.length-1)%ls.length)) aa;have w4:=bj (n:=2*((i+ls.length-1)%ls.length)) aa;have hz:¬((ls.length:Int)=0):=aa;simp only[go_sem,i66,w1,w2,e1,w3,w4,hz,gn]
def uK(ls:List Let)(i j:Nat):Bool:=j !=i&&(match ls[j]? with|some l=>l.aC&&l.id==((ls[i]?).map Let.id).getD 0|none=>false)
def fL(ls:List Let)(i:Nat):Nat:=((List.range ls.length).find? (uK ls i)).getD i
theorem ym{p:Nat->Bool}:∀ {n k:Nat},k<n->(∀j,j<k->p j=false)->p k=true->(List.range n).find? p=some k:=by intro n k hk hn hp;exact List.find?_range_eq_some.2 ⟨hp,by simpa using hk,fun j hj=>by simp[hn j hj]⟩
theorem EG{p:Nat->Bool}{n:Nat}(hn:∀j,j<n->p j=false):(List.range n).find? p=none:=by rw[DE];intro x hx;simp[hn x (by simpa using hx)]
theorem adg(f:Int)(ls:List Let)(i:Nat)(hl:ls.length<=1000000)(uy:i<ls.length):aE S 68 [eQ f ls,vi i] (ri (fL ls i)):=by
 obtain⟨li,wZ⟩:=aL uy;have fP:=iU wZ;have key:∀j l,ls[j]?=some l->uK ls i j=(j !=i&&(l.aC&&l.id==li.id)):=fun j l h=>by simp[uK,h,wZ]
 refine bd c68 ?_;simp only[go_sem,i68];refine ck (fun k aj blk=>aj 1=vi i/\aj 2=.one (.aZ 4352000000 1 0)/\blk 4352000000=(1,some (.var (oI f ls)))/\aj 5=vi k/\ ∀j,j<k->uK ls i j=false) 0 ls.length (bc _) ?_ ?_
 .simp only[go_sem];exact⟨rfl,fun j h=>absurd h (rC j)⟩
 rintro k aj blk hk ⟨h1,aQ,hB,jn,hn⟩
 by_cases au:k<ls.length
 .obtain⟨l,bx⟩:=aL au;have hi:=iU bx;have aF:((k:Int)<(ls.length:Int)):=aa;have w1:=bj (n:=k) aa;have yJ:=key k l bx;have step:uK ls i k=false->∀j,j<k+1->uK ls i j=false:=fun h j hj=>by
   rcases kK.1 hj with h2|rfl
   .exact hn j h2
   exact h
  by_cases hki:k=i
  .have hb:((k:Int)!=(i:Int))=false:=by simp[hki]
   have hs:=step (by rw[yJ];simp[hki]);simp only[go_sem,i68_l1,h1,aQ,hB,jn,aF,w1,hb];exact⟨ah,au,hs⟩
  have hb:((k:Int)!=(i:Int))=true:=by simp;omega
  have aS:(k !=i)=true:=by simp[hki]
  cases hp:(l.kind==2) with
  |false=>have hs:=step (by rw[yJ,aS,Let.aC,hp];rfl);simp only[go_sem,i68_l1,h1,aQ,hB,jn,hi,Let.ps,aF,w1,hb,hp];exact⟨ah,au,hs⟩
  |true=>
   cases hq:(l.id==li.id) with
   |false=>have hs:=step (by rw[yJ,aS,Let.aC,hp,hq];rfl);simp only[go_sem,i68_l1,h1,aQ,hB,jn,hi,fP,Let.ps,aF,w1,hb,hp,hq];exact⟨ah,au,hs⟩
   |true=>
    have hf:fL ls i=k:=by unfold fL;rw[ym au hn (by rw[yJ,aS,Let.aC,hp,hq];rfl)];rfl
    simp only[go_sem,i68_l1,h1,aQ,hB,jn,hi,fP,Let.ps,aF,hb,hp,hq,hf];show ow _ _ _=true
    kernel_rfl
 have:k=ls.length:=aa;subst this;have hf:fL ls i=i:=by unfold fL;rw[EG hn];rfl
 simp only[go_sem,i68_l1,i68_r2,h1,aQ,hB,jn,dT,hf]
abbrev vw(l:List Nat):PV:=.sl (l.map fun n:Nat=>[.int .i64 (n:Int)])
theorem at_r(l:List Nat)(n k0:Nat)(hl:l.length<=1000000)(FI:l[k0]?=some n)(hn:∀j,j<k0->l[j]? ≠some n):aE S 69 [.one (.p (vw l)),vi n] (ri k0):=by
 have hk0l:=(bn.1 FI).1;refine bd c69 ?_;simp only[go_sem,i69];refine ck (fun k aj blk=>aj 0=.one (.p (vw l))/\aj 1=vi n/\aj 5=vi k) 0 k0 (bc _) ?_ ?_
 .simp only[go_sem];rfl
 rintro k aj blk hk ⟨h0,h1,h5⟩
 have aF:((k:Int)<(l.length:Int)):=aa;have w1:=bj (n:=k) aa;obtain⟨m,hm⟩:=aL (ls:=l) (k:=k) aa;have hi:(l.map fun n:Nat=>[PV.int .i64 (n:Int)])[k]?=some [.int .i64 (m:Int)]:=by simp[hm]
 by_cases au:k<k0
 .have aR:((m:Int)==(n:Int))=false:=by
   have:m≠n:=fun e=>hn k au (by rw[hm,e]);simp;omega
  simp only[go_sem,i69_l1,h0,h1,h5,aF,w1,hi,aR];exact au
 have:k=k0:=aa;subst this;have e:m=n:=by rw[hm] at FI;exact DN FI
 subst e;simp only[go_sem,i69_l1,h0,h1,h5,aF,hi]
abbrev Nc(l:Let):V:=.agg [.p (.int .i64 l.kind),.p (.int .i64 l.gate),.p (.int .i64 l.aO),.p (.int .i64 l.id),.p (.int .i64 l.sign),.p (.bool l.over)]
def A0(a b:Let):Bool:=decide (a.gate<b.gate)||(a.gate==b.gate&&decide (a.aO<b.aO))
theorem acx(a b:Let):aE S 65 [Nc a,Nc b] (rb (A0 a b)):=acw a b
abbrev nP(o:List Nat):List (List PV):=o.map fun n:Nat=>[PV.int .i64 (n:Int)]
theorem fv{o:List Nat}{k n:Nat}(h:o[k]?=some n):(nP o)[k]?=some [.int .i64 (n:Int)]:=by simp[h]
def vq(ls:List Let)(i j:Nat):Bool:=match ls[j]?,ls[i]? with
 |some a,some b=>A0 a b
 |_,_=>false
def uI(ls:List Let)(o:List Nat)(i:Nat):List Nat:=o.take (o.takeWhile (vq ls i)).length++i::o.drop (o.takeWhile (vq ls i)).length
def uY(ls:List Let)(o:List Nat)(i:Nat):List Nat:=match ls[i]? with
 |some l=>if l.aG then uI ls o i else o
 |none=>o
def aD(ls:List Let):List Nat:=(List.range ls.length).foldl (uY ls) []
def kP(ls:List Let)(k:Nat):List Nat:=(List.range k).foldl (uY ls) []
theorem BN(ls:List Let)(k:Nat):kP ls (k+1)=uY ls (kP ls k) k:=by unfold kP;rw[sL,List.foldl_append];rfl
theorem XJ{ls:List Let}{o:List Nat}{i:Nat}{x:Nat}(h:x∈uY ls o i):x∈o\/x=i:=by
 unfold uY at h;split at h
 .split at h
  .unfold uI at h;rcases fk.1 h with h|h
   .exact .inl (sJ h)
   rcases dU.1 h with h|h
   .exact .inr h
   exact .inl (sI h)
  exact .inl h
 exact .inl h
theorem Hd{ls:List Let}:∀ {k x:Nat},x∈kP ls k->x<k:=by
 intro k
 induction k with
 |zero=>intro x h;simp[kP] at h
 |succ k ih=>
  intro x h;rw[BN] at h;rcases XJ h with h|h
  .have:=ih h;omega
  omega
theorem pQ(ls:List Let):∀k,(kP ls k).length<=k:=by
 intro k
 induction k with
 |zero=>simp[kP]
 |succ k ih=>
  rw[BN];unfold uY;split
  .split
   .unfold uI;simp only[iW,dN,jt,Bs];omega
   omega
  omega
def zh(site:Nat)(o:List Nat)(v:V)(blk:aw):Prop:=(o=[]/\v=.one (.p .nils))\/(o≠[]/\ ∃g,v=.one (.hsl site g 1 0 o.length)/\blk site=(g,some (.arr 3 1 (nP o))))
theorem XL{o:List Nat}{i K:Nat}{aj:Env}{blk:aw}{Q:dF}(ho:zh 2624576640 o (aj 3) blk)(h4:aj 4=vi i)(h5:aj 5=vi K)(hK:K<=o.length)(hl:o.length<=1000000)
  (hq:∀aB ak,aB 1=aj 1->aB 4=aj 4->ak 2624000000=blk 2624000000->zh 2624576640 (o.take K++i::o.drop K) (aB 3) ak->Q .normal aB ak):
  W S .all i41_r2 Q aj blk:=by
 rcases ho with ⟨rfl,h3⟩|⟨ho,g,h3,hC⟩
 .have hK0:K=0:=by simpa using hK
  subst hK0;simp only[go_sem,i41_r2,h3,h4,h5,fe,fR];refine⟨ah,hq _ _ ?_ ?_ ?_ (.inr ⟨af,(blk 2624576640).1+1,?_,?_⟩)⟩;all_goals simp only[go_sem]
 have jE:∀n:Nat,n<=1000001->n*8<=140737488355328:=fun n hn=>aa;by_cases hK0:K=0
 .subst hK0;have ht:List.take o.length (nP o)=nP o:=fS af;have de:=jE (1+o.length) aa;simp only[go_sem,i41_r2,h3,h4,h5,hC,ht,de,fe,fR];refine⟨ah,hq _ _ ?_ ?_ ?_ (.inr ⟨af,g+1,?_,?_⟩)⟩;all_goals simp only[go_sem]
  simp;omega
 have ht:(List.take K (nP o)).length=K:=by simp;omega
 have htt:List.take K (List.take K (nP o))=List.take K (nP o):=by rw[List.take_take,Nat.min_self]
 have mE:List.take (K+1) (List.take K (nP o)++[[PV.int .i64 (i:Int)]])=List.take K (nP o)++[[PV.int .i64 (i:Int)]]:=fS (by simp;omega);have htd:List.take (o.length-K) (List.drop K (nP o))=List.drop K (nP o):=fS af;have hld:(List.drop K (nP o)).length=o.length-K:=af;have hla:(List.take K (nP o)++[[PV.int .i64 (i:Int)]]).length=K+1:=by simp;omega
 have de:=jE K aa;have og:=jE (K+1) aa;have hr3:=jE (K+1+(o.length-K)) aa;have hle:K+(o.length-K)<=o.length:=aa;simp only[go_sem,i41_r2,h3,h4,h5,hC,hK,ht,hK0,de,og,hr3,htt,mE,htd,hld,hla,hle,fe,fR];refine⟨ah,hq _ _ ?_ ?_ ?_ (.inr ⟨af,g+1,?_,?_⟩)⟩;all_goals simp only[go_sem]
 .simp;omega
 simp
theorem agt{α:Type}{p:α->Bool}{l:List α}{K:Nat}(hK:K<=l.length)(h1:∀j x,j<K->l[j]?=some x->p x=true)(h2:∀x,l[K]?=some x->p x=false):(l.takeWhile p).length=K:=by
 induction l generalizing K with
 |nil=>simp at hK ⊢;omega
 |cons a l ih=>
  cases K with
  |zero=>have:=h2 a rfl;simp[List.takeWhile,this]
  |succ K=>have:=h1 0 a aa rfl;simp only[List.takeWhile,this,dN];rw[ih (by simpa using hK) (fun j x hj hx=>h1 (j+1) x aa (by simpa using hx)) (fun x hx=>h2 x (by simpa using hx))]
theorem XQ{ls:List Let}{f:Int}{o:List Nat}{i:Nat}{li:Let}{aj:Env}{blk:aw}{Q:dF}(ho:zh 2624576640 o (aj 3) blk)(h1:aj 1=.one (.aZ 2624000000 1 0))(hB:blk 2624000000=(1,some (.var (oI f ls))))(h4:aj 4=vi i)(h5:aj 5=vi 0)
  (wZ:ls[i]?=some li) (au:∀x∈o,x<ls.length) (hl:o.length<=1000000)
  (hq:∀aB ak,aB 1=aj 1->aB 4=aj 4->ak 2624000000=blk 2624000000->zh 2624576640 (uI ls o i) (aB 3) ak->Q .normal aB ak):
  W S .all (.loop i41_l1) (nO 2 (xJ S .all i41_r2 Q)) aj blk:=by
 have fP:=iU wZ;refine ck (fun k aB ak=>aB 1=aj 1/\aB 4=aj 4/\aB 3=aj 3/\ak=blk/\aB 5=vi k/\ ∀j x,j<k->o[j]?=some x->vq ls i x=true) 0 o.length (bc _) ?_ ?_
 .exact⟨rfl,rfl,rfl,rfl,h5,fun j x hj=>absurd hj (rC j)⟩
 rintro k aB ak hk ⟨iQ,uo,oY,rfl,yu,hp⟩
 rw[h1] at iQ;rw[h4] at uo;have fin:∀e:Env,e 1=aB 1->e 4=aB 4->e 3=aB 3->e 5=aB 5->(∀x,o[k]?=some x->vq ls i x=false)->W S .all i41_r2 Q e ak:=by
  intro e e1 e4 e3 e5 nj;have hK:=agt hk hp nj;have je:zh 2624576640 o (e 3) ak:=by rw[e3,oY];exact ho
  refine XL (i:=i) (K:=k) je (by rw[e4,uo]) (by rw[e5,yu]) hk hl ?_;intro bH aN q1 q2 q3 q4;refine hq bH aN (by rw[q1,e1,iQ,h1]) (by rw[q2,e4,uo,h4]) q3 ?_;unfold uI;rw[hK];exact q4
 by_cases bx:k<o.length
 .obtain⟨x,hx⟩:=aL bx;have xj:=au x (ba hx);obtain⟨lx,hlx⟩:=aL xj;have hY:=iU hlx;have hnx:=fv hx;have aF:((k:Int)<(o.length:Int)):=aa;have w1:=bj (n:=k) aa;have S6:vq ls i x=A0 lx li:=by simp[vq,hlx,wZ]
  have IE:=acx lx li;rcases ho with ⟨rfl,_⟩|⟨ho,g,h3,hC⟩
  .simp at bx
  rw[h3] at oY;cases hb:A0 lx li with
  |true=>
   rw[hb] at IE;simp only[go_sem,i41_l1,h1,h3,h4,iQ,oY,uo,yu,hB,hC,aF,hnx,hY,fP,Let.ps,bx,w1,s65,kn IE];refine⟨ah,fun j y hj hy=>?_⟩;rcases kK.1 hj with hj|rfl
   .exact hp j y hj hy
   rw[hx] at hy;cases hy;rw[S6,hb]
  |false=>rw[hb] at IE;simp only[go_sem,i41_l1,iQ,oY,uo,yu,hB,hC,aF,hnx,hY,fP,Let.ps,bx,s65,kn IE];refine⟨ah,fin _ ?_ ?_ ?_ ?_ (fun y hy=>by rw[hx] at hy;cases hy;rw[S6,hb])⟩;all_goals simp only[go_sem,iQ,oY,uo,yu]
 have:k=o.length:=aa;subst this;have dB:∀x,o[o.length]?=some x->vq ls i x=false:=fun x hx=>by simp at hx
 rcases ho with ⟨rfl,h3⟩|⟨ho,g,h3,hC⟩
 .rw[h3] at oY;simp only[go_sem,i41_l1,oY,yu,dT];refine⟨ah,fin _ ?_ ?_ ?_ ?_ dB⟩;all_goals simp only[go_sem,iQ,oY,uo,yu]
 rw[h3] at oY;simp only[go_sem,i41_l1,oY,yu,dT];refine⟨ah,fin _ ?_ ?_ ?_ ?_ dB⟩;all_goals simp only[go_sem,iQ,oY,uo,yu]
theorem abR(ls:List Let)(o:List Nat)(i:Nat):(uI ls o i).length=o.length+1:=by unfold uI;simp only[iW,dN,jt,Bs];have:=(List.takeWhile_sublist (vq ls i) (l:=o)).length_le;omega
theorem ID{blk:aw}{id g z len ty:Nat}{es:List (List PV)}(h:blk id=(g,some (.arr ty z es)))(hl:len=es.length):ji blk (.one (.hsl id g z 0 len))=some (.one (.own ty z es)):=by subst hl;simp only[ji,qB,lX,kV,jF,h,bo,and_self,if_true,ke];rfl
def He(o:List Nat):RC:=if o=[] then .p .nils else .own 3 1 (nP o)
theorem XV(f:Int)(ls:List Let)(hl:ls.length<=1000000):aE S 41 [eQ f ls] (.one (He (aD ls))):=by
 refine bd c41 ?_;simp only[go_sem,i41];refine ck (fun k aj blk=>aj 1=.one (.aZ 2624000000 1 0)/\blk 2624000000=(1,some (.var (oI f ls)))/\aj 4=vi k/\zh 2624576640 (kP ls k) (aj 3) blk) 0 ls.length (bc _) ?_ ?_
 .simp only[go_sem];exact⟨rfl,.inl ⟨rfl,rfl⟩⟩
 rintro k aj blk hk ⟨h1,hB,h4,ho⟩
 have dd:=pQ ls k;by_cases au:k<ls.length
 .obtain⟨l,bx⟩:=aL au;have hi:=iU bx;have aF:((k:Int)<(ls.length:Int)):=aa;have w1:=bj (n:=k) aa;have hs:=BN ls k;unfold uY at hs;rw[bx] at hs;cases hp:(l.kind==1) with
  |false=>
   have kS:(l.kind !=1)=true:=by simp[bne,hp]
   simp only[Let.aG,hp] at hs;have hs:kP ls (k+1)=kP ls k:=hs;simp only[go_sem,i41_l4,i41_r3,h1,hB,h4,hi,Let.ps,aF,kS,w1,hs,au];rcases ho with ⟨e,h3⟩|⟨ho,g,h3,hC⟩
   .exact .inl ⟨e,by simp only[go_sem,h3]⟩
   exact .inr ⟨ho,g,by simp only[go_sem,h3],by simp only[go_sem,hC]⟩
  |true=>
   have kS:(l.kind !=1)=false:=by simp[bne,hp]
   simp only[Let.aG,hp] at hs;have hs:kP ls (k+1)=uI ls (kP ls k) k:=hs;simp only[go_sem,i41_l4,h1,hB,h4,hi,Let.ps,aF,kS];refine XQ (ls:=ls) (f:=f) (o:=kP ls k) (i:=k) ?_ ?_ ?_ ?_ ?_ bx (fun x hx=>Nat.lt_trans (Hd hx) au) aa ?_
   .rcases ho with ⟨e,h3⟩|⟨ho,g,h3,hC⟩
    .exact .inl ⟨e,by simp only[go_sem,h3]⟩
    exact .inr ⟨ho,g,by simp only[go_sem,h3],by simp only[go_sem,hC]⟩
   .simp only[go_sem,h1]
   .simp only[go_sem,hB]
   .simp only[go_sem,h4]
   .rfl
   intro aB ak q1 q2 q3 q4;simp only[go_sem,h1,h4,hB] at q1 q2 q3;simp only[go_sem,i41_r3,q1,q2,q3,w1,hs,au];rcases q4 with ⟨e,h3⟩|⟨ho,g,h3,hC⟩
   .exact .inl ⟨e,by simp only[go_sem,h3]⟩
   exact .inr ⟨ho,g,by simp only[go_sem,h3],by simp only[go_sem,hC]⟩
 have:k=ls.length:=aa;subst this;have he:aD ls=kP ls ls.length:=rfl;rw[<- he] at ho;rcases ho with ⟨e,h3⟩|⟨ho,g,h3,hC⟩
 .simp only[go_sem,i41_l4,i41_r5,h1,hB,h3,h4,dT,He,e]
 simp only[go_sem,i41_l4,i41_r5,h1,hB,h3,h4,dT,He,ho];exact ID hC af
def eL(ls:List Let)(ax:List Nat)(d:Nat):Nat:=
 if 2*ls.length<=d then
  if d%2=0 then gn ls.length (ax.getD (((d-2*ls.length)/2+1)%ax.length) 0) (!dn ls (ax.getD (((d-2*ls.length)/2+1)%ax.length) 0))
  else gn ls.length (ax.getD ((d-2*ls.length)/2) 0) (dn ls (ax.getD ((d-2*ls.length)/2) 0))
 else
  let fw:=d%2==0
  let v:=if fw then (d/2+1)%ls.length else d/2
  match ls[v]? with
  |none=>0
  |some l=>if l.kind==2 then gn ls.length (fL ls v) (fw==(l.over==(l.sign==1)))
   else if dn ls v==fw then 2*ls.length+2*ax.idxOf v else 2*ls.length+2*((ax.idxOf v+ax.length-1)%ax.length)+1
theorem UD{ls:List Let}{i:Nat}(hi:i<ls.length):fL ls i<ls.length:=by
 unfold fL;cases h:(List.range ls.length).find? (uK ls i) with
 |none=>exact hi
 |some k=>
  have:=Jn h
  simpa using this
theorem BI{n i:Nat}{fw:Bool}(hi:i<n):gn n i fw<2*n:=by unfold gn;have:=eJ (i+n-1) (show 0<n by omega);split<;>omega
theorem Jd{ls:List Let}{ax:List Nat}{d:Nat}(jA:∀x∈ax,x<ls.length)(hp:∀v l,ls[v]?=some l->(l.kind==2)=false->v∈ax)(hd:d<2*ls.length+2*ax.length):eL ls ax d<2*ls.length+2*ax.length:=by
 have wW:∀k,k<ax.length->ax.getD k 0<ls.length:=fun k hk=>by obtain⟨x,hx⟩:=aL hk;rw[cP,hx];exact jA x (ba hx)
 unfold eL;by_cases h:2*ls.length<=d
 .rw[if_pos h];have hm:=eJ ((d-2*ls.length)/2+1) (show 0<ax.length by omega);by_cases h2:d%2=0
  .rw[if_pos h2];exact xS (BI (wW _ hm)) aa
  rw[if_neg h2];exact xS (BI (wW _ aa)) aa
 rw[if_neg h];have hn:0<ls.length:=aa;have hv:(if (d%2==0)=true then (d/2+1)%ls.length else d/2)<ls.length:=by
  split
  .exact eJ _ hn
  omega
 simp only;generalize (if (d%2==0)=true then (d/2+1)%ls.length else d/2)=v at hv;obtain⟨l,hl⟩:=aL hv;rw[hl];simp only;by_cases hk:(l.kind==2)=true
 .rw[if_pos hk];exact xS (BI (UD hv)) aa
 rw[if_neg hk];have qI:=hp v l hl (by simpa using hk);have FH:ax.idxOf v<ax.length:=List.idxOf_lt_length_iff.2 qI;have hm:=eJ (ax.idxOf v+ax.length-1) (show 0<ax.length by omega);split<;>omega
theorem abI{ax:List Nat}{v:Nat}:∀j,j<ax.idxOf v->ax[j]? ≠some v:=by
 induction ax with
 |nil=>intro j h;simp at h
 |cons a ax ih=>
  intro j h e;rw[List.idxOf_cons] at h;by_cases ha:a=v
  .simp[ha] at h
  have hb:(a==v)=false:=by simpa using ha
  rw[hb] at h;cases j with
  |zero=>simp at e;exact ha e
  |succ j=>exact ih j (by simp at h;omega) (by simpa using e)
theorem Tp{ax:List Nat}{v:Nat}(h:v∈ax):ax[ax.idxOf v]?=some v:=by have hl:ax.idxOf v<ax.length:=List.idxOf_lt_length_iff.2 h;rw[ry hl,List.getElem_idxOf hl]
theorem agP(f:Int)(ls:List Let)(ax:List Nat)(d:Nat)(hl:ls.length<=1000000)(gI:ax.length<=1000000)(jA:∀x∈ax,x<ls.length)(hp:∀v l,ls[v]?=some l->(l.kind==2)=false->v∈ax)
  (hd:d<2*ls.length+2*ax.length):aE S 42 [eQ f ls,.one (.p (vw ax)),vi d] (ri (eL ls ax d)):=by
 have m1:IntKind.i64.wrap (2*(ls.length:Int))=((2*ls.length:Nat):Int):=wrap_small (n:=2*ls.length) aa;unfold eL;by_cases h:2*ls.length<=d
 .rw[if_pos h];refine bd c42 ?_;have h':((2*ls.length:Nat):Int)<=(d:Int):=aa;have m2:IntKind.i64.wrap ((d:Int)-((2*ls.length:Nat):Int))=((d-2*ls.length:Nat):Int):=by
   have:((d:Int)-((2*ls.length:Nat):Int))=((d-2*ls.length:Nat):Int):=aa;rw[this];exact wrap_small aa
  have m3:=wrap_small (n:=(d-2*ls.length)/2) aa;have hm:=eJ ((d-2*ls.length)/2+1) (show 0<ax.length by omega);have lC:¬((ax.length:Int)=0):=aa;by_cases h2:d%2=0
  .rw[if_pos h2];have m4:=bj (n:=(d-2*ls.length)/2) aa;have fU:(((d%2:Nat):Int)==0)=true:=by simp[h2]
   have m5:=rm ((d-2*ls.length)/2+1) ax.length;obtain⟨v,hv⟩:=aL hm;have qN:ax.getD (((d-2*ls.length)/2+1)%ax.length) 0=v:=by rw[cP,hv];rfl
   rw[qN];have nq:=jA v (ba hv);have vl:=fv hv;have pd:=Kh f ls v hl aa;have pa:=Ju f ls v (!dn ls v) hl nq;simp only[go_sem,i42,m1,m2,m3,m4,m5,h',fU,vl,lC,gR,eo,dw,s67,s66,kn pd,gT pa];exact ay
  rw[if_neg h2];have fU:(((d%2:Nat):Int)==0)=false:=by simp;omega
  obtain⟨v,hv⟩:=aL (ls:=ax) (k:=(d-2*ls.length)/2) aa;have qN:ax.getD ((d-2*ls.length)/2) 0=v:=by rw[cP,hv];rfl
  rw[qN];have nq:=jA v (ba hv);have vl:=fv hv;have pd:=Kh f ls v hl aa;have pa:=Ju f ls v (dn ls v) hl nq;simp only[go_sem,i42,m1,m2,m3,h',fU,vl,gR,eo,dw,s67,s66,kn pd,gT pa];exact ay
 rw[if_neg h];have h':¬(((2*ls.length:Nat):Int)<=(d:Int)):=aa;have m3:=wrap_small (n:=d/2) aa;have eX:¬((ls.length:Int)=0):=aa;have lC:=eJ (d/2+1) (show 0<ls.length by omega);have m4:=bj (n:=d/2) aa;have m5:=rm (d/2+1) ls.length;have body:∀v:Nat,v<ls.length->∀fw:Bool,v=(if fw then (d/2+1)%ls.length else d/2)->(d%2==0)=fw->(((d%2:Nat):Int)==0)=fw->aE S 42 [eQ f ls,.one (.p (vw ax)),vi d] (ri ((match ls[v]? with
   |none=>0
   |some l=>if l.kind==2 then gn ls.length (fL ls v) (fw==(l.over==(l.sign==1)))
    else if dn ls v==fw then 2*ls.length+2*ax.idxOf v else 2*ls.length+2*((ax.idxOf v+ax.length-1)%ax.length)+1:Nat):Int)):=by
  intro v hv fw dZ tx my;obtain⟨l,jY⟩:=aL hv;have fh:=iU jY;rw[jY];simp only;refine bd c42 ?_;cases hk:(l.kind==2) with
  |true=>
   have po:=adg f ls v hl hv;have pa:=Ju f ls (fL ls v) (fw==(l.over==(l.sign==1))) hl (UD hv);cases fw with
   |true=>have dZ:v=(d/2+1)%ls.length:=dZ;rw[dZ] at fh po pa ⊢;simp only[go_sem,i42,m1,m3,m4,m5,h',my,fh,Let.ps,eX,hk,gR,eo,dw,s68,s66,gT po,gT pa];exact ay
   |false=>have dZ:v=d/2:=dZ;rw[dZ] at fh po pa ⊢;simp only[go_sem,i42,m1,m3,h',my,fh,Let.ps,hk,gR,eo,dw,s68,s66,gT po,gT pa];exact ay
  |false=>
   have qI:=hp v l jY hk;have FH:ax.idxOf v<ax.length:=List.idxOf_lt_length_iff.2 qI;have pat:=at_r ax v (ax.idxOf v) gI (Tp qI) abI;have pd:=Kh f ls v hl aa;have FL:¬((ax.length:Int)=0):=aa;have jZ:=eJ (ax.idxOf v+ax.length-1) (show 0<ax.length by omega);have n1:=mj (a:=ax.idxOf v) aa;have n2:=wrap_add (a:=2*ls.length) (b:=2*ax.idxOf v) aa;have n3:=wrap_add (a:=ax.idxOf v) (b:=ax.length) aa;have n4:=Bl (a:=ax.idxOf v+ax.length) aa aa;have n5:=rm (ax.idxOf v+ax.length-1) ax.length;have n6:=mj (a:=(ax.idxOf v+ax.length-1)%ax.length) aa;have n7:=wrap_add (a:=2*ls.length) (b:=2*((ax.idxOf v+ax.length-1)%ax.length)) aa
   have n8:=bj (n:=2*ls.length+2*((ax.idxOf v+ax.length-1)%ax.length)) aa;cases fw with
   |true=>
    have dZ:v=(d/2+1)%ls.length:=dZ;cases eS:dn ls v with
    |true=>rw[eS] at pd;subst dZ;simp only[go_sem,i42,m1,m3,m4,m5,h',my,fh,Let.ps,eX,hk,gR,eo,dw,s69,s67,dR pat,bY pd,n1,n2]
    |false=>rw[eS] at pd;subst dZ;simp only[go_sem,i42,m1,m3,m4,m5,h',my,fh,Let.ps,eX,hk,gR,eo,dw,s69,s67,dR pat,bY pd,n3,n4,n5,n6,n7,n8,FL]
   |false=>
    have dZ:v=d/2:=dZ;cases eS:dn ls v with
    |true=>rw[eS] at pd;subst dZ;simp only[go_sem,i42,m1,m3,h',my,fh,Let.ps,hk,gR,eo,dw,s69,s67,dR pat,bY pd,n3,n4,n5,n6,n7,n8,FL]
    |false=>rw[eS] at pd;subst dZ;simp only[go_sem,i42,m1,m3,h',my,fh,Let.ps,hk,gR,eo,dw,s69,s67,dR pat,bY pd,n1,n2]
 have nq:(if (d%2==0)=true then (d/2+1)%ls.length else d/2)<ls.length:=by
  split
  .exact lC
  omega
 have:=body _ nq (d%2==0) rfl rfl (by cases hq:(d%2==0)<;>simp at hq ⊢ <;>omega);exact this
abbrev bP(o:List Bool):List (List PV):=o.map fun b:Bool=>[PV.bool b]
theorem oF{o:List Bool}{k:Nat}{b:Bool}(h:o[k]?=some b):(bP o)[k]?=some [.bool b]:=by simp[h]
theorem BQ(o:List Bool)(k:Nat)(b:Bool):(bP o).set k [.bool b]=bP (o.set k b):=by simp[List.map_set]
def ei(next:Nat->Nat):Nat->Nat->List Bool->List Nat×List Bool
 |0,_,seen=>([],seen)
 |k+1,x,seen=>if seen.getD x true then ([],seen) else (x::(ei next k (next x) (seen.set x true)).1,(ei next k (next x) (seen.set x true)).2)
def tO(s:List Bool):Nat:=s.countP (fun b=> !b)
theorem GN{s:List Bool}{x:Nat}(h:s[x]?=some false):tO (s.set x true)+1=tO s:=by
 induction s generalizing x with
 |nil=>simp at h
 |cons b s ih=>
  cases x with
  |zero=>simp at h;subst h;simp[tO]
  |succ x=>have:=ih (x:=x) (by simpa using h);unfold tO at this ⊢;simp only[List.set_cons_succ,GV];omega
theorem agV(next:Nat->Nat):∀(k x:Nat) (s:List Bool),(ei next k x s).2.length=s.length:=by
 intro k
 induction k with
 |zero=>intro x s;rfl
 |succ k ih=>
  intro x s;unfold ei;split
  .rfl
  simp[ih]
def rq(next:Nat->Nat)(st:List (List Nat)×List Bool)(d:Nat):List (List Nat)×List Bool:=if st.2.getD d true then st else (st.1++[(ei next (st.2.length+1) d st.2).1],(ei next (st.2.length+1) d st.2).2)
def cR(next:Nat->Nat)(N k:Nat):List (List Nat)×List Bool:=(List.range k).foldl (rq next) ([],List.replicate N false)
def lN(next:Nat->Nat)(N:Nat):List (List Nat):=(cR next N N).1
theorem uR(next:Nat->Nat)(N k:Nat):cR next N (k+1)=rq next (cR next N k) k:=by unfold cR;rw[sL,List.foldl_append];rfl
theorem Bh(next:Nat->Nat)(N:Nat):∀k,(cR next N k).2.length=N:=by
 intro k
 induction k with
 |zero=>simp[cR]
 |succ k ih=>
  rw[uR];unfold rq;split
  .exact ih
  simp[agV,ih]
theorem ag1(next:Nat->Nat)(N k:Nat)(hk:1<=k)(hN:1<=N):(cR next N k).1≠[]:=by
 induction k with
 |zero=>omega
 |succ k ih=>
  rw[uR];by_cases h0:k=0
  .subst h0;have hz:(cR next N 0)=([],List.replicate N false):=rfl;have hg:(List.replicate N false).getD 0 true=false:=by
    obtain⟨n,rfl⟩:∃n,N=n+1:=⟨N-1,aa⟩;rfl
   rw[hz];unfold rq;simp only[hg];simp
  have:=ih aa;unfold rq;split
  .exact this
  simp
theorem GR(next:Nat->Nat)(N:Nat):∀k,(cR next N k).1.length<=k:=by
 intro k
 induction k with
 |zero=>simp[cR]
 |succ k ih=>
  rw[uR];unfold rq;split
  .omega
  simp;exact ih
theorem Dy(s:List Bool):tO s<=s.length:=List.countP_le_length
theorem agY{ls:List Let}{ax:List Nat}(hl:ls.length<=1000000)(gI:ax.length<=1000000)(jA:∀x∈ax,x<ls.length)(hp:∀v l,ls[v]?=some l->(l.kind==2)=false->v∈ax){Q:dF}:
  ∀(fuel x:Nat) (sn:List Bool) (w:List Nat) (aj:Env) (blk:aw),aj 1=.one (.aZ 1344000000 1 0)->blk 1344000000=(1,some (.var (oI f ls)))->
   aj 4=.one (.hsl 1344128064 1 1 0 ax.length)->blk 1344128064=(1,some (.arr 3 1 (nP ax)))->aj 5=.one (.hsl 1344192512 1 1 0 sn.length)->blk 1344192512=(1,some (.arr 4 1 (bP sn)))->
   zh 1344832192 w (aj 7) blk->aj 8=vi x->x<sn.length->sn.length=2*ls.length+2*ax.length->tO sn<fuel->w.length+tO sn<=5000000->
   (∀aB ak,aB 1=aj 1->aB 3=aj 3->aB 4=aj 4->aB 5=aj 5->aB 6=aj 6->ak 1344000000=blk 1344000000->ak 1344128064=blk 1344128064->ak 1344896192=blk 1344896192->ak 1344896128=blk 1344896128->
    ak 1344192512=(1,some (.arr 4 1 (bP (ei (eL ls ax) fuel x sn).2)))->zh 1344832192 (w++(ei (eL ls ax) fuel x sn).1) (aB 7) ak->Q .normal aB ak)->
   W S .all (.loop i21_l1) (nO 2 Q) aj blk:=by
 intro fuel
 induction fuel with
 |zero=>intro x sn w aj blk _ _ _ _ _ _ _ _ _ _ h;omega
 |succ fuel ih=>
  intro x sn w aj blk h1 hB h4 hA h5 hS ho h8 hx hsl hu hw hq;obtain⟨b,hb⟩:=aL hx;have lB:=oF hb;have uw:sn.getD x true=b:=by rw[cP,hb];rfl
  unfold ei at hq;rw[uw] at hq;refine k8 ?_;cases b with
  |true=>
   simp only[go_sem,i21_l1,h5,hS,h8,hx,lB];refine hq _ _ ?_ ?_ ?_ ?_ ?_ rfl rfl rfl rfl hS ?_;all_goals simp only[go_sem]
   exact ho
  |false=>
   have yV:=GN hb;have pt:=agP f ls ax x hl gI jA hp aa;have jd:=Jd (d:=x) jA hp aa;have iT:=BQ sn x true;have jE:∀n:Nat,n<=5000001->n*8<=140737488355328:=fun n hn=>aa;have AT:List.take ax.length (nP ax)=nP ax:=fS af;rcases ho with ⟨rfl,h7⟩|⟨HX,g,h7,hC⟩
   .simp only[go_sem,i21_l1,h1,hB,h4,hA,h5,hS,h7,h8,hx,lB,iT,AT,s42,dR pt,fe,fR];refine ih (eL ls ax x) (sn.set x true) [x] _ _ ?_ ?_ ?_ ?_ ?_ ?_ ?_ ?_ (by simpa [hsl] using jd) (by simpa using hsl) aa (by simp;omega) ?_
    .simp only[go_sem,h1]
    .simp only[go_sem,hB]
    .simp only[go_sem,h4]
    .simp only[go_sem,hA]
    .simp only[go_sem,h5,kY]
    .simp only[go_sem]
    .simp only[go_sem];exact .inr ⟨af,_,rfl,rfl⟩
    .simp only[go_sem]
    intro aB ak q1 q3 q4 q5 q6 b1 b2 b3 b4 b5 b6;refine hq aB ak ?_ ?_ ?_ ?_ ?_ ?_ ?_ ?_ ?_ b5 ?_
    .rw[q1];simp only[go_sem]
    .rw[q3];simp only[go_sem]
    .rw[q4];simp only[go_sem]
    .rw[q5];simp only[go_sem]
    .rw[q6];simp only[go_sem]
    .rw[b1];simp only[go_sem]
    .rw[b2];simp only[go_sem]
    .rw[b3];simp only[go_sem]
    .rw[b4];simp only[go_sem]
    simpa using b6
   have htw:List.take w.length (nP w)=nP w:=fS af;have de:=jE (w.length+1) aa;simp only[go_sem,i21_l1,h1,hB,h4,hA,h5,hS,h7,h8,hx,lB,iT,AT,s42,dR pt,hC,htw,de,fe,fR];refine ih (eL ls ax x) (sn.set x true) (w++[x]) _ _ ?_ ?_ ?_ ?_ ?_ ?_ ?_ ?_ (by simpa [hsl] using jd) (by simpa using hsl) aa (by simp;omega) ?_
   .simp only[go_sem,h1]
   .simp only[go_sem,hB]
   .simp only[go_sem,h4]
   .simp only[go_sem,hA]
   .simp only[go_sem,h5,kY]
   .simp only[go_sem]
   .simp only[go_sem];exact .inr ⟨af,g+1,af,by simp[aP]⟩
   .simp only[go_sem]
   intro aB ak q1 q3 q4 q5 q6 b1 b2 b3 b4 b5 b6;refine hq aB ak ?_ ?_ ?_ ?_ ?_ ?_ ?_ ?_ ?_ b5 ?_
   .rw[q1];simp only[go_sem]
   .rw[q3];simp only[go_sem]
   .rw[q4];simp only[go_sem]
   .rw[q5];simp only[go_sem]
   .rw[q6];simp only[go_sem]
   .rw[b1];simp only[go_sem]
   .rw[b2];simp only[go_sem]
   .rw[b3];simp only[go_sem]
   .rw[b4];simp only[go_sem]
   simpa using b6
def outW(site:Nat)(o:List (List Nat))(v:V)(blk:aw):Prop:=(o=[]/\v=.one (.p .nils))\/(o≠[]/\ ∃g,v=.one (.hsl site g 1 0 o.length)/\blk site=(g,some (.arr 61 1 (o.map fun w=>[vw w]))))
theorem ag4(f:Int)(ls:List Let)(hl:ls.length<=1000000)(aR:aD ls≠[])(hp:∀v l,ls[v]?=some l->(l.kind==2)=false->v∈aD ls):
  aE S 21 [eQ f ls] (.one (.own 61 1 ((lN (eL ls (aD ls)) (2*ls.length+2*(aD ls).length)).map fun w=>[vw w]))):=by
 have pa:=XV f ls hl;have jA:∀x∈aD ls,x<ls.length:=fun x h=>Hd h;have gI:(aD ls).length<=ls.length:=pQ ls ls.length;unfold He at pa;rw[if_neg aR] at pa;generalize aD ls=ax at aR hp pa jA gI;have m1:=mj (a:=ls.length) aa;have m2:=mj (a:=ax.length) aa;have m3:=wrap_add (a:=2*ls.length) (b:=2*ax.length) aa;have n9:(nP ax).length=ax.length:=af;have jE:2*ls.length+2*ax.length<=140737488355328:=aa;have AS:List.replicate (2*ls.length+2*ax.length) [PV.bool false]=bP (List.replicate (2*ls.length+2*ax.length) false):=af
 refine bd c21 ?_;have aaV:∀(blk:aw),land blk [] 1344128064 ((RV.one (.own 3 1 (nP ax))).fx (S.lone 1344128064))=some (.one (.hsl 1344128064 ((blk 1344128064).1+1) 1 0 ax.length),[(1344128064,((blk 1344128064).1+1,some (.arr 3 1 (nP ax))))]):=by intro blk;have eY:S.lone 1344128064=false:=ah;rw[eY];simp only[RV.fx,land,true_or,if_true,jg,iZ,jy,iJ,cY,re,mg,cq,qu]
 simp only[go_sem,i21,s41,cN pa (aaV _),m1,m2,m3,jE,AS];generalize hN:2*ls.length+2*ax.length=N at jE;refine ck (fun k aj blk=>aj 1=.one (.aZ 1344000000 1 0)/\blk 1344000000=(1,some (.var (oI f ls)))/\aj 4=.one (.hsl 1344128064 1 1 0 ax.length)/\blk 1344128064=(1,some (.arr 3 1 (nP ax)))/\
   aj 5=.one (.hsl 1344192512 1 1 0 N)/\blk 1344192512=(1,some (.arr 4 1 (bP (cR (eL ls ax) N k).2)))/\aj 6=vi k/\outW 1344896192 (cR (eL ls ax) N k).1 (aj 3) blk) 0 N (bc _) ?_ ?_
 .simp only[go_sem];exact⟨rfl,rfl,.inl ⟨rfl,rfl⟩⟩
 rintro k aj blk hk ⟨h1,hB,h4,hA,h5,hS,h6,ho⟩
 have hlen:=Bh (eL ls ax) N k;have yP:=GR (eL ls ax) N k;by_cases au:k<N
 .have aF:((k:Int)<(N:Int)):=aa;have w1:=bj (n:=k) aa;have hs:=uR (eL ls ax) N k;generalize bU:cR (eL ls ax) N k=st at hlen hs ho hS yP;obtain⟨out,sn⟩:=st;simp only at hlen ho hS yP;obtain⟨b,hb⟩:=aL (ls:=sn) (k:=k) aa;have lB:=oF hb;unfold rq at hs;have uw:sn.getD k true=b:=by rw[cP,hb];rfl
  simp only[uw] at hs;cases b with
  |true=>have hs:cR (eL ls ax) N (k+1)=(out,sn):=hs;simp only[go_sem,i21_l4,i21_r3,h1,hB,h4,hA,h5,hS,h6,au,aF,lB,w1,hs];exact ho
  |false=>
   have hs:cR (eL ls ax) N (k+1)=(out++[(ei (eL ls ax) (N+1) k sn).1],(ei (eL ls ax) (N+1) k sn).2):=by rw[hs,hlen];rfl
   have hul:=Dy sn;simp only[go_sem,i21_l4,h5,hS,h6,au,aF,lB];refine agY (f:=f) hl aa jA hp (N+1) k sn [] _ _ ?_ ?_ ?_ ?_ ?_ ?_ ?_ ?_ aa aa aa (by simp;omega) ?_
   .simp only[go_sem,h1]
   .simp only[go_sem,hB]
   .simp only[go_sem,h4]
   .simp only[go_sem,hA]
   .simp only[go_sem,h5,hlen]
   .simp only[go_sem,hS]
   .exact .inl ⟨rfl,by simp only[go_sem]⟩
   .simp only[go_sem]
   intro aB ak q1 q3 q4 q5 q6 b1 b2 b3 b4 b5 b6;simp only[go_sem,h1,h4,h5,h6] at q1 q3 q4 q5 q6;simp only[go_sem,hB,hA] at b1 b2 b3 b4;have HX:(ei (eL ls ax) (N+1) k sn).1≠[]:=by unfold ei;rw[uw];simp
   rw[xQ] at b6;rcases b6 with ⟨e,_⟩|⟨_,g,h7,hC⟩
   .exact(HX e).elim
   generalize ei (eL ls ax) (N+1) k sn=wf at hs HX b5 h7 hC;obtain⟨w,ff⟩:=wf;simp only at hs HX b5 h7 hC;have htw:List.take w.length (nP w)=nP w:=fS af;rcases ho with ⟨rfl,h3⟩|⟨ho,go,h3,hO⟩
   .rw[h3] at q3;simp only[go_sem,i21_r2,i21_r3,q1,q3,q4,q5,q6,b1,b2,b5,h7,hC,htw,w1,hs,au,sY,fe,fR];exact .inr ⟨af,_,rfl,by simp[aP]⟩
   rw[h3] at q3;have yU:List.take out.length (out.map fun w=>[vw w])=out.map fun w=>[vw w]:=fS af;have de:(out.length+1)*24<=140737488355328:=aa;simp only[go_sem,i21_r2,i21_r3,q1,q3,q4,q5,q6,b1,b2,b3,b5,h7,hC,hO,htw,yU,de,w1,hs,au,sY,dU,fe,fR];exact .inr ⟨af,go+1,af,by simp[aP]⟩
 have:k=N:=aa;subst this;have he:lN (eL ls ax) k=(cR (eL ls ax) k k).1:=rfl;rw[<- he] at ho;rcases ho with ⟨e,h3⟩|⟨ho,g,h3,hC⟩
 .exact(ag1 (eL ls ax) k k (by have:=nH.2 aR;omega) (by have:=nH.2 aR;omega) e).elim
 simp only[go_sem,i21_l4,i21_r5,h3,h5,h6,dT];exact ID hC af
abbrev Nb(l:Let):List C:=[.p (.int .i64 l.kind),.p (.int .i64 l.gate),.p (.int .i64 l.aO),.p (.int .i64 l.id),.p (.int .i64 l.sign),.p (.bool l.over)]
def ga(l o:Let):Bool:=(o.kind==l.kind&&o.gate==l.gate)&&o.aO==l.aO
def fG(l o:Let):Bool:=((o.kind==l.kind&&o.id==l.id)&&o.sign==l.sign)&& !(o.over==l.over)
def qV(f:Int)(ls:List Let)(l:Let):Bool:= !(((((((l.id !=0||l.sign !=0)||l.over)||decide (l.gate<0))||decide (f<l.gate))||decide (l.aO<1))||decide ((aA (kU l.gate) ls:Int)<l.aO))||(((aA (ga l) ls:Nat):Int)!=1))
def nz(ls:List Let)(l:Let):Bool:= !((((((l.gate !=0||l.aO !=0)||(l.sign !=1&&l.sign != -1))||decide (l.id<1))||decide (((aA Let.aC ls/2:Nat):Int)<l.id))||(((aA (fG l) ls:Nat):Int)!=1))||(((aA (jr l.id) ls:Nat):Int)!=2))
def dJ(f:Int)(ls:List Let)(l:Let):Bool:=if l.kind==1 then qV f ls l else if l.kind==2 then nz ls l else false
theorem acG{f:Int}{ls:List Let}{l:Let}{g i:Nat}{aj:Env}{blk:aw}{Q:dF}(hl:ls.length<=1000000)(h1:aj 1=.one (.aZ 1280000000 1 0))(hB:blk 1280000000=(1,some (.var (oI f ls))))(h3:aj 3=vi i)(h4:aj 4=.one (.aZ 1280256320 g 0))(hL:blk 1280256320=(g,some (.var (Nb l))))
  (h5:aj 5=vi 0) (h6:aj 6=vi 0) (h7:aj 7=vi 0)
  (hq:∀aB ak,aB 1=aj 1->aB 3=aj 3->aB 4=aj 4->ak 1280000000=blk 1280000000->ak 1280256320=blk 1280256320->aB 5=vi (aA (ga l) ls)->aB 6=vi (aA (fG l) ls)->Q .normal aB ak):
  W S .all (.loop i20_l1) (nO 2 Q) aj blk:=by
 refine ck (fun k aB ak=>aB 1=.one (.aZ 1280000000 1 0)/\ak 1280000000=(1,some (.var (oI f ls)))/\aB 3=vi i/\aB 4=.one (.aZ 1280256320 g 0)/\ak 1280256320=(g,some (.var (Nb l)))/\
   aB 5=vi (aA (ga l) (ls.take k))/\aB 6=vi (aA (fG l) (ls.take k))/\aB 7=vi k) 0 ls.length (bc _) ?_ ?_
 .exact⟨h1,hB,h3,h4,hL,h5,h6,h7⟩
 rintro k aB ak hk ⟨g1,gB,g3,g4,gL,g5,g6,g7⟩
 by_cases au:k<ls.length
 .obtain⟨o,ho⟩:=aL au;have hi:=iU ho;have aF:((k:Int)<(ls.length:Int)):=aa;have b5:=ub (ga l) ls k;have b6:=ub (fG l) ls k;have w1:=bj (n:=k) aa;have w5:=bj (n:=aA (ga l) (ls.take k)) aa;have w6:=bj (n:=aA (fG l) (ls.take k)) aa;cases e0:(o.kind==l.kind) with
  |true=>
   cases e1:(o.gate==l.gate) with
   |true=>
    cases e2:(o.aO==l.aO) with
    |true=>
     cases e3:(o.id==l.id) with
     |true=>
      cases e4:(o.sign==l.sign) with
      |true=>
       cases e5:(o.over==l.over) with
       |true=>have c5:=nQ (p:=ga l) ho (by simp only[ga,e0,e1,e2];rfl);have c6:=ie (p:=fG l) ho (by simp only[fG,e0,e3,e4,e5];rfl);simp only[go_sem,i20_l1,g1,gB,g3,g4,gL,g5,g6,g7,hi,Let.ps,aF,w1,w5,e0,e1,e2,e3,e4,e5,c5,c6];first|exact au|exact⟨au,rfl⟩|exact⟨au,rfl,rfl⟩
       |false=>have c5:=nQ (p:=ga l) ho (by simp only[ga,e0,e1,e2];rfl);have c6:=nQ (p:=fG l) ho (by simp only[fG,e0,e3,e4,e5];rfl);simp only[go_sem,i20_l1,g1,gB,g3,g4,gL,g5,g6,g7,hi,Let.ps,aF,w1,w5,w6,e0,e1,e2,e3,e4,e5,c5,c6];first|exact au|exact⟨au,rfl⟩|exact⟨au,rfl,rfl⟩
      |false=>have c5:=nQ (p:=ga l) ho (by simp only[ga,e0,e1,e2];rfl);have c6:=ie (p:=fG l) ho (by simp only[fG,e0,e3,e4];rfl);simp only[go_sem,i20_l1,g1,gB,g3,g4,gL,g5,g6,g7,hi,Let.ps,aF,w1,w5,e0,e1,e2,e3,e4,c5,c6];first|exact au|exact⟨au,rfl⟩|exact⟨au,rfl,rfl⟩
     |false=>have c5:=nQ (p:=ga l) ho (by simp only[ga,e0,e1,e2];rfl);have c6:=ie (p:=fG l) ho (by simp only[fG,e0,e3];rfl);simp only[go_sem,i20_l1,g1,gB,g3,g4,gL,g5,g6,g7,hi,Let.ps,aF,w1,w5,e0,e1,e2,e3,c5,c6];first|exact au|exact⟨au,rfl⟩|exact⟨au,rfl,rfl⟩
    |false=>
     cases e3:(o.id==l.id) with
     |true=>
      cases e4:(o.sign==l.sign) with
      |true=>
       cases e5:(o.over==l.over) with
       |true=>have c5:=ie (p:=ga l) ho (by simp only[ga,e0,e1,e2];rfl);have c6:=ie (p:=fG l) ho (by simp only[fG,e0,e3,e4,e5];rfl);simp only[go_sem,i20_l1,g1,gB,g3,g4,gL,g5,g6,g7,hi,Let.ps,aF,w1,e0,e1,e2,e3,e4,e5,c5,c6];first|exact au|exact⟨au,rfl⟩|exact⟨au,rfl,rfl⟩
       |false=>have c5:=ie (p:=ga l) ho (by simp only[ga,e0,e1,e2];rfl);have c6:=nQ (p:=fG l) ho (by simp only[fG,e0,e3,e4,e5];rfl);simp only[go_sem,i20_l1,g1,gB,g3,g4,gL,g5,g6,g7,hi,Let.ps,aF,w1,w6,e0,e1,e2,e3,e4,e5,c5,c6];first|exact au|exact⟨au,rfl⟩|exact⟨au,rfl,rfl⟩
      |false=>have c5:=ie (p:=ga l) ho (by simp only[ga,e0,e1,e2];rfl);have c6:=ie (p:=fG l) ho (by simp only[fG,e0,e3,e4];rfl);simp only[go_sem,i20_l1,g1,gB,g3,g4,gL,g5,g6,g7,hi,Let.ps,aF,w1,e0,e1,e2,e3,e4,c5,c6];first|exact au|exact⟨au,rfl⟩|exact⟨au,rfl,rfl⟩
     |false=>have c5:=ie (p:=ga l) ho (by simp only[ga,e0,e1,e2];rfl);have c6:=ie (p:=fG l) ho (by simp only[fG,e0,e3];rfl);simp only[go_sem,i20_l1,g1,gB,g3,g4,gL,g5,g6,g7,hi,Let.ps,aF,w1,e0,e1,e2,e3,c5,c6];first|exact au|exact⟨au,rfl⟩|exact⟨au,rfl,rfl⟩
   |false=>
    cases e3:(o.id==l.id) with
    |true=>
     cases e4:(o.sign==l.sign) with
     |true=>
      cases e5:(o.over==l.over) with
      |true=>have c5:=ie (p:=ga l) ho (by simp only[ga,e0,e1];rfl);have c6:=ie (p:=fG l) ho (by simp only[fG,e0,e3,e4,e5];rfl);simp only[go_sem,i20_l1,g1,gB,g3,g4,gL,g5,g6,g7,hi,Let.ps,aF,w1,e0,e1,e3,e4,e5,c5,c6];first|exact au|exact⟨au,rfl⟩|exact⟨au,rfl,rfl⟩
      |false=>have c5:=ie (p:=ga l) ho (by simp only[ga,e0,e1];rfl);have c6:=nQ (p:=fG l) ho (by simp only[fG,e0,e3,e4,e5];rfl);simp only[go_sem,i20_l1,g1,gB,g3,g4,gL,g5,g6,g7,hi,Let.ps,aF,w1,w6,e0,e1,e3,e4,e5,c5,c6];first|exact au|exact⟨au,rfl⟩|exact⟨au,rfl,rfl⟩
     |false=>have c5:=ie (p:=ga l) ho (by simp only[ga,e0,e1];rfl);have c6:=ie (p:=fG l) ho (by simp only[fG,e0,e3,e4];rfl);simp only[go_sem,i20_l1,g1,gB,g3,g4,gL,g5,g6,g7,hi,Let.ps,aF,w1,e0,e1,e3,e4,c5,c6];first|exact au|exact⟨au,rfl⟩|exact⟨au,rfl,rfl⟩
    |false=>have c5:=ie (p:=ga l) ho (by simp only[ga,e0,e1];rfl);have c6:=ie (p:=fG l) ho (by simp only[fG,e0,e3];rfl);simp only[go_sem,i20_l1,g1,gB,g3,g4,gL,g5,g6,g7,hi,Let.ps,aF,w1,e0,e1,e3,c5,c6];first|exact au|exact⟨au,rfl⟩|exact⟨au,rfl,rfl⟩
  |false=>have c5:=ie (p:=ga l) ho (by simp only[ga,e0];rfl);have c6:=ie (p:=fG l) ho (by simp only[fG,e0];rfl);simp only[go_sem,i20_l1,g1,gB,g3,g4,gL,g5,g6,g7,hi,Let.ps,aF,w1,e0,c5,c6];first|exact au|exact⟨au,rfl⟩|exact⟨au,rfl,rfl⟩
 have:k=ls.length:=aa;subst this;rw[ke] at g5 g6;simp only[go_sem,i20_l1,g1,gB,g7,dT];refine hq _ _ ?_ ?_ ?_ ?_ ?_ ?_ ?_;all_goals simp only[go_sem,g1,gB,g3,g4,gL,g5,g6,h1,hB,h3,h4,hL]
theorem acH{f:Int}{ls:List Let}{l:Let}{g i:Nat}{aj:Env}{blk:aw}{Q:dF}(hl:ls.length<=1000000)(h1:aj 1=.one (.aZ 1280000000 1 0))(hB:blk 1280000000=(1,some (.var (oI f ls))))(h3:aj 3=vi i)(h4:aj 4=.one (.aZ 1280256320 g 0))(hL:blk 1280256320=(g,some (.var (Nb l))))
  (h5:aj 5=vi (aA (ga l) ls)) (h6:aj 6=vi (aA (fG l) ls))
  (hq:dJ f ls l=true->∀aB,aB 1=aj 1->aB 3=aj 3->Q .normal aB blk) (hr:dJ f ls l=false->∀aB,aB 2=.one (.p (.bool false))->Q .ret aB blk):
  W S .all i20_r2 Q aj blk:=by
 have pin:=in_r f ls hl l.gate;have pvi:=Ot f ls hl;have pti:=agz f ls hl l.id;have hcv:=oH Let.aC ls;have wv:=wrap_small (n:=aA Let.aC ls/2) aa;cases k1:(l.kind==1) with
 |true=>
  cases a1:(l.id !=0) with
  |true=>
   have aq:dJ f ls l=false:=by simp only[dJ,k1,qV,a1];rfl
   simp only[go_sem,i20_r2,h4,hL,k1,a1];refine⟨ah,hr aq _ ?_⟩;simp only[go_sem]
  |false=>
   cases a2:(l.sign !=0) with
   |true=>
    have aq:dJ f ls l=false:=by simp only[dJ,k1,qV,a1,a2];rfl
    simp only[go_sem,i20_r2,h4,hL,k1,a1,a2];refine⟨ah,hr aq _ ?_⟩;simp only[go_sem]
   |false=>
    cases a3:(l.over) with
    |true=>
     have aq:dJ f ls l=false:=by simp only[dJ,k1,qV,a1,a2,a3];rfl
     simp only[go_sem,i20_r2,h4,hL,k1,a1,a2,a3];refine⟨ah,hr aq _ ?_⟩;simp only[go_sem]
    |false=>
     cases a4:(decide (l.gate<0)) with
     |true=>
      have tW:(l.gate<0):=of_decide_eq_true a4;have aq:dJ f ls l=false:=by simp only[dJ,k1,qV,a1,a2,a3,a4];rfl
      simp only[go_sem,i20_r2,h4,hL,k1,a1,a2,a3,tW];refine⟨ah,hr aq _ ?_⟩;simp only[go_sem]
     |false=>
      cases a5:(decide (f<l.gate)) with
      |true=>
       have tW:¬(l.gate<0):=of_decide_eq_false a4;have iO:(f<l.gate):=of_decide_eq_true a5;have aq:dJ f ls l=false:=by simp only[dJ,k1,qV,a1,a2,a3,a4,a5];rfl
       simp only[go_sem,i20_r2,h1,hB,h4,hL,k1,a1,a2,a3,tW,iO];refine⟨ah,hr aq _ ?_⟩;simp only[go_sem]
      |false=>
       cases a6:(decide (l.aO<1)) with
       |true=>
        have tW:¬(l.gate<0):=of_decide_eq_false a4;have iO:¬(f<l.gate):=of_decide_eq_false a5;have kh:(l.aO<1):=of_decide_eq_true a6;have aq:dJ f ls l=false:=by simp only[dJ,k1,qV,a1,a2,a3,a4,a5,a6];rfl
        simp only[go_sem,i20_r2,h1,hB,h4,hL,k1,a1,a2,a3,tW,iO,kh];refine⟨ah,hr aq _ ?_⟩;simp only[go_sem]
       |false=>
        cases a7:(decide ((aA (kU l.gate) ls:Int)<l.aO)) with
        |true=>
         have tW:¬(l.gate<0):=of_decide_eq_false a4;have iO:¬(f<l.gate):=of_decide_eq_false a5;have kh:¬(l.aO<1):=of_decide_eq_false a6;have DS:((aA (kU l.gate) ls:Int)<l.aO):=of_decide_eq_true a7;have aq:dJ f ls l=false:=by simp only[dJ,k1,qV,a1,a2,a3,a4,a5,a6,a7];rfl
         simp only[go_sem,i20_r2,h1,hB,h4,hL,s39,gT pin,k1,a1,a2,a3,tW,iO,kh,DS];refine⟨ah,hr aq _ ?_⟩;simp only[go_sem]
        |false=>
         cases a8:(((aA (ga l) ls:Nat):Int)!=1) with
         |true=>
          have tW:¬(l.gate<0):=of_decide_eq_false a4;have iO:¬(f<l.gate):=of_decide_eq_false a5;have kh:¬(l.aO<1):=of_decide_eq_false a6;have DS:¬((aA (kU l.gate) ls:Int)<l.aO):=of_decide_eq_false a7;have aq:dJ f ls l=false:=by simp only[dJ,k1,qV,a1,a2,a3,a4,a5,a6,a7,a8];rfl
          simp only[go_sem,i20_r2,h1,hB,h4,hL,h5,s39,gT pin,k1,a1,a2,a3,tW,iO,kh,DS,a8];refine⟨ah,hr aq _ ?_⟩;simp only[go_sem]
         |false=>
          have tW:¬(l.gate<0):=of_decide_eq_false a4;have iO:¬(f<l.gate):=of_decide_eq_false a5;have kh:¬(l.aO<1):=of_decide_eq_false a6;have DS:¬((aA (kU l.gate) ls:Int)<l.aO):=of_decide_eq_false a7;have aq:dJ f ls l=true:=by simp only[dJ,k1,qV,a1,a2,a3,a4,a5,a6,a7,a8];rfl
          simp only[go_sem,i20_r2,h1,hB,h4,hL,h5,s39,gT pin,k1,a1,a2,a3,tW,iO,kh,DS,a8];refine⟨ah,hq aq _ ?_ ?_⟩;all_goals simp only[go_sem]
 |false=>
  cases k2:(l.kind==2) with
  |true=>
   cases a1:(l.gate !=0) with
   |true=>
    have aq:dJ f ls l=false:=by simp only[dJ,k1,k2,nz,a1];rfl
    simp only[go_sem,i20_r2,h4,hL,k1,k2,a1];refine⟨ah,hr aq _ ?_⟩;simp only[go_sem]
   |false=>
    cases a2:(l.aO !=0) with
    |true=>
     have aq:dJ f ls l=false:=by simp only[dJ,k1,k2,nz,a1,a2];rfl
     simp only[go_sem,i20_r2,h4,hL,k1,k2,a1,a2];refine⟨ah,hr aq _ ?_⟩;simp only[go_sem]
    |false=>
     cases a3:(l.sign !=1) with
     |true=>
      cases a4:(l.sign != -1) with
      |true=>
       have aq:dJ f ls l=false:=by simp only[dJ,k1,k2,nz,a1,a2,a3,a4];rfl
       simp only[go_sem,i20_r2,h4,hL,k1,k2,a1,a2,a3,a4];refine⟨ah,hr aq _ ?_⟩;simp only[go_sem]
      |false=>
       cases a5:(decide (l.id<1)) with
       |true=>
        have iO:(l.id<1):=of_decide_eq_true a5;have aq:dJ f ls l=false:=by simp only[dJ,k1,k2,nz,a1,a2,a3,a4,a5];rfl
        simp only[go_sem,i20_r2,h4,hL,k1,k2,a1,a2,a3,a4,iO];refine⟨ah,hr aq _ ?_⟩;simp only[go_sem]
       |false=>
        cases a6:(decide (((aA Let.aC ls/2:Nat):Int)<l.id)) with
        |true=>
         have iO:¬(l.id<1):=of_decide_eq_false a5;have kh:(((aA Let.aC ls/2:Nat):Int)<l.id):=of_decide_eq_true a6;have aq:dJ f ls l=false:=by simp only[dJ,k1,k2,nz,a1,a2,a3,a4,a5,a6];rfl
         simp only[go_sem,i20_r2,h1,hB,h4,hL,s19,gT pvi,eo,dw,wv,k1,k2,a1,a2,a3,a4,iO,kh];refine⟨ah,hr aq _ ?_⟩;simp only[go_sem]
        |false=>
         cases a7:(((aA (fG l) ls:Nat):Int)!=1) with
         |true=>
          have iO:¬(l.id<1):=of_decide_eq_false a5;have kh:¬(((aA Let.aC ls/2:Nat):Int)<l.id):=of_decide_eq_false a6;have aq:dJ f ls l=false:=by simp only[dJ,k1,k2,nz,a1,a2,a3,a4,a5,a6,a7];rfl
          simp only[go_sem,i20_r2,h1,hB,h4,hL,h6,s19,gT pvi,eo,dw,wv,k1,k2,a1,a2,a3,a4,iO,kh,a7];refine⟨ah,hr aq _ ?_⟩;simp only[go_sem]
         |false=>
          cases a8:(((aA (jr l.id) ls:Nat):Int)!=2) with
          |true=>
           have iO:¬(l.id<1):=of_decide_eq_false a5;have kh:¬(((aA Let.aC ls/2:Nat):Int)<l.id):=of_decide_eq_false a6;have aq:dJ f ls l=false:=by simp only[dJ,k1,k2,nz,a1,a2,a3,a4,a5,a6,a7,a8];rfl
           simp only[go_sem,i20_r2,h1,hB,h4,hL,h6,s19,s40,gT pvi,gT pti,eo,dw,wv,k1,k2,a1,a2,a3,a4,iO,kh,a7,a8];refine⟨ah,hr aq _ ?_⟩;simp only[go_sem]
          |false=>
           have iO:¬(l.id<1):=of_decide_eq_false a5;have kh:¬(((aA Let.aC ls/2:Nat):Int)<l.id):=of_decide_eq_false a6;have aq:dJ f ls l=true:=by simp only[dJ,k1,k2,nz,a1,a2,a3,a4,a5,a6,a7,a8];rfl
           simp only[go_sem,i20_r2,h1,hB,h4,hL,h6,s19,s40,gT pvi,gT pti,eo,dw,wv,k1,k2,a1,a2,a3,a4,iO,kh,a7,a8];refine⟨ah,hq aq _ ?_ ?_⟩;all_goals simp only[go_sem]
     |false=>
      cases a5:(decide (l.id<1)) with
      |true=>
       have iO:(l.id<1):=of_decide_eq_true a5;have aq:dJ f ls l=false:=by simp only[dJ,k1,k2,nz,a1,a2,a3,a5];rfl
       simp only[go_sem,i20_r2,h4,hL,k1,k2,a1,a2,a3,iO];refine⟨ah,hr aq _ ?_⟩;simp only[go_sem]
      |false=>
       cases a6:(decide (((aA Let.aC ls/2:Nat):Int)<l.id)) with
       |true=>
        have iO:¬(l.id<1):=of_decide_eq_false a5;have kh:(((aA Let.aC ls/2:Nat):Int)<l.id):=of_decide_eq_true a6;have aq:dJ f ls l=false:=by simp only[dJ,k1,k2,nz,a1,a2,a3,a5,a6];rfl
        simp only[go_sem,i20_r2,h1,hB,h4,hL,s19,gT pvi,eo,dw,wv,k1,k2,a1,a2,a3,iO,kh];refine⟨ah,hr aq _ ?_⟩;simp only[go_sem]
       |false=>
        cases a7:(((aA (fG l) ls:Nat):Int)!=1) with
        |true=>
         have iO:¬(l.id<1):=of_decide_eq_false a5;have kh:¬(((aA Let.aC ls/2:Nat):Int)<l.id):=of_decide_eq_false a6;have aq:dJ f ls l=false:=by simp only[dJ,k1,k2,nz,a1,a2,a3,a5,a6,a7];rfl
         simp only[go_sem,i20_r2,h1,hB,h4,hL,h6,s19,gT pvi,eo,dw,wv,k1,k2,a1,a2,a3,iO,kh,a7];refine⟨ah,hr aq _ ?_⟩;simp only[go_sem]
        |false=>
         cases a8:(((aA (jr l.id) ls:Nat):Int)!=2) with
         |true=>
          have iO:¬(l.id<1):=of_decide_eq_false a5;have kh:¬(((aA Let.aC ls/2:Nat):Int)<l.id):=of_decide_eq_false a6;have aq:dJ f ls l=false:=by simp only[dJ,k1,k2,nz,a1,a2,a3,a5,a6,a7,a8];rfl
          simp only[go_sem,i20_r2,h1,hB,h4,hL,h6,s19,s40,gT pvi,gT pti,eo,dw,wv,k1,k2,a1,a2,a3,iO,kh,a7,a8];refine⟨ah,hr aq _ ?_⟩;simp only[go_sem]
         |false=>
          have iO:¬(l.id<1):=of_decide_eq_false a5;have kh:¬(((aA Let.aC ls/2:Nat):Int)<l.id):=of_decide_eq_false a6;have aq:dJ f ls l=true:=by simp only[dJ,k1,k2,nz,a1,a2,a3,a5,a6,a7,a8];rfl
          simp only[go_sem,i20_r2,h1,hB,h4,hL,h6,s19,s40,gT pvi,gT pti,eo,dw,wv,k1,k2,a1,a2,a3,iO,kh,a7,a8];refine⟨ah,hq aq _ ?_ ?_⟩;all_goals simp only[go_sem]
  |false=>
   have aq:dJ f ls l=false:=by simp only[dJ,k1,k2];rfl
   simp only[go_sem,i20_r2,h4,hL,k1,k2];refine hr aq _ ?_;simp only[go_sem]
def qR(f:Int)(ls:List Let):Bool:=ls.all (dJ f ls)
theorem acI(f:Int)(ls:List Let)(hl:ls.length<=1000000):aE S 20 [eQ f ls] (rb (qR f ls)):=by
 refine bd c20 ?_;simp only[go_sem,i20];refine ck (fun k aj blk=>aj 1=.one (.aZ 1280000000 1 0)/\blk 1280000000=(1,some (.var (oI f ls)))/\aj 3=vi k/\ ∀j l,j<k->ls[j]?=some l->dJ f ls l=true) 0 ls.length (bc _) ?_ ?_
 .simp only[go_sem];exact⟨rfl,fun j l h=>absurd h (rC j)⟩
 rintro k aj blk hk ⟨h1,hB,h3,aq⟩
 by_cases au:k<ls.length
 .obtain⟨l,ho⟩:=aL au;have hi:=iU ho;have aF:((k:Int)<(ls.length:Int)):=aa;have w1:=bj (n:=k) aa;simp only[go_sem,i20_l4,h1,hB,h3,hi,Let.ps,aF];refine acG (f:=f) (l:=l) (g:=(blk 1280256320).1+1) (i:=k) hl ?_ ?_ ?_ ?_ ?_ ?_ ?_ ?_ ?_
  .simp only[go_sem,h1]
  .simp only[go_sem,hB]
  .simp only[go_sem,h3]
  .simp only[go_sem]
  .simp only[go_sem]
  .simp only[go_sem]
  .simp only[go_sem]
  .simp only[go_sem]
  intro aB ak q1 q3 q4 b1 b2 q5 q6;simp only[go_sem,h1,h3] at q1 q3 q4;simp only[go_sem,hB] at b1 b2;simp only[go_sem];refine acH (f:=f) (l:=l) (i:=k) hl q1 b1 q3 q4 b2 q5 q6 ?_ ?_
  .intro FB bH e1 e3;rw[q1] at e1;rw[q3] at e3;simp only[go_sem,i20_r3,e1,b1,e3,w1];refine⟨au,fun j l' hj vh=>?_⟩;rcases kK.1 hj with hj|rfl
   .exact aq j l' hj vh
   rw[ho] at vh;cases vh;exact FB
  intro aaD bH e2;have hf:qR f ls=false:=by unfold qR;rw[List.all_eq_false];exact⟨l,ba ho,by simp[aaD]⟩
  simp only[go_sem,e2,hf]
 have:k=ls.length:=aa;subst this;have hf:qR f ls=true:=by unfold qR;rw[im];intro x hx;obtain⟨j,hj,rfl⟩:=List.getElem_of_mem hx;exact aq j _ hj af
 simp only[go_sem,i20_l4,i20_r5,h1,hB,h3,dT,hf]
theorem abS{ls:List Let}{o:List Nat}{i x:Nat}:x∈uI ls o i↔x∈o\/x=i:=by
 unfold uI;generalize (o.takeWhile (vq ls i)).length=K;constructor
 .intro h;rcases fk.1 h with h|h
  .exact .inl (sJ h)
  rcases dU.1 h with h|h
  .exact .inr h
  exact .inl (sI h)
 rintro (h|rfl)
 .rw[<- xR K o] at h;rcases fk.1 h with h|h
  .exact fk.2 (.inl h)
  exact fk.2 (.inr (dU.2 (.inr h)))
 simp
theorem Pd{ls:List Let}:∀ {k x:Nat},k<=ls.length->(x∈kP ls k↔x<k/\ ∃l,ls[x]?=some l/\l.aG=true):=by
 intro k
 induction k with
 |zero=>intro x _;simp[kP]
 |succ k ih=>
  intro x hk;rw[BN];obtain⟨l,hl⟩:=aL (ls:=ls) (k:=k) aa;have ih:=ih (x:=x) aa;unfold uY;rw[hl];simp only;by_cases hp:l.aG=true
  .rw[if_pos hp,abS,ih];constructor
   .rintro (⟨h1,h2⟩|rfl)
    .exact⟨aa,h2⟩
    exact⟨aa,l,hl,hp⟩
   rintro ⟨h1,h2⟩
   rcases kK.1 h1 with h|rfl
   .exact .inl ⟨h,h2⟩
   exact .inr rfl
  rw[if_neg hp,ih];constructor
  .rintro ⟨h1,h2⟩;exact⟨aa,h2⟩
  rintro ⟨h1,m,hm,kB⟩
  rcases kK.1 h1 with h|rfl
  .exact⟨h,m,hm,kB⟩
  rw[hl] at hm;cases hm;exact(hp kB).elim
theorem rF{ls:List Let}{x:Nat}:x∈aD ls↔ ∃l,ls[x]?=some l/\l.aG=true:=by
 have:=Pd (ls:=ls) (k:=ls.length) (x:=x) (bo _);have e:aD ls=kP ls ls.length:=rfl;rw[e,this];constructor
 .rintro ⟨_,h⟩;exact h
 rintro ⟨l,h,h2⟩;exact⟨(bn.1 h).1,l,h,h2⟩
theorem TS{ls:List Let}(h:qR f ls=true){v:Nat}{l:Let}(hv:ls[v]?=some l):l.aG=true\/l.aC=true:=by
 have:=(im.1 h) l (ba hv);unfold dJ at this;unfold Let.aG Let.aC;cases h1:(l.kind==1) with
 |true=>exact .inl rfl
 |false=>
  cases h2:(l.kind==2) with
  |true=>exact .inr rfl
  |false=>rw[h1,h2] at this;simp at this
def sj(ls:List Let):Nat:=(lN (eL ls (aD ls)) (2*ls.length+2*(aD ls).length)).length
def jH(f:Int)(ls:List Let):Bool:=(match ls[0]? with|some l=>l.kind==1|none=>true)&&(aA Let.aG ls%2==0)&&qR f ls&&(sj ls==aA Let.aG ls+aA Let.aC ls/2+2)
def jN(f:Int)(ls:List Let):Int:=if 400<ls.length\/200<aA Let.aC ls then 7 else if f<0\/40<f then 2 else if ls=[] then 0 else if jH f ls then 0 else 3
theorem Yx(f:Int)(ls:List Let)(hl:ls.length<=1000000):aE S 11 [eQ f ls] (ri (jN f ls)):=by
 have pvi:=Ot f ls hl;have ppa:=Nt f ls hl;have ple:=acI f ls hl;have pcr:=Kg f ls hl;have hci:=oH Let.aC ls;have fP:=oH Let.aG ls;refine bd c11 ?_;unfold jN;by_cases h1:400<ls.length
 .have iQ:(400:Int)<(ls.length:Int):=aa;simp only[go_sem,i11,h1,iQ]
 have iQ:¬(400:Int)<(ls.length:Int):=aa;by_cases h2:200<aA Let.aC ls
 .have fU:(200:Int)<(aA Let.aC ls:Int):=aa;simp only[go_sem,i11,h1,iQ,h2,fU,s19,dR pvi]
 have fU:¬(200:Int)<(aA Let.aC ls:Int):=aa;by_cases h3:f<0
 .simp only[go_sem,i11,h1,iQ,h2,fU,h3,s19,dR pvi]
 by_cases h4:40<f
 .simp only[go_sem,i11,h1,iQ,h2,fU,h3,h4,s19,dR pvi]
 have abn:¬(400<ls.length\/200<aA Let.aC ls):=aa;have abo:¬(f<0\/40<f):=aa;rw[if_neg abn,if_neg abo];by_cases he:ls=[]
 .subst he;have hz:(((0:Nat):Int)==0)=true:=ae;have hz3:¬((400:Int)<((0:Nat):Int)):=ae;have aeq:aE S 19 [.agg [.p (.int .i64 f),.p (.sl [])]] (ri (aA Let.aC [])):=pvi;simp only[go_sem,i11,hz3,fU,h3,h4,s19,dR aeq,hz]
 have hlen:0<ls.length:=nH.2 he;obtain⟨l0,h0⟩:=aL hlen;have uy:=iU h0;have xf:(((ls.length:Nat):Int)==0)=false:=by simp;omega
 rw[if_neg he];generalize hr:(if jH f ls=true then (0:Int) else 3)=r;cases c1:(l0.kind==1) with
 |false=>
  have c1':(l0.kind !=1)=true:=by simp[bne,c1]
  have hv:jH f ls=false:=by simp only[jH,h0,c1];rfl
  rw[hv] at hr;have hr:(3:Int)=r:=hr;subst hr;simp only[go_sem,i11,iQ,fU,h3,h4,s19,dR pvi,xf,s8,dR ppa,uy,Let.ps,c1'];exact ay
 |true=>
  have c1':(l0.kind !=1)=false:=by simp[bne,c1]
  cases c2:(aA Let.aG ls%2==0) with
  |false=>
   have c2':(((aA Let.aG ls%2:Nat):Int)!=0)=true:=by simp at c2 ⊢;omega
   have hv:jH f ls=false:=by simp only[jH,h0,c1,c2];rfl
   rw[hv] at hr;have hr:(3:Int)=r:=hr;subst hr;simp only[go_sem,i11,iQ,fU,h3,h4,s19,dR pvi,xf,s8,dR ppa,uy,Let.ps,c1',gR,dw,c2'];exact ay
  |true=>
   have c2':(((aA Let.aG ls%2:Nat):Int)!=0)=false:=by simp at c2 ⊢;omega
   cases c3:qR f ls with
   |false=>
    rw[c3] at ple;have hv:jH f ls=false:=by simp only[jH,h0,c1,c2,c3];rfl
    rw[hv] at hr;have hr:(3:Int)=r:=hr;subst hr;simp only[go_sem,i11,iQ,fU,h3,h4,s19,dR pvi,xf,s8,dR ppa,uy,Let.ps,c1',gR,dw,c2',s20,kn ple];exact ay
   |true=>
    rw[c3] at ple;have aR:aD ls≠[]:=fun e=>by have:(0:Nat)∈aD ls:=rF.2 ⟨l0,h0,c1⟩;rw[e] at this;cases this
    have hp:∀v l,ls[v]?=some l->(l.kind==2)=false->v∈aD ls:=fun v l hv h2=>by
     rcases TS c3 hv with h|h
     .exact rF.2 ⟨l,hv,h⟩
     unfold Let.aC at h;rw[h2] at h;cases h
    have pw:=ag4 f ls hl aR hp;have hnw:sj ls=(lN (eL ls (aD ls)) (2*ls.length+2*(aD ls).length)).length:=rfl;have tB:=GR (eL ls (aD ls)) (2*ls.length+2*(aD ls).length) (2*ls.length+2*(aD ls).length);generalize hW:lN (eL ls (aD ls)) (2*ls.length+2*(aD ls).length)=ws at pw tB hnw;have a1:=wrap_add (a:=aA Let.aG ls) (b:=aA Let.aC ls/2) aa;have a2:IntKind.i64.wrap (((aA Let.aG ls+aA Let.aC ls/2:Nat):Int)+2)=((aA Let.aG ls+aA Let.aC ls/2+2:Nat):Int):=wrap_add (a:=aA Let.aG ls+aA Let.aC ls/2) (b:=2) aa;have eY:S.lone 704513152=false:=ah
    have ft:∀(blk:aw),land blk [] 704513152 ((RV.one (.own 61 1 (ws.map fun w=>[vw w]))).fx (S.lone 704513152))=some (.one (.hsl 704513152 ((blk 704513152).1+1) 1 0 ws.length),[(704513152,((blk 704513152).1+1,some (.arr 61 1 (ws.map fun w=>[vw w]))))]):=by intro blk;rw[eY];simp only[RV.fx,land,true_or,if_true,jg,iZ,jy,iJ,cY,re,mg,cq,qu]
    cases c4:(ws.length==aA Let.aG ls+aA Let.aC ls/2+2) with
    |false=>
     have c4':(((ws.length:Nat):Int)!=((aA Let.aG ls+aA Let.aC ls/2+2:Nat):Int))=true:=by simp at c4 ⊢;omega
     have hv:jH f ls=false:=by simp only[jH,h0,c1,c2,c3,hnw,c4];rfl
     rw[hv] at hr;have hr:(3:Int)=r:=hr;subst hr;simp only[go_sem,i11,iQ,fU,h3,h4,s19,dR pvi,xf,s8,dR ppa,uy,Let.ps,c1',gR,dw,c2',s20,kn ple,s21,fp pw (ft _),s9,gT pcr,a1,a2,c4'];exact ay
    |true=>
     have c4':(((ws.length:Nat):Int)!=((aA Let.aG ls+aA Let.aC ls/2+2:Nat):Int))=false:=by simp at c4 ⊢;omega
     have hv:jH f ls=true:=by simp only[jH,h0,c1,c2,c3,hnw,c4];rfl
     rw[hv] at hr;have hr:(0:Int)=r:=hr;subst hr;simp only[go_sem,i11,iQ,fU,h3,h4,s19,dR pvi,xf,s8,dR ppa,uy,Let.ps,c1',gR,dw,c2',s20,kn ple,s21,fp pw (ft _),s9,gT pcr,a1,a2,c4'];exact ay
def cV(f:Int)(l:Let):Bool:=if l.kind==1 then (((decide (l.gate<0)||decide (f<l.gate))||l.id !=0)||l.sign !=0)||l.over else if l.kind==2 then (l.gate !=0||l.aO !=0)||(l.sign !=1&&l.sign != -1) else true
theorem XX(f:Int)(l:Let)(x1 x2 x3 x4 x5 x6:PV):aE S 123 [Nc l,.one (.p (.box [.box [.int .i64 f,x1,x2,x3,x4,x5,x6]]))] (rb (cV f l)):=by
 refine bd c123 ?_;cases k1:(l.kind==1) with
 |true=>
  cases a1:(decide (l.gate<0)) with
  |true=>
   have tV:(l.gate<0):=of_decide_eq_true a1;have hb:cV f l=true:=by simp only[cV,k1,a1];rfl
   simp only[go_sem,i123,k1,tV,hb];exact ay
  |false=>
   cases a2:(decide (f<l.gate)) with
   |true=>
    have tV:¬(l.gate<0):=of_decide_eq_false a1;have vS:(f<l.gate):=of_decide_eq_true a2;have hb:cV f l=true:=by simp only[cV,k1,a1,a2];rfl
    simp only[go_sem,i123,k1,tV,vS,hb];exact ay
   |false=>
    cases a3:(l.id !=0) with
    |true=>
     have tV:¬(l.gate<0):=of_decide_eq_false a1;have vS:¬(f<l.gate):=of_decide_eq_false a2;have hb:cV f l=true:=by simp only[cV,k1,a1,a2,a3];rfl
     simp only[go_sem,i123,k1,tV,vS,a3,hb];exact ay
    |false=>
     cases a4:(l.sign !=0) with
     |true=>
      have tV:¬(l.gate<0):=of_decide_eq_false a1;have vS:¬(f<l.gate):=of_decide_eq_false a2;have hb:cV f l=true:=by simp only[cV,k1,a1,a2,a3,a4];rfl
      simp only[go_sem,i123,k1,tV,vS,a3,a4,hb];exact ay
     |false=>
      cases a5:(l.over) with
      |true=>
       have tV:¬(l.gate<0):=of_decide_eq_false a1;have vS:¬(f<l.gate):=of_decide_eq_false a2;have hb:cV f l=true:=by simp only[cV,k1,a1,a2,a3,a4,a5];rfl
       simp only[go_sem,i123,k1,tV,vS,a3,a4,a5,hb];exact ay
      |false=>
       have tV:¬(l.gate<0):=of_decide_eq_false a1;have vS:¬(f<l.gate):=of_decide_eq_false a2;have hb:cV f l=false:=by simp only[cV,k1,a1,a2,a3,a4,a5];rfl
       simp only[go_sem,i123,k1,tV,vS,a3,a4,a5,hb];exact ay
 |false=>
  cases k2:(l.kind==2) with
  |true=>
   cases a1:(l.gate !=0) with
   |true=>
    have hb:cV f l=true:=by simp only[cV,k1,k2,a1];rfl
    simp only[go_sem,i123,k1,k2,a1,hb]
   |false=>
    cases a2:(l.aO !=0) with
    |true=>
     have hb:cV f l=true:=by simp only[cV,k1,k2,a1,a2];rfl
     simp only[go_sem,i123,k1,k2,a1,a2,hb]
    |false=>
     cases a3:(l.sign !=1) with
     |true=>
      cases a4:(l.sign != -1) with
      |true=>
       have hb:cV f l=true:=by simp only[cV,k1,k2,a1,a2,a3,a4];rfl
       simp only[go_sem,i123,k1,k2,a1,a2,a3,a4,hb]
      |false=>
       have hb:cV f l=false:=by simp only[cV,k1,k2,a1,a2,a3,a4];rfl
       simp only[go_sem,i123,k1,k2,a1,a2,a3,a4,hb]
     |false=>
      have hb:cV f l=false:=by simp only[cV,k1,k2,a1,a2,a3];rfl
      simp only[go_sem,i123,k1,k2,a1,a2,a3,hb]
  |false=>
   have hb:cV f l=true:=by simp only[cV,k1,k2];rfl
   simp only[go_sem,i123,k1,k2,hb]
abbrev dfn(f:Int)(x1 x2 x3 x4 x5 x6:PV):PV:=.fn 123 [] [.box [.box [.int .i64 f,x1,x2,x3,x4,x5,x6]]]
theorem XY(f:Int)(ls:List Let)(x1 x2 x3 x4 x5 x6:PV)(hl:ls.length<=1000000)(hn:x1.norm=x1/\x2.norm=x2/\x3.norm=x3/\x4.norm=x4/\x5.norm=x5/\x6.norm=x6):
  ∃k:Int,(0<=k↔ls.any (cV f)=true)/\aE S 145 [.one (.p (mJ ls)),.one (.p (dfn f x1 x2 x3 x4 x5 x6))] (ri k):=by
 have main:∀r:Int,(∀(k:Nat) l,ls[k]?=some l->cV f l=true->(∀(j:Nat) m,j<k->ls[j]?=some m->cV f m=false)->r=k)->((∀(j:Nat) m,ls[j]?=some m->cV f m=false)->r= -1)->
   aE S 145 [.one (.p (mJ ls)),.one (.p (dfn f x1 x2 x3 x4 x5 x6))] (ri r):=by
  intro r de og;refine bd c145 ?_;simp only[go_sem,i145];refine ck (fun k aj blk=>aj 0=.one (.p (mJ ls))/\aj 1=.one (.p (dfn f x1 x2 x3 x4 x5 x6))/\aj 7=vi ls.length/\aj 8=vi k/\ ∀j m,j<k->ls[j]?=some m->cV f m=false) 0 ls.length (bc _) ?_ ?_
  .simp only[go_sem];exact⟨rfl,fun j m h=>absurd h (rC j)⟩
  rintro k aj blk hk ⟨h0,h1,h7,h8,hn⟩
  by_cases au:k<ls.length
  .obtain⟨l,dd⟩:=aL au;have hi:=iU dd;have aF:((k:Int)<(ls.length:Int)):=aa;have w1:=bj (n:=k) aa;have pb:=XX f l x1 x2 x3 x4 x5 x6;cases hb:cV f l with
   |true=>rw[hb] at pb;have hr:=de k l dd hb hn;subst hr;simp only[go_sem,i145_l1,h0,h1,h7,h8,hi,Let.ps,aF,s123,bY pb]
   |false=>
    rw[hb] at pb;simp only[go_sem,i145_l1,h0,h1,h7,h8,hi,Let.ps,aF,w1,s123,bY pb];refine⟨au,fun j m hj hm=>?_⟩;rcases kK.1 hj with hj|rfl
    .exact hn j m hj hm
    rw[dd] at hm;cases hm;exact hb
  have:k=ls.length:=aa;subst this;have hr:=og fun j m hm=>hn j m (bn.1 hm).1 hm;subst hr;simp only[go_sem,i145_l1,i145_r2,h7,h8,dT]
 cases ha:ls.any (cV f) with
 |true=>
  have hx:ls.findIdx (cV f)<ls.length:=List.findIdx_lt_length_of_exists (by simpa using ha);refine⟨(ls.findIdx (cV f):Nat),⟨fun _=>rfl,fun _=>aa⟩,main _ ?_ ?_⟩
  .intro k l dd hb hn;have hk:=(bn.1 dd).1;have h1:cV f ls[ls.findIdx (cV f)]=true:=List.findIdx_getElem;rcases DL (ls.findIdx (cV f)) k with h|h|h
   .have:=hn _ _ h (ry hx);rw[h1] at this;cases this
   .rw[h]
   have:=List.not_of_lt_findIdx h;have e:ls[k]=l:=by rw[ry hk] at dd;exact DN dd
   rw[e,hb] at this;simp at this
  intro hn;have h1:cV f ls[ls.findIdx (cV f)]=true:=List.findIdx_getElem;have:=hn _ _ (ry hx);rw[h1] at this;cases this
 |false=>refine⟨-1,⟨fun h=>aa,fun h=>by cases h⟩,main _ ?_ (fun _=>rfl)⟩;intro k l dd hb _;have:=zD.1 ha l (ba dd);exact(this hb).elim
theorem YM(f:Int)(ls:List Let)(x1 x2 x3 x4 x5 x6:PV)(hl:ls.length<=1000000)(hn:x1.norm=x1/\x2.norm=x2/\x3.norm=x3/\x4.norm=x4/\x5.norm=x5/\x6.norm=x6):
  aE S 122 [.one (.p (mJ ls)),.one (.p (dfn f x1 x2 x3 x4 x5 x6))] (rb (ls.any (cV f))):=by
 obtain⟨k,hk,pk⟩:=XY f ls x1 x2 x3 x4 x5 x6 hl hn;refine bd c122 ?_;cases ha:ls.any (cV f) with
 |true=>have h0:=hk.2 ha;simp only[go_sem,i122,s145,dR pk,h0]
 |false=>
  have h0:¬0<=k:=fun h=>by rw[hk.1 h] at ha;cases ha
  simp only[go_sem,i122,s145,dR pk,h0]
abbrev Em(f:Int)(ls:List Let)(x2 x3 x4 x5 x6:PV):PV:=.box [.int .i64 f,mJ ls,x2,x3,x4,x5,x6]
theorem Y3(f:Int)(ls:List Let)(x2 x3 x4 x5 x6:PV)(hl:ls.length<=1000000)(hn:x2.norm=x2/\x3.norm=x3/\x4.norm=x4/\x5.norm=x5/\x6.norm=x6):
  aE S 96 [.one (.p (Em f ls x2 x3 x4 x5 x6))] (rb (!ls.any (cV f))):=by
 have pc:=YM f ls (mJ ls) x2 x3 x4 x5 x6 hl ⟨rfl,hn.1,hn.2.1,hn.2.2.1,hn.2.2.2.1,hn.2.2.2.2⟩;refine bd c96 ?_;simp only[go_sem,i96,s122,bY pc]
theorem YZ(f:Int)(ls:List Let)(l0:Let)(x2 x3 x4 x5 x6:PV)(hl:ls.length<=1000000)(h0:ls[0]?=some l0):
  aE S 97 [.one (.p (Em f ls x2 x3 x4 x5 x6))] (rb (l0.kind==1&&aA Let.aG ls%2==0)):=by
 have pp:=Ns f ls hl;have uy:=iU h0;refine bd c97 ?_;have e2:((((aA Let.aG ls)%2:Nat):Int)==0)=(aA Let.aG ls%2==0):=by
  cases h:(aA Let.aG ls%2==0) with
  |true=>simp at h ⊢;omega
  |false=>simp at h ⊢;omega
 cases hk:(l0.kind==1) with
 |true=>simp only[go_sem,i97,uy,Let.ps,hk,s33,dR pp,gR,dw,e2]
 |false=>simp only[go_sem,i97,uy,Let.ps,hk]
def sU(g:Nat)(l:Let):Bool:=l.aG&&l.gate==(g:Int)
abbrev cg(ls:List Let)(g:Nat):Nat:=aA (sU g) ls
def mX(ls:List Let)(F k:Nat):List Nat:=(List.range (F+1)).map fun g=>cg (ls.take k) g
def counts(ls:List Let)(F:Nat):List Nat:=(List.range (F+1)).map (cg ls)
theorem PN{ls:List Let}{k G:Nat}(h:G<=F):(mX ls F k)[G]?=some (cg (ls.take k) G):=by simp[mX,rz (show G<F+1 by omega)]
theorem JZ(ls:List Let)(F:Nat):mX ls F ls.length=counts ls F:=by simp[mX,counts]
theorem Ka(ls:List Let)(F:Nat):mX ls F 0=List.replicate (F+1) 0:=by apply sH<;>simp[mX]
theorem PQ{ls:List Let}{k:Nat}{l:Let}(h:ls[k]?=some l)(hp:l.aG=false):mX ls F (k+1)=mX ls F k:=by unfold mX;congr 1;funext g;exact ie h (by simp[sU,hp])
theorem PO{ls:List Let}{k G:Nat}{l:Let}(h:ls[k]?=some l)(hp:l.aG=true)(hg:l.gate=(G:Int)):
  mX ls F (k+1)=(mX ls F k).set G (cg (ls.take k) G+1):=by
 apply sH
 .simp[mX]
 intro i h1 h2;rw[DH];simp only[mX,xN,DG];split
 .rename_i e;subst e;exact nQ h (by simp[sU,hp,hg])
 exact ie h (by simp[sU,hg];intro _ e;omega)
theorem CP(o:List Nat)(k n:Nat):(nP o).set k [.int .i64 (n:Int)]=nP (o.set k n):=by simp[List.map_set]
theorem Ng(o:List Nat):(nP o).length=o.length:=af
theorem Nh(n m:Nat):nP (List.replicate n m)=List.replicate n [.int .i64 (m:Int)]:=af
theorem Pg(n:Nat)(b:Bool):bP (List.replicate n b)=List.replicate n [.bool b]:=af
theorem En{ls:List Let}{k:Nat}{l:Let}(h:ls[k]?=some l)(hp:l.aG=true):dn ls (k+1)= !dn ls k:=by
 unfold dn;rw[nQ h hp];cases hc:(aA Let.aG (ls.take k)%2==0) with
 |true=>simp at hc ⊢;omega
 |false=>simp at hc ⊢;omega
theorem Eo{ls:List Let}{k:Nat}{l:Let}(h:ls[k]?=some l)(hp:l.aG=false):dn ls (k+1)=dn ls k:=by unfold dn;rw[ie h hp]
def ko(ls:List Let)(i:Nat):Bool:=match ls[i]? with|some l=>l.aG&&dn ls i|none=>false
def oK(ls:List Let)(k:Nat):List Bool:=(List.range ls.length).map fun i=>decide (i<k)&&ko ls i
def ll(ls:List Let):List Bool:=(List.range ls.length).map (ko ls)
theorem Zb(ls:List Let):oK ls 0=List.replicate ls.length false:=by apply sH<;>simp[oK]
theorem Y7(ls:List Let):oK ls ls.length=ll ls:=by unfold oK ll;apply GX;intro i hi;simp[iN.1 hi]
theorem Y9(ls:List Let)(k:Nat):(oK ls k).length=ls.length:=by simp[oK]
theorem Za{ls:List Let}{k:Nat}{l:Let}(h:ls[k]?=some l)(hp:l.aG=false):oK ls (k+1)=oK ls k:=by
 unfold oK;apply GX;intro i hi;by_cases e:i=k
 .subst e;simp[ko,h,hp]
 have:(i<k+1)↔(i<k):=aa;simp[this]
theorem Y8{ls:List Let}{k:Nat}{l:Let}(h:ls[k]?=some l)(hp:l.aG=true):oK ls (k+1)=(oK ls k).set k (dn ls k):=by
 apply sH
 .simp[oK]
 intro i h1 h2;rw[DH];simp only[oK,xN,DG];split
 .rename_i e;subst e;simp[ko,h,hp]
 have:(i<k+1)↔(i<k):=aa;simp[this]
def eE(ls:List Let)(g:Nat):Nat:=((List.range g).map (cg ls)).sum
theorem pY(ls:List Let)(g:Nat):eE ls (g+1)=eE ls g+cg ls g:=by simp[eE,sL]
def rO(ls:List Let)(F k:Nat):List Nat:=(List.range (F+1)).map fun g=>if g<k then eE ls g else 0
def B6(ls:List Let)(F:Nat):List Nat:=(List.range (F+1)).map (eE ls)
theorem Z2(ls:List Let)(F:Nat):rO ls F 0=List.replicate (F+1) 0:=by apply sH<;>simp[rO]
theorem ZZ(ls:List Let)(F:Nat):rO ls F (F+1)=B6 ls F:=by unfold rO B6;apply GX;intro i hi;simp[iN.1 hi]
theorem Z0(ls:List Let)(F k:Nat):(rO ls F k).length=F+1:=by simp[rO]
theorem Z1(ls:List Let)(F k:Nat):rO ls F (k+1)=(rO ls F k).set k (eE ls k):=by
 apply sH
 .simp[rO]
 intro i h1 h2;rw[DH];simp only[rO,xN,DG];by_cases e:k=i
 .subst e;simp
 have:(i<k+1)↔(i<k):=aa;simp only[this,if_neg e]
theorem zZ{ls:List Let}{G:Nat}(h:G<=F):(counts ls F)[G]?=some (cg ls G):=by simp[counts,rz (show G<F+1 by omega)]
theorem Z3{ls:List Let}{G:Nat}(h:G<=F):(B6 ls F)[G]?=some (eE ls G):=by simp[B6,rz (show G<F+1 by omega)]
theorem wJ{ls:List Let}{a b:Nat}(h:a<=b):eE ls a<=eE ls b:=by
 induction h with
 |refl=>exact bo _
 |step _ ih=>rw[pY];omega
theorem XF(g:Nat)(a:Let):((a.aG&&(decide (0<=a.gate)&&decide (a.gate<((g+1:Nat):Int))))=true)↔((a.aG&&(decide (0<=a.gate)&&decide (a.gate<(g:Int))))=true\/sU g a=true):=by
 simp only[sU,cA,decide_eq_true_eq,beq_iff_eq];constructor
 .rintro ⟨h1,h2,h3⟩
  by_cases h:a.gate=(g:Int)
  .exact Or.inr ⟨h1,h⟩
  exact Or.inl ⟨h1,h2,aa⟩
 rintro (⟨h1,h2,h3⟩|⟨h1,h2⟩)
 .exact⟨h1,h2,aa⟩
 exact⟨h1,aa,aa⟩
theorem XE(g:Nat)(a:Let):(a.aG&&(decide (0<=a.gate)&&decide (a.gate<(g:Int))))=true->sU g a=true->False:=by simp only[sU,cA,decide_eq_true_eq,beq_iff_eq];omega
theorem JY{p q r:Let->Bool}(h:∀a,r a=true↔(p a=true\/q a=true))(hn:∀a,p a=true->q a=true->False):∀ls:List Let,ls.countP r=ls.countP p+ls.countP q:=by
 intro ls
 induction ls with
 |nil=>rfl
 |cons a ls ih=>rw[GV,GV,GV,ih];have h1:=h a;have h2:=hn a;cases ep:p a<;>cases eq:q a<;>cases er:r a<;>simp_all<;>omega
theorem Sd(ls:List Let):∀g,eE ls g=aA (fun l=>l.aG&&(decide (0<=l.gate)&&decide (l.gate<((g:Nat):Int)))) ls:=by
 intro g
 induction g with
 |zero=>symm;show ls.countP _=0;rw[GW];intro a _;simp only[cA,decide_eq_true_eq];omega
 |succ g ih=>rw[pY,ih];exact(JY (XF g) (XE g) ls).symm
theorem L8(ls:List Let)(g:Nat):eE ls g<=ls.length:=by rw[Sd];exact oH _ _
def cU(ls:List Let)(l:Let):Nat:=eE ls l.gate.toNat+l.aO.toNat-1
def nZ(ls:List Let)(p i:Nat):Bool:=match ls[i]? with|some l=>l.aG&&cU ls l==p|none=>false
def sD(ls:List Let)(T k:Nat):List Bool:=(List.range T).map fun p=>(List.range k).any (nZ ls p)
def DV(ls:List Let)(k p:Nat):Nat:=((List.range k).find? (nZ ls p)).getD 0
def nL(ls:List Let)(T k:Nat):List Nat:=(List.range T).map (DV ls k)
def vA(ls:List Let)(i:Nat):Nat:=match ls[i]? with|some l=>if l.aG then cU ls l else 0|none=>0
def ib(ls:List Let)(k:Nat):List Nat:=(List.range ls.length).map fun i=>if i<k then vA ls i else 0
def oz(ls:List Let)(i:Nat):Bool:=match ls[i]? with
 |some l=> !l.aG||(decide (1<=l.aO)&&decide (l.aO<=(cg ls l.gate.toNat:Int)))&& !(List.range i).any (nZ ls (cU ls l))
 |none=>true
def tL(ls:List Let):Bool:=(List.range ls.length).all (oz ls)
theorem agx(ls:List Let)(T:Nat):sD ls T 0=List.replicate T false:=by apply sH<;>simp[sD]
theorem XI(ls:List Let)(T:Nat):nL ls T 0=List.replicate T 0:=by apply sH<;>simp[nL,DV]
theorem adE(ls:List Let):ib ls 0=List.replicate ls.length 0:=by apply sH<;>simp[ib]
theorem O9(ls:List Let)(T k:Nat):(nL ls T k).length=T:=by simp[nL]
theorem adC(ls:List Let)(k:Nat):(ib ls k).length=ls.length:=by simp[ib]
theorem agu{ls:List Let}{T k p:Nat}(h:p<T):(sD ls T k)[p]?=some ((List.range k).any (nZ ls p)):=by simp[sD,h]
theorem SU{ls:List Let}{k p:Nat}{l:Let}(h:ls[k]?=some l)(hp:l.aG=false):nZ ls p k=false:=by simp[nZ,h,hp]
theorem agw{ls:List Let}{T k:Nat}{l:Let}(h:ls[k]?=some l)(hp:l.aG=false):sD ls T (k+1)=sD ls T k:=by unfold sD;congr 1;funext p;simp[sL,List.any_append,SU h hp]
theorem XH{ls:List Let}{T k:Nat}{l:Let}(h:ls[k]?=some l)(hp:l.aG=false):nL ls T (k+1)=nL ls T k:=by unfold nL;congr 1;funext p;simp[DV,sL,List.find?_append,SU h hp]
theorem adD{ls:List Let}{k:Nat}{l:Let}(h:ls[k]?=some l)(hp:l.aG=false):ib ls (k+1)=ib ls k:=by
 unfold ib;apply GX;intro i hi;by_cases e:i=k
 .subst e;simp[vA,h,hp]
 have:(i<k+1)↔(i<k):=aa;simp[this]
theorem Fz{ls:List Let}{k p:Nat}{l:Let}(h:ls[k]?=some l)(hp:l.aG=true):nZ ls p k=(cU ls l==p):=by simp[nZ,h,hp]
theorem agv{ls:List Let}{T k:Nat}{l:Let}(h:ls[k]?=some l)(hp:l.aG=true):sD ls T (k+1)=(sD ls T k).set (cU ls l) true:=by
 apply sH
 .simp[sD]
 intro i h1 h2;rw[DH];simp only[sD,xN,DG,sL,List.any_append,List.any_cons,List.any_nil,Bool.or_false,Fz h hp];split
 .rename_i e;simp[e]
 rename_i e;simp[e]
theorem XG{ls:List Let}{T k:Nat}{l:Let}(h:ls[k]?=some l)(hp:l.aG=true)(hn:(List.range k).any (nZ ls (cU ls l))=false):nL ls T (k+1)=(nL ls T k).set (cU ls l) k:=by
 apply sH
 .simp[nL]
 intro i h1 h2;rw[DH];simp only[nL,xN,DG,DV,sL,List.find?_append];by_cases e:cU ls l=i
 .have h3:(List.range k).find? (nZ ls i)=none:=by
   rw[<- e,DE];intro x hx hq;rw[zD] at hn;exact hn x hx hq
  have h4:nZ ls i k=true:=by rw[Fz h hp];simp[e]
  rw[h3,if_pos e,List.find?_cons,h4];rfl
 have h4:nZ ls i k=false:=by rw[Fz h hp];simp[e]
 rw[if_neg e,List.find?_cons,h4];simp
theorem adB{ls:List Let}{k:Nat}{l:Let}(h:ls[k]?=some l)(hp:l.aG=true):ib ls (k+1)=(ib ls k).set k (cU ls l):=by
 apply sH
 .simp[ib]
 intro i h1 h2;rw[DH];simp only[ib,xN,DG];by_cases e:k=i
 .subst e;simp[vA,h,hp]
 have:(i<k+1)↔(i<k):=aa;simp only[this,if_neg e]
theorem NP{ls:List Let}{k:Nat}(hk:k<ls.length)(h:oz ls k=false):tL ls=false:=by unfold tL;rw[List.all_eq_false];exact⟨k,iN.2 hk,by simp[h]⟩
theorem aev{ls:List Let}(h:∀i,i<ls.length->oz ls i=true):tL ls=true:=by unfold tL;rw[im];exact fun i hi=>h i (iN.1 hi)
abbrev BC(id:Nat):Prop:=id=2752320128\/kI id=98
abbrev qA(F:Nat)(ls:List Let)(c2 c3 c4 c5 c6:C):List C:=[.p (.int .i64 (F:Int)),.p (mJ ls),c2,c3,c4,c5,c6]
abbrev hs(id g n:Nat):C:=.hsl id g 1 0 n
abbrev mw(F:Nat)(ls:List Let):Prop:=∀l∈ls,l.aG=true->0<=l.gate/\l.gate<=(F:Int)
def Dj(F:Nat)(ls:List Let)(g:Nat)(c5:C)(jv:aw)(v:V)(ak:aw):Prop:=
 v=vb (tL ls)/\Kept BC jv ak/\(tL ls=true->∃g1 g2 g3 g5,ak 2752320128=(g,some (.var (qA F ls (hs 6272128448 g2 ls.length) (hs 6273344128 g5 (eE ls (F+1))) (hs 6272192448 g3 ls.length) c5 (hs 6272064448 g1 (F+1)))))/\
  ak 6272064448=(g1,some (.arr 3 1 (nP (counts ls F))))/\ak 6272128448=(g2,some (.arr 4 1 (bP (ll ls))))/\ak 6272192448=(g3,some (.arr 3 1 (nP (ib ls ls.length))))/\
  ak 6273344128=(g5,some (.arr 3 1 (nP (nL ls (eE ls (F+1)) ls.length)))))
theorem rk3{al:Al}(fY:al.ok 2752320128=true)(ok:∀id,kI id=98->al.ok id=true){jv blk:aw}{aj:Env}{g g1 g2 g3 g4 F:Nat}{ls:List Let}{c3 c5:C}(hl:ls.length<=1000000)(hF:F<=1000000)(hg:mw F ls)
  (h0:aj 0=.one (.aZ 2752320128 g 0)) (h6:aj 6=.one (hs 6272832384 g4 (F+1))) (h7:aj 7=vi (eE ls (F+1)))
  (bD:blk 2752320128=(g,some (.var (qA F ls (hs 6272128448 g2 ls.length) c3 (hs 6272192448 g3 ls.length) c5 (hs 6272064448 g1 (F+1))))))
  (bC:blk 6272064448=(g1,some (.arr 3 1 (nP (counts ls F))))) (bW:blk 6272128448=(g2,some (.arr 4 1 (bP (ll ls))))) (lj:blk 6272192448=(g3,some (.arr 3 1 (nP (ib ls 0)))))
  (bF:blk 6272832384=(g4,some (.arr 3 1 (nP (B6 ls F))))) (hk:Kept BC jv blk):W S al i98_r5 (oL al [(2,none)] (Dj F ls g c5 jv)) aj blk:=by
 have o1:=ok 6272064448 rfl;have o2:=ok 6272128448 rfl;have o3:=ok 6272192448 rfl;have o4:=ok 6272448192 rfl;have o5:=ok 6272832384 rfl;have o6:=ok 6273344128 rfl;have o7:=ok 6273408064 rfl;have o8:=ok 6273600192 rfl;have hT:=L8 ls (F+1);have F0:eE ls (F+1)*8<=140737488355328:=aa;have de:eE ls (F+1)<=140737488355328:=aa;simp only[go_sem,i98_r5,h0,h7,bD,F0,de,fY,o6,o7];refine ck (fun k aj ak=>aj 0=.one (.aZ 2752320128 g 0)/\aj 6=.one (hs 6272832384 g4 (F+1))/\aj 10=.one (hs 6273408064 ((blk 6273408064).1+1) (eE ls (F+1)))/\aj 114=.one (.p (mJ ls))/\aj 115=vi ls.length/\aj 116=vi k/\
  ak 2752320128=(g,some (.var (qA F ls (hs 6272128448 g2 ls.length) (hs 6273344128 ((blk 6273344128).1+1) (eE ls (F+1))) (hs 6272192448 g3 ls.length) c5 (hs 6272064448 g1 (F+1)))))/\
  ak 6272064448=(g1,some (.arr 3 1 (nP (counts ls F))))/\ak 6272128448=(g2,some (.arr 4 1 (bP (ll ls))))/\ak 6272192448=(g3,some (.arr 3 1 (nP (ib ls k))))/\
  ak 6272832384=(g4,some (.arr 3 1 (nP (B6 ls F))))/\ak 6273344128=((blk 6273344128).1+1,some (.arr 3 1 (nP (nL ls (eE ls (F+1)) k))))/\ak 6273408064=((blk 6273408064).1+1,some (.arr 4 1 (bP (sD ls (eE ls (F+1)) k))))/\
  (∀i,i<k->oz ls i=true)/\Kept BC jv ak) 0 ls.length (bc _) ?_ ?_
 .simp only[go_sem,h0,h6,bC,bW,lj,bF,XI,agx,Nh,Pg];refine⟨rfl,rfl,fun i h=>absurd h (rC i),?_⟩;repeat(first|exact hk|refine Kept.ca ?_ (by first|exact Or.inl rfl|exact Or.inr rfl) _)
 rintro k aj ak hk ⟨h0,h6,dK,EZ,Ch,yt,bD,bC,bW,lj,bF,bA,bT,aq,bJ⟩
 by_cases au:k<ls.length
 .obtain⟨l,dd⟩:=aL au;have hi:=iU dd;have aF:((k:Int)<(ls.length:Int)):=aa;have w1:=bj (n:=k) aa;cases hp:(l.kind==1) with
  |false=>
   have iz:l.aG=false:=hp;have kS:(l.kind !=1)=true:=by simp[bne,hp]
   have l9:oz ls k=true:=by simp[oz,dd,iz]
   simp only[go_sem,i98_l3,h0,h6,dK,EZ,Ch,yt,bD,bC,bW,bF,lj,bA,bT,hi,Let.ps,aF,kS,w1,o8];refine⟨au,?_,?_,?_,?_,?_⟩
   .rw[adD dd iz]
   .rw[XH dd iz]
   .rw[agw dd iz]
   .intro i hi;rcases kK.1 hi with h|rfl
    .exact aq i h
    exact l9
   repeat(first|exact bJ|refine Kept.ca ?_ (by first|exact Or.inl rfl|exact Or.inr rfl) _)
  |true=>
   have iz:l.aG=true:=hp;have kS:(l.kind !=1)=false:=by simp[bne,hp]
   obtain⟨Am,Co⟩:=hg l (ba dd) iz;obtain⟨G,hG⟩:=nG Am;have wO:G<=F:=aa;have wP:G<F+1:=aa;have l6:=fv (zZ (ls:=ls) wO);have tv:=fv (Z3 (ls:=ls) wO);have hgt:l.gate.toNat=G:=aa;cases r1:decide (l.aO<1) with
   |true=>have qZ:l.aO<1:=of_decide_eq_true r1;have r1n:¬1<=l.aO:=aa;have dB:=NP au (show oz ls k=false by simp[oz,dd,iz,r1n]);simp only[go_sem,i98_l3,EZ,Ch,yt,hi,Let.ps,aF,kS,qZ,o8];refine⟨ay,?_⟩;unfold Dj;refine⟨by rw[dB],?_,fun h=>by rw[dB] at h;cases h⟩;repeat(first|exact bJ|refine Kept.ca ?_ (by first|exact Or.inl rfl|exact Or.inr rfl) _)
   |false=>
    have qZ:¬l.aO<1:=of_decide_eq_false r1;obtain⟨R,hR⟩:=nG (show 0<=l.aO by omega);have r1R:¬((R:Int)<1):=aa;cases r2:decide ((cg ls G:Int)<(R:Int)) with
    |true=>
     have qp:(cg ls G:Int)<(R:Int):=of_decide_eq_true r2;have r2n:¬l.aO<=(cg ls l.gate.toNat:Int):=by rw[hgt];omega
     have dB:=NP au (show oz ls k=false by simp[oz,dd,iz,r2n]);simp only[go_sem,i98_l3,h0,EZ,Ch,yt,bD,bC,hi,Let.ps,aF,kS,hR,hG,r1R,qp,l6,wP,fY,o1,o8];refine⟨ay,?_⟩;unfold Dj;refine⟨by rw[dB],?_,fun h=>by rw[dB] at h;cases h⟩;repeat(first|exact bJ|refine Kept.ca ?_ (by first|exact Or.inl rfl|exact Or.inr rfl) _)
    |false=>
     have qp:¬(cg ls G:Int)<(R:Int):=of_decide_eq_false r2;have hfle:=L8 ls G;have hmono:=wJ (ls:=ls) (show G+1<=F+1 by omega);have r4:=pY ls G;have hPT:cU ls l<eE ls (F+1):=by unfold cU;rw[hgt];omega
     have bq:eE ls G+R-1=cU ls l:=by unfold cU;rw[hgt];omega
     have ef:cg ls G<=ls.length:=oH _ _;have w2:=wrap_add (a:=eE ls G) (b:=R) aa;have w3:=Bl (a:=eE ls G+R) aa aa;rw[bq] at w3;have AT:=oF (agu (ls:=ls) (k:=k) hPT);cases hu:(List.range k).any (nZ ls (cU ls l)) with
     |true=>rw[hu] at AT;have dB:=NP au (show oz ls k=false by simp[oz,dd,iz,hu]);simp only[go_sem,i98_l3,h0,h6,dK,EZ,Ch,yt,bD,bC,bF,bT,hi,Let.ps,aF,kS,hR,hG,r1R,qp,l6,tv,wP,w2,w3,AT,hPT,fY,o1,o5,o7,o8];refine⟨ay,ay,?_⟩;unfold Dj;refine⟨by rw[dB],?_,fun h=>by rw[dB] at h;cases h⟩;repeat(first|exact bJ|refine Kept.ca ?_ (by first|exact Or.inl rfl|exact Or.inr rfl) _)
     |false=>
      rw[hu] at AT;have l9:oz ls k=true:=by
       have e1:1<=l.aO:=aa;have e2:l.aO<=(cg ls l.gate.toNat:Int):=by rw[hgt];omega
       simp[oz,dd,e1,e2,hu]
      obtain⟨a0,rW⟩:=aL (show cU ls l<(nL ls (eE ls (F+1)) k).length by rw[O9];exact hPT);obtain⟨p0,r9⟩:=aL (show k<(ib ls k).length by rw[adC];exact au);have rW:=fv rW;have r9:=fv r9;have s1:=BQ (sD ls (eE ls (F+1)) k) (cU ls l) true;rw[<- agv dd iz] at s1;have s2:=CP (nL ls (eE ls (F+1)) k) (cU ls l) k;rw[<- XG dd iz hu] at s2;have s3:=CP (ib ls k) k (cU ls l);rw[<- adB dd iz] at s3;simp only[go_sem,i98_l3,h0,h6,dK,EZ,Ch,yt,bD,bC,bW,bF,lj,bA,bT,hi,Let.ps,aF,au,kS,w1,hR,hG,r1R,qp,l6,tv,wP,w2,w3,AT,hPT,rW,r9,s1,s2,s3,fY,o1,o3,o5,o6,o7,o8];refine⟨ay,ay,ay,?_,?_⟩
      .intro i hi;rcases kK.1 hi with h|rfl
       .exact aq i h
       exact l9
      repeat(first|exact bJ|refine Kept.ca ?_ (by first|exact Or.inl rfl|exact Or.inr rfl) _)
 have:k=ls.length:=aa;subst this;have hr:=aev aq;simp only[go_sem,i98_l3,i98_r4,Ch,yt,dT];exact⟨by rw[hr],bJ,fun _=>⟨g1,g2,g3,(blk 6273344128).1+1,bD,bC,bW,lj,bA⟩⟩
theorem rk2{al:Al}(fY:al.ok 2752320128=true)(ok:∀id,kI id=98->al.ok id=true){jv blk:aw}{aj:Env}{g g1 g2 g3 F:Nat}{ls:List Let}{c3 c5:C}(hl:ls.length<=1000000)(hF:F<=1000000)(hg:mw F ls)
  (h0:aj 0=.one (.aZ 2752320128 g 0))
  (bD:blk 2752320128=(g,some (.var (qA F ls (hs 6272128448 g2 ls.length) c3 (hs 6272192448 g3 ls.length) c5 (hs 6272064448 g1 (F+1))))))
  (bC:blk 6272064448=(g1,some (.arr 3 1 (nP (counts ls F))))) (bW:blk 6272128448=(g2,some (.arr 4 1 (bP (ll ls))))) (lj:blk 6272192448=(g3,some (.arr 3 1 (nP (ib ls 0)))))
  (hk:Kept BC jv blk):W S al i98_r6 (oL al [(2,none)] (Dj F ls g c5 jv)) aj blk:=by
 have o1:=ok 6272064448 rfl;have o2:=ok 6272128448 rfl;have o3:=ok 6272192448 rfl;have o4:=ok 6272448192 rfl;have o5:=ok 6272832384 rfl;have o6:=ok 6273344128 rfl;have o7:=ok 6273408064 rfl;have o8:=ok 6273600192 rfl;have F0:(F+1)*8<=140737488355328:=aa;have wF:=bj (n:=F) aa;simp only[go_sem,i98_r6,h0,bD,wF,F0,fY,o5];refine ck (fun k aj ak=>aj 0=.one (.aZ 2752320128 g 0)/\aj 6=.one (hs 6272832384 ((blk 6272832384).1+1) (F+1))/\aj 7=vi (eE ls k)/\aj 88=.one (hs 6272064448 g1 (F+1))/\aj 89=vi ((F+1:Nat):Int)/\aj 90=vi k/\
  ak 2752320128=(g,some (.var (qA F ls (hs 6272128448 g2 ls.length) c3 (hs 6272192448 g3 ls.length) c5 (hs 6272064448 g1 (F+1)))))/\
  ak 6272064448=(g1,some (.arr 3 1 (nP (counts ls F))))/\ak 6272128448=(g2,some (.arr 4 1 (bP (ll ls))))/\ak 6272192448=(g3,some (.arr 3 1 (nP (ib ls 0))))/\
  ak 6272832384=((blk 6272832384).1+1,some (.arr 3 1 (nP (rO ls F k))))/\Kept BC jv ak) 0 (F+1) (bc _) ?_ ?_
 .simp only[go_sem,h0,bD,bC,bW,lj,Z2,Nh];refine⟨rfl,rfl,rfl,?_⟩;repeat(first|exact hk|refine Kept.ca ?_ (by first|exact Or.inl rfl|exact Or.inr rfl) _)
 rintro k aj ak hk ⟨h0,h6,h7,h88,h89,h90,bD,bC,bW,lj,bF,bJ⟩
 by_cases au:k<F+1
 .have aF:((k:Int)<((F+1:Nat):Int)):=aa;have w1:=bj (n:=k) aa;have hc:=fv (zZ (ls:=ls) (show k<=F by omega));obtain⟨a0,ha⟩:=aL (show k<(rO ls F k).length by rw[Z0];exact au);have ha:=fv ha;have s1:=CP (rO ls F k) k (eE ls k);rw[<- Z1] at s1;have hs:=pY ls k;have hle:=L8 ls (k+1);have w2:=wrap_add (a:=eE ls k) (b:=cg ls k) aa;rw[<- hs] at w2;simp only[go_sem,i98_l2,h0,h6,h7,h88,h89,h90,bD,bC,bW,lj,bF,au,aF,hc,ha,s1,w1,w2,o1,o5];repeat(first|exact bJ|refine Kept.ca ?_ (by first|exact Or.inl rfl|exact Or.inr rfl) _)
 have:k=F+1:=aa;subst this;simp only[go_sem,i98_l2,h89,h90,dT];exact rk3 fY ok hl hF hg h0 h6 h7 bD bC bW lj (by rw[bF,ZZ]) bJ
theorem aeu{al:Al}(fY:al.ok 2752320128=true)(ok:∀id,kI id=98->al.ok id=true){blk:aw}{g F:Nat}{ls:List Let}{c2 c3 c4 c5 c6:C}(hl:ls.length<=1000000)(hF:F<=1000000)(hg:mw F ls)
  (bD:blk 2752320128=(g,some (.var (qA F ls c2 c3 c4 c5 c6)))):∃v ak,fT S 98 [.one (.aZ 2752320128 g 0)] al blk v ak/\Dj F ls g c5 blk v ak:=by
 have o1:=ok 6272064448 rfl;have o2:=ok 6272128448 rfl;have o3:=ok 6272192448 rfl;have o4:=ok 6272448192 rfl;have o5:=ok 6272832384 rfl;have o6:=ok 6273344128 rfl;have o7:=ok 6273408064 rfl;have o8:=ok 6273600192 rfl;refine lf c98 (fy rfl) ?_;have F0:(F+1)*8<=140737488355328:=aa;have hn8:ls.length*8<=140737488355328:=aa;have fV:ls.length<=140737488355328:=aa;have wF:=bj (n:=F) aa;simp only[go_sem,i98,bD,wF,F0,hn8,fV,fY,o1,o2,o3];refine ck (fun k aj ak=>aj 0=.one (.aZ 2752320128 g 0)/\aj 3=vb (dn ls k)/\aj 48=.one (.p (mJ ls))/\aj 49=vi ls.length/\aj 50=vi k/\
  ak 2752320128=(g,some (.var (qA F ls (hs 6272128448 ((blk 6272128448).1+1) ls.length) c3 (hs 6272192448 ((blk 6272192448).1+1) ls.length) c5 (hs 6272064448 ((blk 6272064448).1+1) (F+1)))))/\
  ak 6272064448=((blk 6272064448).1+1,some (.arr 3 1 (nP (mX ls F k))))/\ak 6272128448=((blk 6272128448).1+1,some (.arr 4 1 (bP (oK ls k))))/\ak 6272192448=((blk 6272192448).1+1,some (.arr 3 1 (nP (ib ls 0))))/\
  Kept BC blk ak) 0 ls.length (bc _) ?_ ?_
 .simp only[go_sem,bD,Ka,Zb,adE,Nh,Pg];refine⟨rfl,rfl,rfl,rfl,?_⟩;repeat(first|exact(Kept.refl _ _)|refine Kept.ca ?_ (by first|exact Or.inl rfl|exact Or.inr rfl) _)
 rintro k aj ak hk ⟨h0,h3,Fb,h49,h50,bD,bC,bW,lj,bJ⟩
 by_cases au:k<ls.length
 .obtain⟨l,dd⟩:=aL au;have hi:=iU dd;have aF:((k:Int)<(ls.length:Int)):=aa;have w1:=bj (n:=k) aa;cases hp:(l.kind==1) with
  |false=>
   have iz:l.aG=false:=hp;simp only[go_sem,i98_l1,h0,h3,Fb,h49,h50,bD,bC,bW,lj,hi,Let.ps,aF,hp,w1,o4];refine⟨au,?_,?_,?_,?_⟩
   .rw[Eo dd iz]
   .rw[PQ dd iz]
   .rw[Za dd iz]
   repeat(first|exact bJ|refine Kept.ca ?_ (by first|exact Or.inl rfl|exact Or.inr rfl) _)
  |true=>have iz:l.aG=true:=hp;obtain⟨Am,Co⟩:=hg l (ba dd) iz;obtain⟨G,hG⟩:=nG Am;have wO:G<=F:=aa;have wP:G<F+1:=aa;have l6:=fv (PN (ls:=ls) (k:=k) wO);have ef:cg (ls.take k) G<=k:=ub _ _ _;have w2:=bj (n:=cg (ls.take k) G) aa;have s1:=CP (mX ls F k) G (cg (ls.take k) G+1);rw[<- PO dd iz hG] at s1;obtain⟨b0,hb⟩:=aL (show k<(oK ls k).length by rw[Y9];exact au);have hb:=oF hb;have s2:=BQ (oK ls k) k (dn ls k);rw[<- Y8 dd iz] at s2;have hd:=En dd iz;simp only[go_sem,i98_l1,h0,h3,Fb,h49,h50,bD,bC,bW,lj,hi,Let.ps,aF,au,hp,w1,hG,l6,wP,w2,s1,hb,s2,hd,fY,o1,o2,o4];refine⟨ay,?_⟩;repeat(first|exact bJ|refine Kept.ca ?_ (by first|exact Or.inl rfl|exact Or.inr rfl) _)
 have:k=ls.length:=aa;subst this;simp only[go_sem,i98_l1,h49,h50,dT];exact rk2 fY ok hl hF hg h0 bD (by rw[bC,JZ]) (by rw[bW,Y7]) lj bJ
def mz(ls:List Let)(id:Int)(o:Bool)(j:Nat):Bool:=match ls[j]? with|some m=>m.aC&&(m.id==id&&m.over==o)|none=>false
def eU(ls:List Let)(k:Nat)(id:Int)(o:Bool):Option Nat:=(List.range k).find? (mz ls id o)
def vK:Option Nat->Int
 |some j=>j
 |none=> -1
def dO(ls:List Let):Nat->List Int
 |0=>[]
 |k+1=>match ls[k]? with
  |some l=>if l.aC&& !(dO ls k).contains l.id then dO ls k++[l.id] else dO ls k
  |none=>dO ls k
def mv(ls:List Let)(k:Nat)(id:Int):List PV:=[.int .i64 (vK (eU ls k id false)),.int .i64 (vK (eU ls k id true))]
def lI(ls:List Let)(k:Nat):List (PV×List PV):=(dO ls k).map fun id=>(PV.int .i64 id,mv ls k id)
def xG(ls:List Let)(j:Nat):Int:=((ls[j]?).map Let.sign).getD 0
def jI(ls:List Let)(n2:Nat)(k:Nat):Bool:=match ls[k]? with
 |some l=> !l.aC||((decide (1<=l.id)&&decide (l.id<=(n2:Int)))&&((eU ls k l.id l.over).isNone&&(match eU ls k l.id (!l.over) with|some j=>xG ls j==l.sign|none=>true)))
 |none=>true
def km(ls:List Let):Bool:=(aA Let.aC ls%2==0)&&(List.range ls.length).all (jI ls (aA Let.aC ls/2))&&((dO ls ls.length).length==aA Let.aC ls/2)
theorem FG{ls:List Let}{k:Nat}{l:Let}(h:ls[k]?=some l)(hc:l.aC=true)(id:Int)(o:Bool):mz ls id o k=(l.id==id&&l.over==o):=by simp[mz,h,hc]
theorem SZ{ls:List Let}{k:Nat}{l:Let}(h:ls[k]?=some l)(hc:l.aC=false)(id:Int)(o:Bool):mz ls id o k=false:=by simp[mz,h,hc]
theorem Jf(ls:List Let)(k:Nat)(id:Int)(o:Bool):eU ls (k+1) id o=(eU ls k id o).or (if mz ls id o k then some k else none):=by simp only[eU,sL,List.find?_append,List.find?_cons,List.find?_nil];cases mz ls id o k<;>rfl
theorem Bg{ls:List Let}{k:Nat}{id:Int}{o:Bool}{j:Nat}(h:eU ls k id o=some j):j<k/\mz ls id o j=true:=
 ⟨iN.1 (Jn h),List.find?_some h⟩
theorem wX{ls:List Let}{id:Int}{o:Bool}{j:Nat}(h:mz ls id o j=true):∃m,ls[j]?=some m/\m.aC=true/\m.id=id/\m.over=o:=by
 unfold mz at h;split at h
 .rename_i m hm;simp only[cA,beq_iff_eq] at h;exact⟨m,hm,h.1,h.2.1,h.2.2⟩
 cases h
theorem GP{ls:List Let}{k:Nat}{id:Int}{o:Bool}(h:eU ls k id o=none){j:Nat}(hj:j<k):mz ls id o j=false:=by
 have:=DE.1 h j (iN.2 hj)
 simpa using this
theorem Tm{ls:List Let}{k:Nat}{l:Let}(h:ls[k]?=some l)(hc:l.aC=false):dO ls (k+1)=dO ls k:=by simp[dO,h,hc]
theorem Tn{ls:List Let}{k:Nat}{l:Let}(h:ls[k]?=some l)(hc:l.aC=true)(hn:l.id∉dO ls k):dO ls (k+1)=dO ls k++[l.id]:=by simp[dO,h,hc,hn]
theorem To{ls:List Let}{k:Nat}{l:Let}(h:ls[k]?=some l)(hn:l.id∈dO ls k):dO ls (k+1)=dO ls k:=by simp[dO,h,hn]
theorem acV{ls:List Let}{k:Nat}{l:Let}(h:ls[k]?=some l)(hc:l.aC=false):lI ls (k+1)=lI ls k:=by unfold lI mv;rw[Tm h hc];simp[Jf,SZ h hc]
theorem abH{ls:List Let}{id:Int}:∀(k:Nat),k<=ls.length->(id∈dO ls k↔ ∃j o,j<k/\mz ls id o j=true):=by
 intro k
 induction k with
 |zero=>intro _;simp[dO]
 |succ k ih=>
  intro hk;obtain⟨l,hl⟩:=aL (show k<ls.length by omega);have ih:=ih aa;have old:(∃j o,j<k/\mz ls id o j=true)->∃j o,j<k+1/\mz ls id o j=true:=fun⟨j,o,h1,h2⟩=>⟨j,o,aa,h2⟩;cases hc:l.aC with
  |false=>
   rw[Tm hl hc,ih];refine⟨old,?_⟩;rintro ⟨j,o,h1,h2⟩
   rcases kK.1 h1 with h|rfl
   .exact⟨j,o,h,h2⟩
   rw[SZ hl hc] at h2;cases h2
  |true=>
   have key:id∈dO ls (k+1)↔(id∈dO ls k\/id=l.id):=by
    by_cases hm:l.id∈dO ls k
    .rw[To hl hm];exact⟨Or.inl,fun h=>h.elim dL (fun e=>e▸hm)⟩
    rw[Tn hl hc hm];simp
   rw[key,ih];constructor
   .rintro (h|rfl)
    .exact old h
    exact⟨k,l.over,aa,by rw[FG hl hc];simp⟩
   rintro ⟨j,o,h1,h2⟩
   rcases kK.1 h1 with h|rfl
   .exact Or.inl ⟨j,o,h,h2⟩
   rw[FG hl hc] at h2;simp only[cA,beq_iff_eq] at h2;exact Or.inr h2.1.symm
where dL {p:Prop} (h:p):p:=h
theorem Ga{ls:List Let}{id:Int}{k:Nat}(h:k<=ls.length):id∈dO ls k↔ ∃j o,j<k/\mz ls id o j=true:=abH k h
theorem MT(ls:List Let):∀k,(dO ls k).Nodup:=by
 intro k
 induction k with
 |zero=>simp[dO]
 |succ k ih=>
  unfold dO;split
  .split
   .rename_i h;simp only[cA,jU,List.contains_eq_mem,decide_eq_false_iff_not] at h;rw[List.nodup_append];refine⟨ih,af,?_⟩;intro a ha b hb;simp only[sK] at hb;subst hb;rintro rfl
    exact h.2 ha
   exact ih
  exact ih
theorem agU{ls:List Let}{k:Nat}(hk:k<=ls.length){id:Int}(h:id∉dO ls k)(o:Bool):eU ls k id o=none:=by
 cases hv:eU ls k id o with
 |none=>rfl
 |some j=>obtain⟨h1,h2⟩:=Bg hv;exact absurd ((Ga hk).2 ⟨j,o,h1,h2⟩) h
theorem Wk{ls:List Let}{k:Nat}(hk:k<=ls.length){id:Int}(h:id∈dO ls k)(o:Bool)(hn:eU ls k id o=none):∃j m,eU ls k id (!o)=some j/\ls[j]?=some m/\j<k:=by
 obtain⟨j,o',h1,h2⟩:=(Ga hk).1 h;by_cases e:o'=o
 .subst e;rw[GP hn h1] at h2;cases h2
 have e:o'= !o:=by cases o<;>cases o'<;>simp_all
 subst e;cases hv:eU ls k id (!o) with
 |none=>rw[GP hv h1] at h2;cases h2
 |some i=>obtain⟨h3,h4⟩:=Bg hv;obtain⟨m,hm,_⟩:=wX h4;exact⟨i,m,rfl,hm,h3⟩
theorem Wl{ls:List Let}{k:Nat}{l:Let}(h:ls[k]?=some l)(hc:l.aC=true){id:Int}(hn:¬l.id=id)(o:Bool):eU ls (k+1) id o=eU ls k id o:=by rw[Jf,FG h hc];simp[hn]
theorem Oq{ls:List Let}{k:Nat}{l:Let}(h:ls[k]?=some l)(hc:l.aC=true)(hn:eU ls k l.id l.over=none):eU ls (k+1) l.id l.over=some k:=by rw[Jf,FG h hc,hn];simp
theorem Oo{ls:List Let}{k:Nat}{l:Let}(h:ls[k]?=some l)(hc:l.aC=true):eU ls (k+1) l.id (!l.over)=eU ls k l.id (!l.over):=by rw[Jf,FG h hc];cases l.over<;>simp
theorem Qx{ls:List Let}{k:Nat}{l:Let}(h:ls[k]?=some l)(hc:l.aC=true){id:Int}(hn:¬l.id=id):mv ls (k+1) id=mv ls k id:=by unfold mv;rw[Wl h hc hn,Wl h hc hn]
theorem acW{ls:List Let}{k:Nat}{l:Let}(h:ls[k]?=some l)(hc:l.aC=true)(hn:l.id∉dO ls k):lI ls (k+1)=lI ls k++[(.int .i64 l.id,mv ls (k+1) l.id)]:=by unfold lI;rw[Tn h hc hn,uU];congr 1;apply GX;intro id hid;rw[Qx h hc (by rintro rfl;exact hn hid)]
theorem acX{ls:List Let}{k:Nat}{l:Let}(h:ls[k]?=some l)(hc:l.aC=true)(hn:l.id∈dO ls k):lI ls (k+1)=(lI ls k).set ((dO ls k).idxOf l.id) (.int .i64 l.id,mv ls (k+1) l.id):=by
 unfold lI;rw[To h hn];apply sH
 .simp
 intro i h1 h2;rw[DH];simp only[cq] at h1;by_cases e:(dO ls k).idxOf l.id=i
 .subst e;simp only[xN,if_pos,List.getElem_idxOf]
 rw[if_neg e];simp only[xN];rw[Qx h hc];intro e2;apply e;rw[e2];exact(MT ls k).idxOf_getElem i h1
theorem Sb(ls:List Let)(k:Nat)(q:Int):rL (.int .i64 q) (lI ls k) 0=some (if q∈dO ls k then some ((dO ls k).idxOf q,mv ls k q) else none):=by unfold lI;rw[ZW];simp
theorem B0{ls:List Let}{k:Nat}(hk:k<ls.length)(h:jI ls (aA Let.aC ls/2) k=false):km ls=false:=by have:(List.range ls.length).all (jI ls (aA Let.aC ls/2))=false:=List.all_eq_false.2 ⟨k,iN.2 hk,by simp[h]⟩;simp[km,this]
theorem Ke{ls:List Let}(he:aA Let.aC ls%2=0)(h:∀i,i<ls.length->jI ls (aA Let.aC ls/2) i=true):km ls=((dO ls ls.length).length==aA Let.aC ls/2):=by have:(List.range ls.length).all (jI ls (aA Let.aC ls/2))=true:=im.2 fun i hi=>h i (iN.1 hi);simp[km,this,he]
abbrev OE(id:Nat):Prop:=id=2752320128\/kI id=99
def Bm(F:Nat)(ls:List Let)(g:Nat)(c2 c3 c4 c6:C)(jv:aw)(v:V)(ak:aw):Prop:=v=vb (km ls)/\Kept OE jv ak/\(km ls=true->∃g1,ak 2752320128=(g,some (.var (qA F ls c2 c3 c4 (.iS 6336256064 g1) c6)))/\ak 6336256064=(g1,some (.map true (lI ls ls.length))))
theorem ge0(j:Nat):decide ((0:Int)<=(j:Int))=true:=decide_eq_true aa
theorem wr0:IntKind.i64.wrap 0=0:=ae
theorem wr1:IntKind.i64.wrap 1=1:=ae
theorem CQ:((-1:Int)≥0)=False:=af
theorem neg1':((0:Int)<= -1)=False:=af
theorem Y0{al:Al}(fY:al.ok 2752320128=true)(ok:∀id,kI id=99->al.ok id=true){blk:aw}{g F:Nat}{ls:List Let}{c2 c3 c4 c5 c6:C}(hl:ls.length<=1000000)
  (bD:blk 2752320128=(g,some (.var (qA F ls c2 c3 c4 c5 c6)))):∃v ak,fT S 99 [.one (.aZ 2752320128 g 0)] al blk v ak/\Bm F ls g c2 c3 c4 c6 blk v ak:=by
 have o1:=ok 6336256064 rfl;have o2:=ok 6336448192 rfl;have o3:=ok 6336704640 rfl;refine lf c99 (fy rfl) ?_;have pc:=Kf F ls hl;have ef:aA Let.aC ls<=ls.length:=oH _ _;cases he:(((aA Let.aC ls%2:Nat):Int)!=0) with
 |true=>
  have dB:km ls=false:=by
   have:(aA Let.aC ls%2==0)=false:=by simp at he ⊢;omega
   simp[km,this]
  simp only[go_sem,i99,bD,s52,Aa pc,gR,dw,he,fY];exact⟨by rw[dB],Kept.refl _ _,fun h=>by rw[dB] at h;cases h⟩
 |false=>
  have he0:aA Let.aC ls%2=0:=by simp at he;omega
  simp only[go_sem,i99,bD,s52,Aa pc,gR,dw,he,fY,o1];refine ck (fun k aj ak=>aj 0=.one (.aZ 2752320128 g 0)/\aj 3=vi (aA Let.aC ls)/\aj 25=.one (.p (mJ ls))/\aj 26=vi ls.length/\aj 27=vi k/\
   ak 2752320128=(g,some (.var (qA F ls c2 c3 c4 (.iS 6336256064 ((blk 6336256064).1+1)) c6)))/\ak 6336256064=((blk 6336256064).1+1,some (.map true (lI ls k)))/\
   (∀i,i<k->jI ls (aA Let.aC ls/2) i=true)/\Kept OE blk ak) 0 ls.length (bc _) ?_ ?_
  .simp only[go_sem,bD];refine⟨rfl,rfl,fun i h=>absurd h (rC i),?_⟩;repeat(first|exact(Kept.refl _ _)|refine Kept.ca ?_ (by first|exact Or.inl rfl|exact Or.inr rfl) _)
  rintro k aj ak hk ⟨h0,h3,oX,tg,th,bD,bM,aq,bJ⟩
  have wq:IntKind.i64.wrap ((aA Let.aC ls/2:Nat):Int)=((aA Let.aC ls/2:Nat):Int):=wrap_small aa;by_cases au:k<ls.length
  .obtain⟨l,dd⟩:=aL au;have hi:=iU dd;have aF:((k:Int)<(ls.length:Int)):=aa;have w1:=bj (n:=k) aa;cases hc:(l.kind==2) with
   |false=>
    have jm:l.aC=false:=hc;have hp:(l.kind !=2)=true:=by simp[bne,hc]
    have l9:jI ls (aA Let.aC ls/2) k=true:=by simp[jI,dd,jm]
    simp only[go_sem,i99_l1,h0,h3,oX,tg,th,bD,bM,hi,Let.ps,aF,hp,w1,o2];refine⟨au,?_,?_,?_⟩
    .rw[acV dd jm]
    .intro i hi;rcases kK.1 hi with h|rfl
     .exact aq i h
     exact l9
    repeat(first|exact bJ|refine Kept.ca ?_ (by first|exact Or.inl rfl|exact Or.inr rfl) _)
   |true=>
    have jm:l.aC=true:=hc;have hp:(l.kind !=2)=false:=by simp[bne,hc]
    cases r1:decide (l.id<1) with
    |true=>have qZ:l.id<1:=of_decide_eq_true r1;have r1n:¬1<=l.id:=aa;have dB:=B0 au (show jI ls (aA Let.aC ls/2) k=false by simp[jI,dd,jm,r1n]);simp only[go_sem,i99_l1,oX,tg,th,hi,Let.ps,aF,hp,qZ,o2];unfold Bm;refine⟨by rw[dB],?_,fun h=>by rw[dB] at h;cases h⟩;repeat(first|exact bJ|refine Kept.ca ?_ (by first|exact Or.inl rfl|exact Or.inr rfl) _)
    |false=>
     have qZ:¬l.id<1:=of_decide_eq_false r1;have r1y:1<=l.id:=aa;cases r2:decide (((aA Let.aC ls/2:Nat):Int)<l.id) with
     |true=>have qp:((aA Let.aC ls/2:Nat):Int)<l.id:=of_decide_eq_true r2;have r2n:¬l.id<=((aA Let.aC ls/2:Nat):Int):=aa;have dB:=B0 au (show jI ls (aA Let.aC ls/2) k=false by simp only[jI,dd,jm,r2n];simp);simp only[go_sem,i99_l1,h3,oX,tg,th,hi,Let.ps,aF,hp,qZ,qp,eo,dw,wq,o2];unfold Bm;refine⟨by rw[dB],?_,fun h=>by rw[dB] at h;cases h⟩;repeat(first|exact bJ|refine Kept.ca ?_ (by first|exact Or.inl rfl|exact Or.inr rfl) _)
     |false=>
      have qp:¬((aA Let.aC ls/2:Nat):Int)<l.id:=of_decide_eq_false r2;have r2y:l.id<=((aA Let.aC ls/2:Nat):Int):=aa;have hf:=Sb ls k l.id;have mG:jI ls (aA Let.aC ls/2) k=((eU ls k l.id l.over).isNone&&(match eU ls k l.id (!l.over) with|some j=>xG ls j==l.sign|none=>true)):=by simp only[jI,dd,jm,r1y,r2y,decide_true];rfl
      by_cases hm:l.id∈dO ls k
      .rw[if_pos hm] at hf;obtain⟨e0,hse⟩:=aL (show(dO ls k).idxOf l.id<(lI ls k).length by simp[lI];exact List.idxOf_lt_length_of_mem hm);have Az:=acX dd jm hm;have Fx:mv ls k l.id=[.int .i64 (vK (eU ls k l.id false)),.int .i64 (vK (eU ls k l.id true))]:=rfl;rw[Fx] at hf;cases ho:l.over with
       |true=>
        cases hv:eU ls k l.id true with
        |some j=>have dB:=B0 au (show jI ls (aA Let.aC ls/2) k=false by rw[mG,ho,hv];rfl);rw[hv] at hf;simp only[vK] at hf;simp only[go_sem,i99_l1,h0,h3,oX,tg,th,bD,bM,hi,Let.ps,aF,hp,qZ,qp,eo,dw,wq,hf,ho,ge0,mapOf,mapVal,ia,Int.reduceNeg,fY,o1,o2,o3];refine⟨ay,ay,?_⟩;unfold Bm;refine⟨by rw[dB],?_,fun h=>by rw[dB] at h;cases h⟩;repeat(first|exact bJ|refine Kept.ca ?_ (by first|exact Or.inl rfl|exact Or.inr rfl) _)
        |none=>
         obtain⟨j,m,hj,Ap,hjk⟩:=Wk hk hm true hv;have hj:eU ls k l.id false=some j:=hj;have qf:=iU Ap;have F2:xG ls j=m.sign:=by simp[xG,Ap]
         rw[hv,hj] at hf;simp only[vK] at hf;cases hs:(m.sign==l.sign) with
         |false=>
          have eP:(m.sign !=l.sign)=true:=by simp[bne,hs]
          have dB:=B0 au (show jI ls (aA Let.aC ls/2) k=false by rw[mG,ho,hv];simp only[Bp,hj,F2,hs];rfl);simp only[go_sem,i99_l1,h0,h3,oX,tg,th,bD,bM,hi,Let.ps,aF,hp,qZ,qp,eo,dw,wq,hf,ho,CQ,qf,eP,wr0,mapOf,mapVal,ia,Int.reduceNeg,Int.reduceSub,fY,o1,o2,o3];refine⟨ay,ay,?_⟩;unfold Bm;refine⟨by rw[dB],?_,fun h=>by rw[dB] at h;cases h⟩;repeat(first|exact bJ|refine Kept.ca ?_ (by first|exact Or.inl rfl|exact Or.inr rfl) _)
         |true=>
          have eP:(m.sign !=l.sign)=false:=by simp[bne,hs]
          have l9:jI ls (aA Let.aC ls/2) k=true:=by rw[mG,ho,hv];simp only[Bp,hj,F2,hs];rfl
          have mF:=Oq dd jm (show eU ls k l.id l.over=none by rw[ho];exact hv);have sa:=Oo dd jm;rw[ho] at mF sa;rw[show eU ls k l.id (!true)=some j from hj] at sa;have Mr:mv ls (k+1) l.id=[.int .i64 (j:Int),.int .i64 (k:Int)]:=by simp only[mv];rw[mF,show eU ls (k+1) l.id false=some j from sa];rfl
          rw[Mr] at Az;simp only[go_sem,i99_l1,h0,h3,oX,tg,th,bD,bM,hi,Let.ps,aF,hp,w1,qZ,qp,eo,dw,wq,hf,ho,CQ,qf,eP,wr0,mapOf,mapVal,ia,wh,Int.reduceNeg,Int.reduceSub,fY,o1,o2,o3];refine⟨ay,ay,ay,?_⟩;refine⟨au,?_,?_,?_⟩
          .rw[Az]
          .intro i hi;rcases kK.1 hi with h|rfl
           .exact aq i h
           exact l9
          repeat(first|exact bJ|refine Kept.ca ?_ (by first|exact Or.inl rfl|exact Or.inr rfl) _)
       |false=>
        cases hv:eU ls k l.id false with
        |some j=>have dB:=B0 au (show jI ls (aA Let.aC ls/2) k=false by rw[mG,ho,hv];rfl);rw[hv] at hf;simp only[vK] at hf;simp only[go_sem,i99_l1,h0,h3,oX,tg,th,bD,bM,hi,Let.ps,aF,hp,qZ,qp,eo,dw,wq,hf,ho,ge0,mapOf,mapVal,ia,Int.reduceNeg,fY,o1,o2,o3];refine⟨ay,ay,?_⟩;unfold Bm;refine⟨by rw[dB],?_,fun h=>by rw[dB] at h;cases h⟩;repeat(first|exact bJ|refine Kept.ca ?_ (by first|exact Or.inl rfl|exact Or.inr rfl) _)
        |none=>
         obtain⟨j,m,hj,Ap,hjk⟩:=Wk hk hm false hv;have hj:eU ls k l.id true=some j:=hj;have qf:=iU Ap;have F2:xG ls j=m.sign:=by simp[xG,Ap]
         rw[hv,hj] at hf;simp only[vK] at hf;cases hs:(m.sign==l.sign) with
         |false=>
          have eP:(m.sign !=l.sign)=true:=by simp[bne,hs]
          have dB:=B0 au (show jI ls (aA Let.aC ls/2) k=false by rw[mG,ho,hv];simp only[Bool.not_false,hj,F2,hs];rfl);simp only[go_sem,i99_l1,h0,h3,oX,tg,th,bD,bM,hi,Let.ps,aF,hp,qZ,qp,eo,dw,wq,hf,ho,CQ,qf,eP,wr1,mapOf,mapVal,ia,Int.reduceNeg,Int.reduceSub,fY,o1,o2,o3];refine⟨ay,ay,?_⟩;unfold Bm;refine⟨by rw[dB],?_,fun h=>by rw[dB] at h;cases h⟩;repeat(first|exact bJ|refine Kept.ca ?_ (by first|exact Or.inl rfl|exact Or.inr rfl) _)
         |true=>
          have eP:(m.sign !=l.sign)=false:=by simp[bne,hs]
          have l9:jI ls (aA Let.aC ls/2) k=true:=by rw[mG,ho,hv];simp only[Bool.not_false,hj,F2,hs];rfl
          have mF:=Oq dd jm (show eU ls k l.id l.over=none by rw[ho];exact hv);have sa:=Oo dd jm;rw[ho] at mF sa;rw[show eU ls k l.id (!false)=some j from hj] at sa;have Mr:mv ls (k+1) l.id=[.int .i64 (k:Int),.int .i64 (j:Int)]:=by simp only[mv];rw[mF,show eU ls (k+1) l.id true=some j from sa];rfl
          rw[Mr] at Az;simp only[go_sem,i99_l1,h0,h3,oX,tg,th,bD,bM,hi,Let.ps,aF,hp,w1,qZ,qp,eo,dw,wq,hf,ho,CQ,qf,eP,wr1,mapOf,mapVal,ia,wh,Int.reduceNeg,Int.reduceSub,fY,o1,o2,o3];refine⟨ay,ay,ay,?_⟩;refine⟨au,?_,?_,?_⟩
          .rw[Az]
          .intro i hi;rcases kK.1 hi with h|rfl
           .exact aq i h
           exact l9
          repeat(first|exact bJ|refine Kept.ca ?_ (by first|exact Or.inl rfl|exact Or.inr rfl) _)
      rw[if_neg hm] at hf;have hv:=agU hk hm;have w8:=acW dd jm hm;have l9:jI ls (aA Let.aC ls/2) k=true:=by rw[mG,hv,hv];rfl
      have mF:=Oq dd jm (hv _);have sa:=Oo dd jm;rw[hv] at sa;cases ho:l.over with
      |true=>
       rw[ho] at mF sa;have Fx:mv ls (k+1) l.id=[.int .i64 (-1),.int .i64 (k:Int)]:=by simp only[mv];rw[mF,show eU ls (k+1) l.id false=none from sa];rfl
       rw[Fx] at w8;simp only[go_sem,i99_l1,h0,h3,oX,tg,th,bD,bM,hi,Let.ps,aF,hp,w1,qZ,qp,eo,dw,wq,hf,ho,CQ,mapOf,mapVal,ia,wh,Option.map_none,Int.reduceNeg,fY,o1,o2,o3];refine⟨ay,ay,ay,?_⟩;refine⟨au,?_,?_,?_⟩
       .rw[w8]
       .intro i hi;rcases kK.1 hi with h|rfl
        .exact aq i h
        exact l9
       repeat(first|exact bJ|refine Kept.ca ?_ (by first|exact Or.inl rfl|exact Or.inr rfl) _)
      |false=>
       rw[ho] at mF sa;have Fx:mv ls (k+1) l.id=[.int .i64 (k:Int),.int .i64 (-1)]:=by simp only[mv];rw[mF,show eU ls (k+1) l.id true=none from sa];rfl
       rw[Fx] at w8;simp only[go_sem,i99_l1,h0,h3,oX,tg,th,bD,bM,hi,Let.ps,aF,hp,w1,qZ,qp,eo,dw,wq,hf,ho,CQ,mapOf,mapVal,ia,wh,Option.map_none,Int.reduceNeg,fY,o1,o2,o3];refine⟨ay,ay,ay,?_⟩;refine⟨au,?_,?_,?_⟩
       .rw[w8]
       .intro i hi;rcases kK.1 hi with h|rfl
        .exact aq i h
        exact l9
       repeat(first|exact bJ|refine Kept.ca ?_ (by first|exact Or.inl rfl|exact Or.inr rfl) _)
  have:k=ls.length:=aa;subst this;have hr:=Ke he0 aq;have jZ:(lI ls ls.length).length=(dO ls ls.length).length:=by simp[lI]
  have hb:((((dO ls ls.length).length:Nat):Int)==((aA Let.aC ls/2:Nat):Int))=((dO ls ls.length).length==aA Let.aC ls/2):=by
   cases h:((dO ls ls.length).length==aA Let.aC ls/2) with
   |true=>simp at h ⊢;omega
   |false=>simp at h ⊢;omega
  simp only[go_sem,i99_l1,i99_r2,h0,h3,tg,th,bD,bM,dT,vr,Int.reduceNeg,jZ,eo,dw,wq,hb,fY,o1];exact⟨by rw[hr],bJ,fun _=>⟨_,bD,bM⟩⟩
theorem zX{p:Let->Bool}{ls:List Let}{i:Nat}{l:Let}(h:ls[i]?=some l)(hp:p l=true):aA p ls=1↔ ∀j m,ls[j]?=some m->p m=true->j=i:=by
 obtain⟨hi,e⟩:=bn.1 h;have hs:ls=ls.take i++l::ls.drop (i+1):=by rw[<- e,List.getElem_cons_drop];simp
 have hc:aA p ls=aA p (ls.take i)+(aA p (ls.drop (i+1))+1):=by
  conv=>lhs;rw[hs]
  simp[aA,List.countP_append,hp]
 constructor
 .intro h1 j m hj hm;have z1:aA p (ls.take i)=0:=aa;have z2:aA p (ls.drop (i+1))=0:=aa;have z1:=GW.1 z1;have z2:=GW.1 z2;rcases DL j i with vf|vf|vf
  .have:m∈ls.take i:=ba (i:=j) (by rw[lQ,if_pos vf,hj]);exact absurd hm (z1 m this)
  .exact vf
  have:m∈ls.drop (i+1):=ba (i:=j-(i+1)) (by rw[DF,show i+1+(j-(i+1))=j by omega,hj]);exact absurd hm (z2 m this)
 intro hu;have z1:aA p (ls.take i)=0:=by
  refine GW.2 fun m hm j4=>?_;obtain⟨j,hj⟩:=iV hm;have vf:j<i:=by have:=(bn.1 hj).1;rw[jt] at this;omega
  rw[lQ,if_pos vf] at hj;have:=hu j m hj j4;omega
 have z2:aA p (ls.drop (i+1))=0:=by refine GW.2 fun m hm j4=>?_;obtain⟨j,hj⟩:=iV hm;rw[DF] at hj;have:=hu _ m hj j4;omega
 omega
theorem YE{p:Let->Bool}{ls:List Let}(h:∀(i j:Nat) (l m:Let),ls[i]?=some l->ls[j]?=some m->p l=true->p m=true->i=j):aA p ls<=1:=by
 by_cases hz:aA p ls=0
 .omega
 have:0<ls.countP p:=Nat.pos_of_ne_zero hz;obtain⟨l,hl,hp⟩:=Bq.1 this;obtain⟨i,hi⟩:=iV hl;have:=(zX hi hp).2 fun j m hj hm=>h j i m l hj hi hm hp;omega
structure nV (F:Nat) (ls:List Let) (l:Let):Prop where
 g0:0<=l.gate
 g1:l.gate<=(F:Int)
 r0:1<=l.aO
 r1:l.aO<=(cg ls l.gate.toNat:Int)
theorem IH{ls:List Let}{l m:Let}(hl:nV F ls l)(hm:nV F ls m):cU ls l=cU ls m↔l.gate=m.gate/\l.aO=m.aO:=by
 obtain⟨l1,l2,l3,l4⟩:=hl;obtain⟨m1,m2,m3,m4⟩:=hm;unfold cU;constructor
 .intro h;have sl:=pY ls l.gate.toNat;have sm:=pY ls m.gate.toNat;rcases DL l.gate.toNat m.gate.toNat with c|c|c
  .have:=wJ (ls:=ls) (show l.gate.toNat+1<=m.gate.toNat by omega);omega
  .rw[c] at h;omega
  have:=wJ (ls:=ls) (show m.gate.toNat+1<=l.gate.toNat by omega);omega
 rintro ⟨h1,h2⟩;rw[h1,h2]
theorem adH{ls:List Let}{l m:Let}(hl:nV F ls l)(hm:nV F ls m):A0 l m=true↔cU ls l<cU ls m:=by
 obtain⟨l1,l2,l3,l4⟩:=hl;obtain⟨m1,m2,m3,m4⟩:=hm;unfold cU A0;simp only[sG,cA,decide_eq_true_eq,beq_iff_eq];have sl:=pY ls l.gate.toNat;have sm:=pY ls m.gate.toNat;rcases DL l.gate.toNat m.gate.toNat with c|c|c
 .have:=wJ (ls:=ls) (show l.gate.toNat+1<=m.gate.toNat by omega);omega
 .rw[c];omega
 have:=wJ (ls:=ls) (show m.gate.toNat+1<=l.gate.toNat by omega);omega
theorem NC{ls:List Let}{l:Let}(hl:nV F ls l):cU ls l<eE ls (F+1):=by obtain⟨l1,l2,l3,l4⟩:=hl;unfold cU;have sl:=pY ls l.gate.toNat;have:=wJ (ls:=ls) (show l.gate.toNat+1<=F+1 by omega);omega
theorem IU{ls:List Let}{i:Nat}{l:Let}(h:ls[i]?=some l)(hp:l.aG=true):oz ls i=true↔1<=l.aO/\l.aO<=(cg ls l.gate.toNat:Int)/\ ∀j m,j<i->ls[j]?=some m->m.aG=true->cU ls m≠cU ls l:=by
 simp only[oz,h,hp,Bp,xM,cA,decide_eq_true_eq,jU,zD,iN];constructor
 .rintro ⟨⟨h1,h2⟩,h3⟩
  refine⟨h1,h2,fun j m hj hm j4 e=>?_⟩;have:=h3 j hj;rw[Fz hm j4] at this;simp[e] at this
 rintro ⟨h1,h2,h3⟩
 refine⟨⟨h1,h2⟩,fun j hj=>?_⟩;unfold nZ;split
 .rename_i m hm;cases j4:m.aG with
  |false=>simp
  |true=>simpa using h3 j m hj hm j4
 simp
theorem Dh{ls:List Let}(hg:mw F ls):tL ls=true↔(∀l∈ls,l.aG=true->nV F ls l)/\ ∀(i j:Nat) (l m:Let),ls[i]?=some l->ls[j]?=some m->l.aG=true->m.aG=true->cU ls l=cU ls m->i=j:=by
 unfold tL;rw[im];constructor
 .intro h;refine⟨fun l hl hp=>?_,fun i j l m hi hj bq j4 e=>?_⟩
  .obtain⟨i,hi⟩:=iV hl;have:=(IU hi hp).1 (h i (iN.2 (bn.1 hi).1));exact⟨(hg l hl hp).1,(hg l hl hp).2,this.1,this.2.1⟩
  have ci:=(IU hi bq).1 (h i (iN.2 (bn.1 hi).1));have cj:=(IU hj j4).1 (h j (iN.2 (bn.1 hj).1));rcases DL i j with c|c|c
  .exact absurd e (cj.2.2 i l c hi bq)
  .exact c
  exact absurd e.symm (ci.2.2 j m c hj j4)
 rintro ⟨h1,h2⟩ i hi
 obtain⟨l,hl⟩:=aL (iN.1 hi);cases hp:l.aG with
 |false=>simp[oz,hl,hp]
 |true=>have hg:=h1 l (ba hl) hp;refine(IU hl hp).2 ⟨hg.r0,hg.r1,fun j m hj hm j4 e=>?_⟩;have:=h2 j i m l hm hl j4 hp e;omega
theorem HZ(g:Int)(h:0<=g)(l:Let):kU g l=sU g.toNat l:=by unfold kU sU;rw[Int.toNat_of_nonneg h]
theorem vz{l:Let}(hp:l.aG=true):cV f l=false↔(((0<=l.gate/\l.gate<=f)/\l.id=0)/\l.sign=0)/\l.over=false:=by unfold Let.aG at hp;simp only[cV,hp,if_true,Jl,decide_eq_false_iff_not,bne_eq_false_iff_eq,Int.not_lt]
theorem CT{ls:List Let}{l:Let}(hp:l.aG=true):qV f ls l=true↔cV f l=false/\1<=l.aO/\l.aO<=(aA (kU l.gate) ls:Int)/\aA (ga l) ls=1:=by
 rw[vz hp];unfold qV;simp only[jU,Jl,decide_eq_false_iff_not,bne_eq_false_iff_eq];constructor
 .rintro ⟨⟨⟨⟨⟨⟨⟨a,b⟩,c⟩,d⟩,e⟩,g⟩,h⟩,i⟩
  exact⟨⟨⟨⟨⟨aa,aa⟩,a⟩,b⟩,c⟩,aa,aa,aa⟩
 rintro ⟨⟨⟨⟨⟨d,e⟩,a⟩,b⟩,c⟩,g,h,i⟩
 exact⟨⟨⟨⟨⟨⟨⟨a,b⟩,c⟩,aa⟩,aa⟩,aa⟩,aa⟩,aa⟩
theorem IV{l m:Let}(hp:l.aG=true):ga l m=true↔m.aG=true/\m.gate=l.gate/\m.aO=l.aO:=by unfold Let.aG at hp ⊢;simp only[beq_iff_eq] at hp;unfold ga;simp only[cA,beq_iff_eq,hp,and_assoc]
theorem ado{ls:List Let}:(∀l∈ls,l.aG=true->qV F ls l=true)↔(∀l∈ls,l.aG=true->cV F l=false)/\tL ls=true:=by
 constructor
 .intro h;have hb:∀l∈ls,l.aG=true->cV F l=false:=fun l hl hp=>((CT hp).1 (h l hl hp)).1;have hg:mw F ls:=fun l hl hp=>((vz hp).1 (hb l hl hp)).1.1.1;refine⟨hb,(Dh hg).2 ⟨fun l hl hp=>?_,fun i j l m hi hj bq j4 e=>?_⟩⟩
  .obtain⟨_,h2,h3,_⟩:=(CT hp).1 (h l hl hp);have:=hg l hl hp;refine⟨this.1,this.2,h2,?_⟩;have e:aA (kU l.gate) ls=cg ls l.gate.toNat:=by unfold cg aA;congr 1;funext m;exact HZ _ this.1 m
   omega
  have gl:nV F ls l:=by
   obtain⟨_,h2,h3,_⟩:=(CT bq).1 (h l (ba hi) bq);have:=hg l (ba hi) bq;have e:aA (kU l.gate) ls=cg ls l.gate.toNat:=by unfold cg aA;congr 1;funext m;exact HZ _ this.1 m
   exact⟨this.1,this.2,h2,aa⟩
  have gm:nV F ls m:=by
   obtain⟨_,h2,h3,_⟩:=(CT j4).1 (h m (ba hj) j4);have:=hg m (ba hj) j4;have e:aA (kU m.gate) ls=cg ls m.gate.toNat:=by unfold cg aA;congr 1;funext m;exact HZ _ this.1 m
   exact⟨this.1,this.2,h2,aa⟩
  have e2:=(IH gl gm).1 e;have hs:=((CT j4).1 (h m (ba hj) j4)).2.2.2;exact(zX hj ((IV j4).2 ⟨j4,rfl,rfl⟩)).1 hs i l hi ((IV j4).2 ⟨bq,e2.1,e2.2⟩)
 rintro ⟨hb,hr⟩ l hl hp
 have hg:mw F ls:=fun l hl hp=>((vz hp).1 (hb l hl hp)).1.1.1;obtain⟨h1,h2⟩:=(Dh hg).1 hr;have gl:=h1 l hl hp;have e:aA (kU l.gate) ls=cg ls l.gate.toNat:=by unfold cg aA;congr 1;funext m;exact HZ _ gl.g0 m
 obtain⟨i,hi⟩:=iV hl;refine(CT hp).2 ⟨hb l hl hp,gl.r0,by rw[e];exact gl.r1,(zX hi ((IV hp).2 ⟨hp,rfl,rfl⟩)).2 fun j m hj hs=>?_⟩;obtain⟨j4,eg,er⟩:=(IV hp).1 hs;exact h2 j i m l hj hi j4 hp ((IH (h1 m (ba hj) j4) gl).2 ⟨eg,er⟩)
def ni(id:Int)(o:Bool)(l:Let):Bool:=l.aC&&(l.id==id&&l.over==o)
theorem Cs{ls:List Let}{j:Nat}{m:Let}(h:ls[j]?=some m)(id:Int)(o:Bool):mz ls id o j=ni id o m:=by simp[mz,ni,h]
theorem l7{id:Int}{o:Bool}{l:Let}:ni id o l=true↔l.aC=true/\l.id=id/\l.over=o:=by unfold ni;simp only[cA,beq_iff_eq]
def CW(ls:List Let):Prop:=∀(i j:Nat) (l m:Let),ls[i]?=some l->ls[j]?=some m->l.aC=true->m.aC=true->l.id=m.id->i≠j->l.over≠m.over/\l.sign=m.sign
def MS(ls:List Let):Prop:=∀l∈ls,l.aC=true->1<=l.id/\l.id<=((aA Let.aC ls/2:Nat):Int)
theorem WA{ls:List Let}{n2 k:Nat}{l:Let}(h:ls[k]?=some l)(hc:l.aC=true):jI ls n2 k=true↔(1<=l.id/\l.id<=(n2:Int))/\eU ls k l.id l.over=none/\ ∀j,eU ls k l.id (!l.over)=some j->xG ls j=l.sign:=by
 simp only[jI,h,hc,Bp,xM,cA,decide_eq_true_eq,Option.isNone_iff_eq_none];constructor
 .rintro ⟨h1,h2,h3⟩
  refine⟨h1,h2,fun j hj=>?_⟩;rw[hj] at h3
  simpa using h3
 rintro ⟨h1,h2,h3⟩
 refine⟨h1,h2,?_⟩;split
 .rename_i j hj
  simpa using h3 j hj
 rfl
theorem DC{ls:List Let}:(∀k,k<ls.length->jI ls (aA Let.aC ls/2) k=true)↔MS ls/\CW ls:=by
 constructor
 .intro h;have hx:∀ {k:Nat} {l:Let},ls[k]?=some l->l.aC=true->_:=fun {k l} hk hc=>(WA (n2:=aA Let.aC ls/2) hk hc).1 (h k (bn.1 hk).1);refine⟨fun l hl hc=>?_,?_⟩
  .obtain⟨i,hi⟩:=iV hl;exact(hx hi hc).1
  have key:∀(i j:Nat) (l m:Let),ls[i]?=some l->ls[j]?=some m->l.aC=true->m.aC=true->l.id=m.id->i<j->l.over≠m.over/\l.sign=m.sign:=by
   intro i j l m hi hj ef tn he jX;obtain⟨_,hn,hs⟩:=hx hj tn;have ho:l.over≠m.over:=by intro e;have:=GP hn jX;rw[Cs hi,l7.2 ⟨ef,he,e⟩] at this;cases this
   refine⟨ho,?_⟩;have je:l.over= !m.over:=by revert ho;cases l.over<;>cases m.over<;>simp
   cases hv:eU ls j m.id (!m.over) with
   |none=>have:=GP hv jX;rw[Cs hi,l7.2 ⟨ef,he,je⟩] at this;cases this
   |some p=>
    have h3:=hs p hv;obtain⟨hp1,kS⟩:=Bg hv;obtain⟨x,hY,F7,F8,hxo⟩:=wX kS;have:p=i:=by
     rcases DL p i with c|c|c
     .have tA:=(hx hi ef).2.1;have:=GP tA c;rw[Cs hY,l7.2 ⟨F7,by rw[F8,he],by rw[hxo,je]⟩] at this;cases this
     .exact c
     have h4:(List.range j).find? (mz ls m.id (!m.over))=some p:=hv;rw[List.find?_range_eq_some] at h4;have:=h4.2.2 i c;rw[Cs hi,l7.2 ⟨ef,he,je⟩] at this;cases this
    subst this;rw[hi] at hY;cases hY
    simpa [xG,hi] using h3
  intro i j l m hi hj ef tn he jX;rcases Nat.lt_or_gt_of_ne jX with c|c
  .exact key i j l m hi hj ef tn he c
  have:=key j i m l hj hi tn ef he.symm c;exact⟨fun e=>this.1 e.symm,this.2.symm⟩
 rintro ⟨h1,h2⟩ k hk
 obtain⟨l,hl⟩:=aL hk;cases hc:l.aC with
 |false=>simp[jI,hl,hc]
 |true=>
  refine(WA hl hc).2 ⟨h1 l (ba hl) hc,?_,fun j hj=>?_⟩
  .cases hv:eU ls k l.id l.over with
   |none=>rfl
   |some p=>obtain⟨hp1,kS⟩:=Bg hv;obtain⟨x,hY,F7,F8,hxo⟩:=wX kS;exact absurd hxo (h2 p k x l hY hl F7 hc F8 aa).1
  obtain⟨hp1,kS⟩:=Bg hj;obtain⟨x,hY,F7,F8,hxo⟩:=wX kS;have:=(h2 j k x l hY hl F7 hc F8 aa).2;simp[xG,hY,this]
theorem agp(ls:List Let):∀ids:List Int,ids.Nodup->(ids.map fun id=>aA (jr id) ls).sum=aA (fun l=>l.aC&&ids.contains l.id) ls:=by
 intro ids
 induction ids with
 |nil=>intro _;simp[aA]
 |cons a ids ih=>
  intro hn;rw[DK] at hn;rw[dE,rB,ih hn.2];refine(JY (p:=jr a) (q:=fun l=>l.aC&&ids.contains l.id) (r:=fun l=>l.aC&&(a::ids).contains l.id) ?_ ?_ ls).symm
  .intro l;simp only[jr,cA,beq_iff_eq,List.contains_eq_mem,decide_eq_true_eq,dU];constructor
   .rintro ⟨h1,h2|h2⟩
    .exact .inl ⟨h1,h2⟩
    exact .inr ⟨h1,h2⟩
   rintro (⟨h1,h2⟩|⟨h1,h2⟩)
   .exact⟨h1,.inl h2⟩
   exact⟨h1,.inr h2⟩
  intro l;simp only[jr,cA,beq_iff_eq,List.contains_eq_mem,decide_eq_true_eq];rintro ⟨_,h1⟩ ⟨_,h2⟩
  exact hn.1 (h1▸h2)
theorem HY{ls:List Let}{l:Let}(hl:l∈ls)(hc:l.aC=true):l.id∈dO ls ls.length:=by obtain⟨i,hi⟩:=iV hl;refine(Ga (bo _)).2 ⟨i,l.over,(bn.1 hi).1,?_⟩;rw[Cs hi];exact l7.2 ⟨hc,rfl,rfl⟩
theorem Og(ls:List Let):((dO ls ls.length).map fun id=>aA (jr id) ls).sum=aA Let.aC ls:=by
 rw[agp _ _ (MT ls _)];apply List.countP_congr;intro l hl;cases hc:l.aC with
 |false=>simp
 |true=>simp[HY hl hc]
theorem Ig(id:Int)(ls:List Let):aA (jr id) ls=aA (ni id true) ls+aA (ni id false) ls:=by
 refine JY ?_ ?_ ls
 .intro l;rw[l7,l7];simp only[jr,cA,beq_iff_eq];cases l.over<;>simp
 intro l;rw[l7,l7];rintro ⟨_,_,h1⟩ ⟨_,_,h2⟩
 rw[h1] at h2;cases h2
theorem MV(id:Int)(o:Bool)(ls:List Let):aA (jr id) ls=aA (ni id o) ls+aA (ni id (!o)) ls:=by
 rw[Ig];cases o with
 |true=>rfl
 |false=>simp only[Bool.not_false];omega
theorem vd{ls:List Let}(h:CW ls)(id:Int)(o:Bool):aA (ni id o) ls<=1:=by refine YE fun i j l m hi hj hl hm=>?_;obtain⟨l1,l2,l3⟩:=l7.1 hl;obtain⟨m1,m2,m3⟩:=l7.1 hm;refine Decidable.byContradiction fun aR=>?_;exact(h i j l m hi hj l1 m1 (by rw[l2,m2]) aR).1 (by rw[l3,m3])
theorem V4{f:Int->Nat}:∀ids:List Int,(∀x∈ids,f x<=2)->(ids.map f).sum<=2*ids.length:=by
 intro ids
 induction ids with
 |nil=>intro _;simp
 |cons a ids ih=>intro h;have:=ih fun x hx=>h x (DI _ hx);have:=h a DJ;simp only[dE,rB,dN];omega
theorem O0{f:Int->Nat}:∀ids:List Int,(∀x∈ids,f x<=2)->(ids.map f).sum=2*ids.length->∀x∈ids,f x=2:=by
 intro ids
 induction ids with
 |nil=>intro _ _ x hx;cases hx
 |cons a ids ih=>
  intro h hs;have h1:=V4 ids fun x hx=>h x (DI _ hx);have h2:=h a DJ;simp only[dE,rB,dN] at hs;intro x hx;rcases dU.1 hx with rfl|hx
  .omega
  exact ih (fun x hx=>h x (DI _ hx)) aa x hx
theorem agq{f:Int->Nat}:∀ids:List Int,(∀x∈ids,f x=2)->(ids.map f).sum=2*ids.length:=by
 intro ids
 induction ids with
 |nil=>intro _;simp
 |cons a ids ih=>intro h;have:=ih fun x hx=>h x (DI _ hx);have:=h a DJ;simp only[dE,rB,dN];omega
theorem Nq{l m:Let}(hc:l.aC=true):fG l m=true↔m.aC=true/\m.id=l.id/\m.sign=l.sign/\m.over= !l.over:=by unfold Let.aC at hc ⊢;simp only[beq_iff_eq] at hc;unfold fG;simp only[cA,beq_iff_eq,hc,and_assoc,jU,beq_eq_false_iff_ne,ne_eq];cases l.over<;>cases m.over<;>simp
theorem Nj{l:Let}(hc:l.aC=true):cV f l=false↔(l.gate=0/\l.aO=0)/\(l.sign !=1&&l.sign != -1)=false:=by
 unfold Let.aC at hc;have h1:(l.kind==1)=false:=by simp only[beq_iff_eq] at hc;rw[hc];rfl
 simp only[cV,hc,h1,if_true];simp
theorem Uw{ls:List Let}{l:Let}(hc:l.aC=true):nz ls l=true↔cV f l=false/\(1<=l.id/\l.id<=((aA Let.aC ls/2:Nat):Int))/\aA (fG l) ls=1/\aA (jr l.id) ls=2:=by
 rw[Nj hc];unfold nz;simp only[jU,Jl,decide_eq_false_iff_not,bne_eq_false_iff_eq];constructor
 .rintro ⟨⟨⟨⟨⟨⟨a,b⟩,c⟩,d⟩,e⟩,g⟩,h⟩
  exact⟨⟨⟨a,b⟩,c⟩,⟨aa,aa⟩,aa,aa⟩
 rintro ⟨⟨⟨a,b⟩,c⟩,⟨d,e⟩,g,h⟩
 exact⟨⟨⟨⟨⟨⟨a,b⟩,c⟩,aa⟩,aa⟩,aa⟩,aa⟩
theorem YV{ls:List Let}:(∀l∈ls,l.aC=true->nz ls l=true)↔(∀l∈ls,l.aC=true->cV f l=false)/\km ls=true:=by
 have F4:=Og ls;constructor
 .intro h;have dI:=fun l hl hc=>(Uw (f:=f) hc).1 (h l hl hc);have hp:CW ls:=by
   intro i j l m hi hj ef tn he jX;obtain⟨_,_,h3,h4⟩:=dI l (ba hi) ef;have e1:=MV l.id l.over ls;have g1:0<aA (ni l.id l.over) ls:=Bq.2 ⟨l,ba hi,l7.2 ⟨ef,rfl,rfl⟩⟩;obtain⟨x,hx,uE⟩:=Bq.1 (show 0<ls.countP (fG l) by show 0<aA (fG l) ls;omega);obtain⟨x1,x2,x3,x4⟩:=(Nq ef).1 uE;have g2:0<aA (ni l.id (!l.over)) ls:=Bq.2 ⟨x,hx,l7.2 ⟨x1,x2,x4⟩⟩;have u1:aA (ni l.id l.over) ls=1:=aa;have u2:aA (ni l.id (!l.over)) ls=1:=aa;have ho:l.over≠m.over:=by intro e;have:=(zX hi (l7.2 ⟨ef,rfl,rfl⟩)).1 u1 j m hj (l7.2 ⟨tn,he.symm,e.symm⟩);exact jX this.symm
   refine⟨ho,?_⟩;have je:m.over= !l.over:=by revert ho;cases l.over<;>cases m.over<;>simp
   obtain⟨p,hY⟩:=iV hx;have:=(zX hj (l7.2 ⟨tn,he.symm,je⟩)).1 u2 p x hY (l7.2 ⟨x1,x2,x4⟩);subst this;rw[hY] at hj;cases hj;exact x3.symm
  have abD:∀id∈dO ls ls.length,aA (jr id) ls=2:=by intro id hid;obtain⟨j,o,h1,h2⟩:=(Ga (bo _)).1 hid;obtain⟨m,hm,hc,hi,_⟩:=wX h2;rw[<- hi];exact(dI m (ba hm) hc).2.2.2
  rw[agq _ abD] at F4;refine⟨fun l hl hc=>(dI l hl hc).1,?_⟩;have hx:=(DC (ls:=ls)).2 ⟨fun l hl hc=>(dI l hl hc).2.1,hp⟩;rw[Ke aa hx];simp only[beq_iff_eq];omega
 rintro ⟨hb,hr⟩ l hl hc
 unfold km at hr;simp only[cA,beq_iff_eq,im,iN] at hr;obtain⟨⟨he,hx⟩,hlen⟩:=hr;obtain⟨hid,hp⟩:=DC.1 hx;have hle:∀id∈dO ls ls.length,aA (jr id) ls<=2:=fun id _=>by rw[Ig id];have:=vd hp id true;have:=vd hp id false;omega
 have h2:=O0 _ hle (by rw[F4,hlen];omega) l.id (HY hl hc);have e1:=MV l.id l.over ls;have b1:=vd hp l.id l.over;have b2:=vd hp l.id (!l.over);refine(Uw hc).2 ⟨hb l hl hc,hid l hl hc,?_,h2⟩;have u2:aA (ni l.id (!l.over)) ls=1:=aa;obtain⟨i,hi⟩:=iV hl;obtain⟨x,hx,uE⟩:=Bq.1 (show 0<ls.countP (ni l.id (!l.over)) by show 0<aA (ni l.id (!l.over)) ls;omega);obtain⟨p,hY⟩:=iV hx;obtain⟨x1,x2,x3⟩:=l7.1 uE;have fP:p≠i:=by
  rintro rfl
  rw[hi] at hY;cases hY;revert x3;cases l.over<;>simp
 have hsg:=(hp p i x l hY hi x1 hc x2 fP).2;refine(zX hY ((Nq hc).2 ⟨x1,x2,hsg,x3⟩)).2 fun j m hj hm=>?_;obtain⟨m1,m2,m3,m4⟩:=(Nq hc).1 hm;exact(zX hY uE).1 u2 j m hj (l7.2 ⟨m1,m2,m4⟩)
theorem yd{l:Let}(h:cV f l=false):l.aG=true\/l.aC=true:=by
 unfold Let.aG Let.aC;cases h1:(l.kind==1) with
 |true=>exact .inl rfl
 |false=>
  cases h2:(l.kind==2) with
  |true=>exact .inr rfl
  |false=>simp only[cV,h1,h2] at h;cases h
theorem Iv{l:Let}(hp:l.aG=true):l.aC=false:=by unfold Let.aG at hp;unfold Let.aC;simp only[beq_iff_eq] at hp;rw[hp];rfl
theorem Uz{ls:List Let}{l:Let}(hp:l.aG=true):dJ f ls l=qV f ls l:=by unfold Let.aG at hp;simp only[dJ,hp,if_true]
theorem Uy{ls:List Let}{l:Let}(hp:l.aC=true):dJ f ls l=nz ls l:=by
 unfold Let.aC at hp;have h1:(l.kind==1)=false:=by simp only[beq_iff_eq] at hp;rw[hp];rfl
 simp only[dJ,hp,h1,if_true];simp
theorem Ik{ls:List Let}:qR F ls=true↔ls.any (cV F)=false/\tL ls=true/\km ls=true:=by
 unfold qR;rw[im,zD];have e1:=ado (F:=F) (ls:=ls);have e2:=YV (f:=(F:Int)) (ls:=ls);constructor
 .intro h;have hk:=fun {l:Let} (hl:l∈ls)=>TS (f:=F) (ls:=ls) (im.2 h) (iV hl).choose_spec;obtain⟨p1,p2⟩:=e1.1 fun l hl hp=>by rw[<- Uz hp];exact h l hl
  obtain⟨c1,c2⟩:=e2.1 fun l hl hc=>by rw[<- Uy (f:=F) hc];exact h l hl
  refine⟨fun l hl=>?_,p2,c2⟩;rcases hk hl with hp|hc
  .rw[p1 l hl hp];simp
  rw[c1 l hl hc];simp
 rintro ⟨hb,hr,hc⟩ l hl
 have hb:∀l∈ls,cV F l=false:=fun l hl=>by simpa using hb l hl
 rcases yd (hb l hl) with hp|jm
 .rw[Uz hp];exact e1.2 ⟨fun l hl _=>hb l hl,hr⟩ l hl hp
 rw[Uy jm];exact e2.2 ⟨fun l hl _=>hb l hl,hc⟩ l hl jm
theorem afZ{o:List Nat}(hs:o.Pairwise (· < ·))(au:∀x∈o,x<o.length):∀(k:Nat) (h:k<o.length),o[k]=k:=by
 rw[Jo] at hs;have lo:∀(k:Nat) (h:k<o.length),k<=o[k]:=by
  intro k
  induction k with
  |zero=>intro _;omega
  |succ k ih=>intro h;have:=ih aa;have:=hs k (k+1) aa h aa;omega
 have hi:∀(d k:Nat) (h:k<o.length),k+d+1=o.length->o[k]<=k:=by
  intro d
  induction d with
  |zero=>intro k h e;have:=au _ (List.getElem_mem h);omega
  |succ d ih=>intro k h e;have:=ih (k+1) aa aa;have:=hs k (k+1) h aa aa;omega
 intro k h;have:=lo k h;have:=hi (o.length-k-1) k h aa;omega
theorem abX{key:Nat->Nat}{p:Nat->Bool}{i:Nat}:∀ {o:List Nat},o.Pairwise (fun a b=>key a<key b)->(∀x∈o,p x=decide (key x<key i))->(∀x∈o,key x≠key i)->
  (o.take (o.takeWhile p).length++i::o.drop (o.takeWhile p).length).Pairwise (fun a b=>key a<key b):=by
 intro o
 induction o with
 |nil=>intro _ _ _;simp
 |cons a o ih=>
  intro hs hp hn;rw[rA] at hs;have pa:=hp a DJ;have na:=hn a DJ;by_cases au:key a<key i
  .have pa':p a=true:=by rw[pa];simpa using au
   rw[List.takeWhile_cons,if_pos pa'];simp only[dN,List.take_succ_cons,List.drop_succ_cons,List.cons_append];rw[rA];refine⟨fun b hb=>?_,ih hs.2 (fun x hx=>hp x (DI _ hx)) (fun x hx=>hn x (DI _ hx))⟩;rcases fk.1 hb with hb|hb
   .exact hs.1 b (sJ hb)
   rcases dU.1 hb with rfl|hb
   .exact au
   exact hs.1 b (sI hb)
  have pa':¬p a=true:=by rw[pa];simpa using au
  rw[List.takeWhile_cons,if_neg pa'];simp only[fj,List.take_zero,List.drop_zero,xQ];rw[rA,rA];refine⟨fun b hb=>?_,hs⟩;rcases dU.1 hb with rfl|hb
  .omega
  have:=hs.1 b hb;omega
theorem A6{ls:List Let}{i:Nat}{l:Let}(h:ls[i]?=some l)(hp:l.aG=true):vA ls i=cU ls l:=by simp[vA,h,hp]
structure vX (F:Nat) (ls:List Let):Prop where
 gA:∀l∈ls,l.aG=true->nV F ls l
 inj:∀(i j:Nat) (l m:Let),ls[i]?=some l->ls[j]?=some m->l.aG=true->m.aG=true->cU ls l=cU ls m->i=j
theorem XN{ls:List Let}(h:vX F ls):∀k,k<=ls.length->(kP ls k).Pairwise (fun a b=>vA ls a<vA ls b):=by
 intro k
 induction k with
 |zero=>intro _;simp[kP]
 |succ k ih=>
  intro hk;have ih:=ih aa;rw[BN];obtain⟨l,hl⟩:=aL (show k<ls.length by omega);unfold uY;rw[hl];simp only;cases hp:l.aG with
  |false=>simpa using ih
  |true=>
   simp only[if_true];unfold uI;have hm:=fun {x:Nat} (hx:x∈kP ls k)=>(Pd (ls:=ls) (k:=k) aa).1 hx;refine abX ih (fun x hx=>?_) (fun x hx e=>?_)
   .obtain⟨h1,m,hm,uA⟩:=hm hx;rw[A6 hm uA,A6 hl hp];unfold vq;rw[hm,hl];simp only;have:=adH (h.gA m (ba hm) uA) (h.gA l (ba hl) hp);cases hb:A0 m l with
    |true=>simpa using this.1 hb
    |false=>symm;rw[decide_eq_false_iff_not];intro hc;rw[this.2 hc] at hb;cases hb
   obtain⟨h1,m,hm,uA⟩:=hm hx;rw[A6 hm uA,A6 hl hp] at e;have:=h.inj x k m l hm hl uA hp e;omega
theorem XM{ls:List Let}:∀k,k<=ls.length->(kP ls k).length=aA Let.aG (ls.take k):=by
 intro k
 induction k with
 |zero=>intro _;simp[kP,aA]
 |succ k ih=>
  intro hk;have ih:=ih aa;rw[BN];obtain⟨l,hl⟩:=aL (show k<ls.length by omega);unfold uY;rw[hl];simp only;cases hp:l.aG with
  |false=>rw[ie hl hp];simpa using ih
  |true=>simp only[if_true];rw[abR,nQ hl hp,ih]
theorem JA{ls:List Let}:(aD ls).length=aA Let.aG ls:=by have:=XM (ls:=ls) ls.length (bo _);rwa[ke] at this
theorem zO{ls:List Let}(h:mw F ls):eE ls (F+1)=(aD ls).length:=by
 rw[JA,Sd];apply List.countP_congr;intro l hl;cases hp:l.aG with
 |false=>simp
 |true=>have:=h l hl hp;simp only[Bool.true_and,cA,decide_eq_true_eq,iff_true];omega
theorem vX.mw{ls:List Let}(h:vX F ls):mw F ls:=fun l hl hp=>⟨(h.gA l hl hp).g0,(h.gA l hl hp).g1⟩
theorem zT{ls:List Let}(h:vX F ls){k i:Nat}(hk:(aD ls)[k]?=some i):∃l,ls[i]?=some l/\l.aG=true/\cU ls l=k:=by
 have hs:((aD ls).map (vA ls)).Pairwise (· < ·):=by rw[List.pairwise_map];exact XN h ls.length (bo _)
 have hT:=zO h.mw;have au:∀x∈(aD ls).map (vA ls),x<((aD ls).map (vA ls)).length:=by intro x hx;obtain⟨j,hj,rfl⟩:=iX.1 hx;obtain⟨l,hl,hp⟩:=rF.1 hj;rw[A6 hl hp,cq,<- hT];exact NC (h.gA l (ba hl) hp)
 obtain⟨bx,nj⟩:=bn.1 hk;have:=afZ hs au k (by rw[cq];exact bx);rw[xN,nj] at this;obtain⟨l,hl,hp⟩:=rF.1 (ba hk);exact⟨l,hl,hp,by rw[<- A6 hl hp];exact this⟩
theorem JC{ls:List Let}(h:vX F ls){i:Nat}{l:Let}(hl:ls[i]?=some l)(hp:l.aG=true):(aD ls)[cU ls l]?=some i:=by have au:=NC (h.gA l (ba hl) hp);rw[zO h.mw] at au;obtain⟨j,hj⟩:=aL au;obtain⟨m,hm,uA,he⟩:=zT h hj;rw[hj,h.inj j i m l hm hl uA hp he]
theorem BO{ls:List Let}(h:vX F ls){i:Nat}{l:Let}(hl:ls[i]?=some l)(hp:l.aG=true):(aD ls).idxOf i=cU ls l:=by have h1:=JC h hl hp;have h2:=Tp (ba h1);obtain⟨m,hm,uA,he⟩:=zT h h2;rw[hl] at hm;cases hm;exact he.symm
theorem XT{ls:List Let}(h:vX F ls):nL ls (eE ls (F+1)) ls.length=aD ls:=by
 apply sH
 .rw[O9,zO h.mw]
 intro k h1 h2;simp only[nL,xN,DG];obtain⟨l,hl,hp,he⟩:=zT h (ry h2);generalize (aD ls)[k]=i at hl;unfold DV;have qI:=(bn.1 hl).1;have hf:(List.range ls.length).find? (nZ ls k)=some i:=by
  refine ym qI (fun j hj=>?_) ?_
  .cases hh:nZ ls k j with
   |false=>rfl
   |true=>
    unfold nZ at hh;split at hh
    .rename_i m hm;simp only[cA,beq_iff_eq] at hh;have:=h.inj j i m l hm hl hh.1 hp (by rw[hh.2,he]);omega
    cases hh
  rw[Fz hl hp];simp[he]
 rw[hf];rfl
theorem IB{ls:List Let}(hr:km ls=true){i:Nat}{l:Let}(hl:ls[i]?=some l)(hc:l.aC=true):eU ls ls.length l.id (!l.over)=some (fL ls i)/\fL ls i<ls.length:=by
 have F4:=Og ls;unfold km at hr;simp only[cA,beq_iff_eq,im,iN] at hr;obtain⟨⟨he,hx⟩,hlen⟩:=hr;obtain⟨hid,hp⟩:=DC.1 hx;have hle:∀id∈dO ls ls.length,aA (jr id) ls<=2:=fun id _=>by rw[Ig id];have:=vd hp id true;have:=vd hp id false;omega
 have h2:=O0 _ hle (by rw[F4,hlen];omega) l.id (HY (ba hl) hc);have e1:=MV l.id l.over ls;have b1:=vd hp l.id l.over;have b2:=vd hp l.id (!l.over);obtain⟨x,hx,uE⟩:=Bq.1 (show 0<ls.countP (ni l.id (!l.over)) by show 0<aA (ni l.id (!l.over)) ls;omega);obtain⟨p,hY⟩:=iV hx;obtain⟨x1,x2,x3⟩:=l7.1 uE;have hpn:=(bn.1 hY).1;have fP:p≠i:=by
  rintro rfl
  rw[hl] at hY;cases hY;revert x3;cases l.over<;>simp
 have uniq:∀(j:Nat) (m:Let),ls[j]?=some m->m.aC=true->m.id=l.id->j≠i->j=p:=by intro j m hj mc mi vf;refine Decidable.byContradiction fun aR=>?_;have o1:=(hp j i m l hj hl mc hc mi vf).1;have o2:=(hp j p m x hj hY mc x1 (by rw[mi,x2]) aR).1;rw[x3] at o2;revert o1 o2;cases m.over<;>cases l.over<;>simp
 have uv:(List.range ls.length).find? (uK ls i)=some p:=by
  refine ym hpn (fun j hj=>?_) ?_
  .cases hh:uK ls i j with
   |false=>rfl
   |true=>
    unfold uK at hh;simp only[cA,bne_iff_ne,ne_eq] at hh;obtain⟨h1,h2⟩:=hh;split at h2
    .rename_i m hm;simp only[cA,beq_iff_eq,hl,kM,kL] at h2;have:=uniq j m hm h2.1 h2.2 h1;omega
    cases h2
  unfold uK;rw[hY];simp[fP,x1,hl,x2]
 have ho:fL ls i=p:=by unfold fL;rw[uv];rfl
 rw[ho];refine⟨?_,hpn⟩;unfold eU;refine ym hpn (fun j hj=>?_) ?_
 .cases hh:mz ls l.id (!l.over) j with
  |false=>rfl
  |true=>
   obtain⟨m,hm,mc,mi,mo⟩:=wX hh;have vf:j≠i:=by
    rintro rfl
    rw[hl] at hm;cases hm;revert mo;cases l.over<;>simp
   have:=uniq j m hm mc mi vf;omega
 rw[Cs hY];exact uE
end
end Go.Abs
