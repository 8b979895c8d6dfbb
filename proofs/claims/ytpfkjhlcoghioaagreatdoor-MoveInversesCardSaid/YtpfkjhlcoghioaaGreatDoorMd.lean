/-
  Sorting in place.
-/
import Derived.Test.YtpfkjhlcoghioaaGreatDoorMc
import Derived.Shelf.GgSortFunc.RowK
import Derived.Shelf.SlSortCmp.Insertion
import Derived.Sort.Statements
set_option linter.all false
open List renaming length->I
set_option maxRecDepth 100000
namespace Go.Abs
variable{f h:Nat}{j:World}{m:a7}
abbrev air:=List (Nat×dG×RV)
def Sh(S:Sys)(l:air):Prop:=∀e∈l,aC S e.1 e.2.1 e.2.2
def Sh.nil{S:Sys}:Sh S []:=λe h=>by simp at h
def Sh.cons{S:Sys}{l:air}{a:dG}{r:RV}(h:aC S f a r)(hl:Sh S l):Sh S ((f,a,r)::l):=λe H=>by
 rcases dh.1 H with rfl|H
 .exact h
 exact hl e H
open Go.Sort
def av5{id g f:Nat}{E n:dy}{W v:World}{y:Array Value}(L:dW j m)(A:m.blk id=(g,some (.arr h f E)))(hl:I n=I E)(N:∀e∈n,I e=f)
  (Z:W.os=m.w.os) (z:W.tape=m.w.tape) (Q:W.output=m.w.output) (af:W.heap.size=m.w.heap.size) (F:∀c,c≠m.σ id->W.heap[c]?=m.w.heap[c]?) (O:W.heap[m.σ id]?=some (.cells y h (0,0))) (H:y.size=m.κ id*f)
  (R:∀own,eJ W own n.flatten (y.toList.take (I n*f))) (D:jQ W v):EX j m (.tup []) (dz m.blk id (g,some (.arr h f n))) (.returned (.tuple #[])) v:=by
 have B:(m.blk id).2=some (.arr h f E):=by rw[A]
 obtain⟨ab,hh,mF,wm,T,Y,Kd,Ck⟩:=L.obj id _ B;have kM:=NT (m:=m.kS W id (.arr h f n)) (X:=λ_=>False) D (λc M=>M.elim);refine⟨.tuple #[],(m.kS W id (.arr h f n)).later v (λ_=>False),rfl,rfl,Po (OU B rfl L aH1 Z z Q af F ⟨y,O,mF,N,by rw[hl];exact T,Y,H,R _⟩) D (λc M=>M.elim),(Mj (o:=.arr h f n) B rfl aH1 Z z Q af F).trans kM,?_,?_,(⟨#[],rfl,rfl,λad x u M=>by simp at M⟩:c9 _ (.tup []) _)⟩
 .funext c;simp[a7.later,a7.kS]
 simp[a7.later,a7.kS,A]
def uf(p:Int×Int):List Value:=[.int .i64 p.1,.int .i64 p.2]
abbrev xH(p:Int×Int):dR:=[.int .i64 p.1,.int .i64 p.2]
def amn(p:Int×Int)(j:Nat):(uf p)[j%2]! =.int .i64 (if j%2=0 then p.1 else p.2):=by rcases rN j with h|h<;>simp[uf,h]
def apv:∀(l:jn) (j:Nat),j<I l*2->(l.map xH).flatten[j]?=some (.int .i64 (if j%2=0 then(l[j/2]!).1 else(l[j/2]!).2)):=by
 intro l
 induction l with
 |nil=>intro j h;simp at h
 |cons p l f=>
  intro j h;rw[fq,tR]
  match j with
  |0=>simp
  |1=>simp
  |j+2=>
   rw[uJ aG];have H:=f j (by simp at h;omega)
   simp_all
def alF(l:jn):(l.map xH).flatten.length=I l*2:=by
 induction l with
 |nil=>rfl
 |cons p l f=>rw[fq,tR,iM,f];simp;omega
def aya{w:World}{own:Nat->Prop}{k:IntKind}{n:Int}{v:Value}(h:dd w own (.int k n) v):v=.int k n:=by cases h;rfl
def atu{id g:Nat}{d:Array (Int×Int)}(A:dW j m)(z:m.blk id=(g,some (.arr h 2 (d.toList.map xH)))):HoldsK uf 2 m.w (m.σ id) 0 d:=by
 obtain⟨f,v,M,D,y,B,E,u⟩:=A.obj id _ (by rw[z]);rw[ct]at y u;intro x n;rw[size_flatK]at n;have R:x<I d.toList*2:=at9
 have H:(f.toList.take (I d.toList*2))[x]?=some f[x]:=ii
 refine⟨?_,?_⟩
 .rw[lh,KP v,get_flatK _ _ _ _ n,amn,Zh J,aya (u.2 x _ _ (apv d.toList x R) H)]
  grind
 unfold World.frozen?;rw[v];simp
def amw(O:Nat)(d f:Array Value):(putCells _root_.id O d f).size=f.size:=by simp[putCells]
def aCC{id g n:Nat}{d D:Array (Int×Int)}{os:Array Obj}(E:dW j m)(A:m.blk id=(g,some (.arr h 2 (d.toList.map xH))))(z:D.size=d.size):
  EX j m (.tup []) (dz m.blk id (g,some (.arr h 2 (D.toList.map xH)))) (.returned (.tuple #[])) (grow (putRowK uf 2 (Sort.ahead m.w n) (m.σ id) 0 D) os):=by
 obtain⟨f,T,Z,wm,N,rR,O,Q⟩:=E.obj id _ (by rw[A]);rw[ct]at N Q;have Y:I D.toList=I d.toList:=by simpa using z
 have F:(putRowK uf 2 (Sort.ahead m.w n) (m.σ id) 0 D).heap=m.w.heap.modify (m.σ id) (onCells (putCells _root_.id 0 (flatK uf 2 D))):=rfl;refine av5 (W:=putRowK uf 2 (Sort.ahead m.w n) (m.σ id) 0 D) (y:=putCells _root_.id 0 (flatK uf 2 D) f) E A (by simp[z]) (λe he=>?_) rfl rfl rfl ?_ (λc hc=>?_) ?_ ?_ (λown=>?_) ?_
 .grind
 .rw[F];simp
 .grind
 .rw[F,Array.getElem?_modify,aI rfl,T];rfl
 .rw[amw,O]
 .rw[ct];have eh:I D.toList*2<=f.size:=by rw[O,Y];exact oo _ N
  refine⟨?_,λB x u v H=>?_⟩
  .have X:=amw 0 (flatK uf 2 D) f;have R:(putCells _root_.id 0 (flatK uf 2 D) f).toList.length=f.size:=by rw[RE,X]
   rw[alF,ko,R];omega
  have y:B<I D.toList*2:=by rw[<-alF];exact(bN.1 v).1
  rw[apv _ _ y]at v;cases v;have M:B<D.size*2:=by simpa using y
  rw[List.getElem?_take_of_lt y,Mc]at H;unfold putCells at H;rw[Array.getElem?_mapIdx,Zh J]at H;simp only[vB,bj,lh,size_flatK,M,and_self,if_true,WG,jb]at H;subst H;rw[get_flatK _ _ _ _ M,amn];have L:B/2<D.size:=J;have e:D.toList[B/2]! =D[B/2]! :=by rw[getElem!_pos D.toList _ (by simpa using L),getElem!_pos D _ L];simp
  rw[e];exact dd.int _ _
 have:=jQ.akB (putRowK uf 2 (Sort.ahead m.w n) (m.σ id) 0 D) 0 os;exact this
open Go.Sort Go.Proofs
def I6:dy->Option jn
 |[]=>some []
 |[.int .i64 a,.int .i64 b]::r=>(I6 r).map λl=>(a,b)::l
 |_=>none
def atT:∀ {E:dy}{l:jn},I6 E=some l->E=l.map xH:=by
 intro E
 induction E with
 |nil=>intro l h;cases h;rfl
 |cons e r j=>
  intro l h;unfold I6 at h;split at h
  .rename_i f;cases f
  .rename_i a b R f;cases f;cases H:I6 r with
   |none=>rw[H]at h;cases h
   |some L=>rw[H]at h;cases h;rw[fq,<-j H]
  cases h
def aAk(l:jn):I6 (l.map xH)=some l:=by
 induction l with
 |nil=>rfl
 |cons p r f=>rw[fq];unfold I6;rw[f];rfl
def DQ(p:Int×Int):Bool:=decide (-1000000000000<=p.1)&&decide (p.1<=1000000000000)&&(decide (-1000000000000<=p.2)&&decide (p.2<=1000000000000))
def M5(lt:Int×Int->Int×Int->Bool)(x:Int×Int):jn->jn
 |[]=>[x]
 |y::r=>bif lt y x then y::M5 lt x r else x::y::r
def sh(lt:Int×Int->Int×Int->Bool):jn->jn
 |[]=>[]
 |x::r=>M5 lt x (sh lt r)
def apl(lt:Int×Int->Int×Int->Bool)(x:Int×Int):∀l,(M5 lt x l).Perm (x::l):=by
 intro l
 induction l with
 |nil=>exact LJ _
 |cons y r f=>
  unfold M5
  grind
def aeu(lt:Int×Int->Int×Int->Bool):∀l,(sh lt l).Perm l:=by
 intro l
 induction l with
 |nil=>exact LJ _
 |cons x r f=>exact(apl lt x _).trans (List.Perm.cons x f)
def YN(lt:Int×Int->Int×Int->Bool)(l:jn):I (sh lt l)=I l:=(aeu lt l).length_eq
def TP(f g:Nat)(F:Nat)(A:dG):Bool:=Nat.beq F f&&match A with
 |[.one (.hsl _ _ 2 0 _),.one (.p (.fn g' [] []))]=>Nat.beq g' g
 |[.one (.p .nils),.one (.p (.fn g' [] []))]=>Nat.beq g' g
 |_=>false
def CP(lt:Int×Int->Int×Int->Bool)(A:dG)(al:cD)(blk:aH):Option (V×lq):=match A with
 |[.one (.hsl id g 2 0 len),_]=>match blk id with
  |(g',some (.arr h 2 E))=>bif Nat.beq g' g&&Nat.beq len (I E)&&Nat.blt len 4611686018427387904&&al.ok id then
    match I6 E with
    |some l=>bif l.all DQ then some (.tup [],[(id,(g,some (.arr h 2 ((sh lt l).map xH))))])else none
    |none=>none
   else none
  |_=>none
 |[.one (.p .nils),_]=>some (.tup [],[])
 |_=>none
def ax7{lt:Int×Int->Int×Int->Bool}{A:dG}{al:cD}{blk:aH}{v:V}{u:lq}(H:CP lt A al blk=some (v,u)):(∃id g len x h l,A=[.one (.hsl id g 2 0 len),x]/\blk id=(g,some (.arr h 2 (l.map xH)))/\len=I l/\len<4611686018427387904/\l.all DQ/\al.ok id/\v=.tup []/\u=[(id,(g,some (.arr h 2 ((sh lt l).map xH))))])\/ ∃x,A=[.one (.p .nils),x]/\v=.tup []/\u=[]:=by
 unfold CP at H;split at H
 .rename_i id g len x;split at H
  .rename_i g' h E y;cases j:(Nat.beq g' g&&Nat.beq len (I E)&&Nat.blt len 4611686018427387904&&al.ok id)with
   |false=>rw[j]at H;cases H
   |true=>
    rw[j]at H;simp only[cF]at j;obtain⟨⟨⟨B,hl⟩,m⟩,n⟩:=j;obtain rfl:=zj B;have hl:=zj hl;have m:=jg m;simp only[cond_true]at H;split at H
    .rename_i l hp;cases f:l.all DQ with
     |false=>rw[f]at H;cases H
     |true=>rw[f]at H;cases H;have z:=atT hp;subst z;exact .inl ⟨id,g',len,x,h,l,rfl,y,by simpa using hl,m,f,n,rfl,rfl⟩
    cases H
  cases H
 .cases H;exact .inr ⟨_,rfl,rfl,rfl⟩
 cases H
def agC{lt:Int×Int->Int×Int->Bool}{id g len:Nat}{x:V}{l:jn}{al:cD}{blk:aH}(n:blk id=(g,some (.arr h 2 (l.map xH))))(hl:len=I l)(f:len<4611686018427387904)(H:l.all DQ)(j:al.ok id):CP lt [.one (.hsl id g 2 0 len),x] al blk=some (.tup [],[(id,(g,some (.arr h 2 ((sh lt l).map xH))))]):=by subst hl;have m:Nat.blt (I l) 4611686018427387904:=aaG f;simp[CP,n,ct,RX,m,j,Bu,cond_true,aAk,H]
def adA(P:Program)(lt:Int×Int->Int×Int->Bool)(f g:Nat):Prop:=Enters P f/\(∀(w:World),Calls P f #[.slice none 0 0,.func (.func g) #[] #[]] w λe h=>e=.returned (.tuple #[])/\h=w)/\ ∀(w:World) (blk j:Nat) (d:Array (Int×Int)),HoldsK uf 2 w blk 0 d->blk<w.heap.size->d.size<4611686018427387904->d.toList.all DQ->
 Calls P f #[.slice (some ⟨blk,0,none⟩) d.size j,.func (.func g) #[] #[]] w λe h=>e=.returned (.tuple #[])/\ ∃n os,h=grow (putRowK uf 2 (Sort.ahead w n) blk 0 (sh lt d.toList).toArray) os
def aAz{S:Sys}{G:World->Prop}{lt:Int×Int->Int×Int->Bool}{g:Nat}(hC:adA S.P lt f g)(ht:S.trig=TP f g)(hp:S.primS=λ_=>CP lt):anw S G:=by
 intro f' vs al blk v ak L ag;have oZ:S.primS f' vs al blk=CP lt vs al blk:=by rw[hp]
 rw[oZ]at ag;rw[ht]at L;cases hr:CP lt vs al blk with
 |none=>rw[hr]at ag;cases ag
 |some r=>
 rw[hr]at ag;cases ag;rcases ax7 hr with⟨id,gg,len,x,h,l,rfl,Y,hl,T,Q,Z,hv,hu⟩|⟨x,rfl,hv,hu⟩
 .unfold TP at L;rw[cF]at L;obtain⟨hf,F⟩:=L;obtain rfl:=zj hf;rw[hv,hu];refine⟨⟨hC.1,λj m y hG N tF M=>?_⟩,λi E=>?_,λD X=>?_⟩
  .subst tF;split at F
   .rename_i gT an ap g' H;cases H;obtain rfl:=zj F;obtain⟨a1,z⟩:=M
    match AZ:y.toList,a1,z with
    |[O,R],_,z=>
     have r1:gh m (.hsl id gg 2 0 len) O:=z 0 _ _ rfl rfl;have r2:gh m (.p (.fn g' [] [])) R:=z 1 _ _ rfl rfl;have Zf:y= #[O,R]:=by apply XN.1;rw[AZ]
     subst Zf;have pZ:m.blk id=(gg,some (.arr h 2 (l.toArray.toList.map xH))):=by simpa using Y
     obtain⟨am,hh,_⟩:=N.obj id _ (by rw[pZ]);cases r1 with
     |hsl a ad ke Cj hm fp=>
      obtain⟨_,Gr,aj⟩:=fp 2 (by rw[Y]) (by rw[Y];rfl);have M:=Gr (.inl rfl);rw[EF]at M;subst M;cases r2 with
      |p hq=>
       cases hq with
       |fn A B hA hB _ _=>
        obtain rfl:A= #[]:=W3 hA;obtain rfl:B= #[]:=W3 hB;subst hl;have hc:=hC.2.2 m.w (m.σ id) ad l.toArray (atu N pZ) (yz hh) (by simpa using T) (by simpa using Q);rw[show l.toArray.size=I l from aeA]at hc;refine hc.mono ?_;rintro e w' ⟨rfl,n,os,rfl⟩
        have af:=aCC (n:=n) (os:=os) (D:=(sh lt l).toArray) N pZ (by simp[YN]);have ir:EX j m (.tup []) (dz m.blk id (gg,some (.arr h 2 ((sh lt l).map xH)))) (.returned (.tuple #[])) (grow (putRowK uf 2 (Sort.ahead m.w n) (m.σ id) 0 (sh lt l).toArray) os):=by simpa using af
        exact ir
   .rename_i H;cases H
   cases F
  .show dz blk id _ i=_;rw[bG,aE];rintro rfl
   rw[Z]at E;cases E
  have bh:D id=(gg,some (.arr h 2 (l.map xH))):=by rw[X id Z];exact Y
  refine⟨_,by rw[hp];show Option.map _ (CP lt _ al D)=_;rw[agC bh hl T Q Z];rfl,λi=>?_⟩;show dz D id _ i=if al.ok i then dz blk id _ i else D i;simp only[bG];by_cases E:i=id
  .subst E;rw[aI rfl,aI Z,aI rfl]
  rw[aE E,aE E];split
  .rename_i h3;exact X i h3
  rfl
 unfold TP at L;rw[cF]at L;obtain⟨hf,F⟩:=L;obtain rfl:=zj hf;rw[hv,hu];refine⟨⟨hC.1,λj m y hG N tF M=>?_⟩,λi E=>rfl,λD X=>⟨D,by rw[hp];rfl,λi=>?_⟩⟩
 .subst tF;split at F
  .rename_i H;cases H
  .rename_i g' H;cases H;obtain rfl:=zj F;obtain⟨a1,z⟩:=M
   match AZ:y.toList,a1,z with
   |[O,R],_,z=>
    have r1:gh m (.p .nils) O:=z 0 _ _ rfl rfl;have r2:gh m (.p (.fn g' [] [])) R:=z 1 _ _ rfl rfl;have Zf:y= #[O,R]:=by apply XN.1;rw[AZ]
    subst Zf;cases r1 with
    |p ab=>
    cases ab;cases r2 with
    |p hq=>
     cases hq with
     |fn A B hA hB _ _=>
      obtain rfl:A= #[]:=W3 hA;obtain rfl:B= #[]:=W3 hB;refine(hC.2.1 m.w).mono ?_;rintro e w' ⟨rfl,rfl⟩
      exact⟨.tuple #[],m,rfl,rfl,N,hs.refl m,rfl,rfl,(⟨#[],rfl,rfl,λar x u ag=>by simp at ag⟩:c9 _ (.tup []) _)⟩
  cases F
 show D i=if al.ok i then blk i else D i;split
 .rename_i h3;exact X i h3
 rfl
abbrev BP:={p:Int×Int//DQ p=true}
instance:Inhabited BP:=⟨⟨(0,0),rfl⟩⟩
abbrev TS(p:BP):List Value:=uf p.1
def cfP(x y:BP):Int:=if x.1.1=y.1.1 then x.1.2-y.1.2 else x.1.1-y.1.1
def oD(x y:Int×Int):Bool:=if x.1=y.1 then decide (x.2<y.2)else decide (x.1<y.1)
def OL(x y:BP):ltOf cfP x y=oD x.1 y.1:=by
 unfold ltOf cfP oD;split
 .exact decide_eq_decide.2 ⟨λh=>J,λh=>J⟩
 exact decide_eq_decide.2 ⟨λh=>J,λh=>J⟩
def amy(d:Array BP):flatK TS 2 d=flatK uf 2 (d.map (·.1)):=by
 unfold flatK;rw[Array.size_map];apply Array.ext
 .simp
 intro i H f;simp only[Array.getElem_map,Array.getElem_range];have h:i/2<d.size:=by simp at H;omega
 rw[getElem!_pos d _ h,getElem!_pos (d.map (·.1)) _ Do];simp
def awd(d:Array (Int×Int))(h:d.toList.all DQ):∃D:Array BP,D.map (·.1)=d:=by refine⟨d.attach.map λp=>⟨p.1,mz.1 h p.1 (by simpa using p.2)⟩,?_⟩;rw[Array.map_map];exact Array.attach_map_subtype_val d
def PC(x y:Int×Int):oD x y↔x.1<y.1\/(x.1=y.1/\x.2<y.2):=by
 unfold oD
 grind
def Sj(x y:Int×Int):oD x y=false↔ ¬(x.1<y.1\/(x.1=y.1/\x.2<y.2)):=by rw[<-PC];simp
abbrev Ha(x y:Int×Int):Bool:= !oD y x
def Bz(x y:Int×Int):Ha x y↔x.1<y.1\/(x.1=y.1/\x.2<=y.2):=by rw[gH,Sj];omega
def aDu:∀ {l m:jn},l.Perm m->l.Pairwise (λx y=>Ha x y=true)->m.Pairwise (λx y=>Ha x y=true)->l=m:=by
 intro l
 induction l with
 |nil=>intro m h _ _;exact(List.nil_perm.1 h).symm
 |cons a l f=>
  intro m h hl H;cases m with
  |nil=>exact absurd h.length_eq aG
  |cons b m=>
   have D:a=b:=by
    rcases dh.1 (h.subset (Lo ..))with e|e
    .exact e
    rcases dh.1 (h.symm.subset (Lo ..))with E|E
    .exact E.symm
    have n:=(Bz _ _).1 ((iR.1 hl).1 b E);have j:=(Bz _ _).1 ((iR.1 H).1 a e);exact Prod.ext J J
   subst D;rw[f ((List.perm_cons a).1 h) (iR.1 hl).2 (iR.1 H).2]
def aAL(x:Int×Int):∀ {l:jn},l.Pairwise (λx y=>Ha x y=true)->(M5 oD x l).Pairwise (λx y=>Ha x y=true):=by
 intro l
 induction l with
 |nil=>intro _;exact FE _ _
 |cons y r n=>
  intro h;obtain⟨j,m⟩:=iR.1 h;unfold M5;cases f:oD y x with
  |false=>
   refine iR.2 ⟨λz H=>?_,h⟩;rw[Bz];have f:=(Sj _ _).1 f;rcases dh.1 H with rfl|H
   .omega
   have:=(Bz _ _).1 (j z H);omega
  |true=>
   refine iR.2 ⟨λz H=>?_,n m⟩;rcases dh.1 ((apl oD x r).subset H)with rfl|H
   .rw[Bz];have:=(PC _ _).1 f;omega
   exact j z H
def ahZ:∀(l:jn),(sh oD l).Pairwise (λx y=>Ha x y=true):=by
 intro l
 induction l with
 |nil=>exact List.Pairwise.nil
 |cons x r f=>exact aAL x f
def aDK(l:jn):sh oD l=l.mergeSort Ha:=by refine aDu ((aeu oD l).trans (List.mergeSort_perm l Ha).symm) (ahZ l) ?_;exact List.pairwise_mergeSort (λa b c h H=>by rw[Bz]at*;omega) (λa b=>by rw[nK,Bz,Bz];omega) l
def aB1(l:List BP):(l.mergeSort λx y=> !oD y.1 x.1).map (·.1)=sh oD (l.map (·.1)):=by rw[aDK];exact List.map_mergeSort λa _ b _=>rfl
def swoP:SWO (ltOf cfP) where
 irrefl x:=by rw[OL,Sj];omega
 trans x y z H h:=by rw[OL,PC]at*;omega
 ntrans x y z H h:=by rw[OL,Sj]at*;omega
def totP(x y:BP)(h:ltOf cfP x y=false)(H:ltOf cfP y x=false):x=y:=by rw[OL,Sj]at h H;exact Subtype.ext (Prod.ext J J)
def aue{w:World}{blk:Nat}{d:Array BP}(h:HoldsK uf 2 w blk 0 (d.map (·.1))):HoldsK TS 2 w blk 0 d:=by unfold HoldsK at h |-;rw[amy];exact h
def putS{w:World}{blk:Nat}(d:Array BP):putRowK TS 2 w blk 0 (d.toList.mergeSort λx y=> !(ltOf cfP) y x).toArray=putRowK uf 2 w blk 0 (sh oD (d.map (·.1)).toList).toArray:=by
 unfold putRowK;rw[amy];congr 2;have:(λx y:BP=> !(ltOf cfP) y x)=λx y=> !oD y.1 x.1:=by funext x y;rw[OL]
 rw[this,Array.toList_map,<-aB1];simp
end Go.Abs
