/-
  Sorting in place.
-/
import Derived.Test.YtenindeoffokoaaGreatDoorMc
import Derived.Shelf.GgSortFunc.RowK
import Derived.Shelf.SlSortCmp.Insertion
import Derived.Sort.Statements
set_option linter.all false
open List renaming length->I
set_option maxRecDepth 100000
namespace Go.Abs
variable{f h:Nat}{j:World}{m:a_}
abbrev ady:=List (Nat×dZ×RV)
def Py(S:Sys)(l:ady):Prop:=∀e∈l,aL S e.1 e.2.1 e.2.2
def Py.nil{S:Sys}:Py S []:=λe h=>by simp at h
def Py.cons{S:Sys}{l:ady}{a:dZ}{r:RV}(h:aL S f a r)(hl:Py S l):Py S ((f,a,r)::l):=λe H=>by
 rcases c7.1 H with rfl|H
 .exact h
 exact hl e H
open Go.Sort
def aA5{id g f:Nat}{E n:dI}{W y:World}{v:Array Value}(L:ez j m)(B:m.blk id=(g,some (.arr h f E)))(hl:I n=I E)(fi:∀e∈n,I e=f)
  (Z:W.os=m.w.os) (A:W.tape=m.w.tape) (Q:W.output=m.w.output) (ae:W.heap.size=m.w.heap.size) (F:∀c,c≠m.σ id->W.heap[c]?=m.w.heap[c]?) (jU:W.heap[m.σ id]?=some (.cells v h (0,0))) (H:v.size=m.κ id*f)
  (O:∀own,eL W own n.flatten (v.toList.take (I n*f))) (D:jv W y):CZ j m (.tup []) (dV m.blk id (g,some (.arr h f n))) (.returned (.tuple #[])) y:=by
 have z:(m.blk id).2=some (.arr h f E):=by rw[B]
 obtain⟨R,hh,N,vI,Y,T,JD,BH⟩:=L.obj id _ z;have kr:=K6 (m:=m.kD W id (.arr h f n)) (X:=λ_=>False) D (λc M=>M.elim);refine⟨.tuple #[],(m.kD W id (.arr h f n)).later y (λ_=>False),rfl,rfl,NH (Ob z rfl L (by simp[lW]) Z A Q ae F ⟨v,jU,N,fi,by rw[hl];exact Y,T,H,O _⟩) D (λc M=>M.elim),(Ly (o:=.arr h f n) z rfl (by simp[lW]) Z A Q ae F).trans kr,?_,?_,(⟨#[],rfl,rfl,λab x u M=>by simp at M⟩:df _ (.tup []) _)⟩
 .funext c;simp[a_.later,a_.kD]
 simp[a_.later,a_.kD,B]
def tF(p:Int×Int):List Value:=[.int .i64 p.1,.int .i64 p.2]
abbrev wD(p:Int×Int):dW:=[.int .i64 p.1,.int .i64 p.2]
def ac8(p:Int×Int)(j:Nat):(tF p)[j%2]! =.int .i64 (if j%2=0 then p.1 else p.2):=by rcases qL j with h|h<;>simp[tF,h]
def ada:∀(l:jd) (j:Nat),j<I l*2->(l.map wD).flatten[j]?=some (.int .i64 (if j%2=0 then(l[j/2]!).1 else(l[j/2]!).2)):=by
 intro l
 induction l with
 |nil=>intro j h;simp at h
 |cons p l f=>
  intro j h;rw[eZ,xX]
  match j with
  |0=>simp
  |1=>simp
  |j+2=>
   rw[qQ aE];have H:=f j (by simp at h;omega)
   simp_all
def alJ(l:jd):(l.map wD).flatten.length=I l*2:=by
 induction l with
 |nil=>rfl
 |cons p l f=>rw[eZ,xX,gb,f];simp;omega
def awi{w:World}{own:Nat->Prop}{k:IntKind}{n:Int}{v:Value}(h:dh w own (.int k n) v):v=.int k n:=by cases h;rfl
def ax2{id g:Nat}{d:Array (Int×Int)}(A:ez j m)(x:m.blk id=(g,some (.arr h 2 (d.toList.map wD)))):HoldsK tF 2 m.w (m.σ id) 0 d:=by
 obtain⟨f,u,E,z,M,Q,D,B⟩:=A.obj id _ (by rw[x]);rw[cg]at M B;intro v n;rw[size_flatK]at n;have y:v<I d.toList*2:=by simpa using n
 have H:(f.toList.take (I d.toList*2))[v]?=some f[v]:=by grind
 refine⟨?_,?_⟩
 .rw[jN,I2 u,get_flatK _ _ _ _ n,ac8,W8 J,awi (B.2 v _ _ (ada d.toList v y) H)]
  grind
 unfold World.frozen?;rw[u];simp
def al6(O:Nat)(d f:Array Value):(putCells _root_.id O d f).size=f.size:=by simp[putCells]
def ax4{id g n:Nat}{d D:Array (Int×Int)}{os:Array Obj}(A:ez j m)(B:m.blk id=(g,some (.arr h 2 (d.toList.map wD))))(z:D.size=d.size):
  CZ j m (.tup []) (dV m.blk id (g,some (.arr h 2 (D.toList.map wD)))) (.returned (.tuple #[])) (grow (putRowK tF 2 (Sort.ahead m.w n) (m.σ id) 0 D) os):=by
 obtain⟨f,R,mB,vI,M,qu,F,T⟩:=A.obj id _ (by rw[B]);rw[cg]at M T;have Z:I D.toList=I d.toList:=by simpa using z
 have L:(putRowK tF 2 (Sort.ahead m.w n) (m.σ id) 0 D).heap=m.w.heap.modify (m.σ id) (onCells (putCells _root_.id 0 (flatK tF 2 D))):=rfl;refine aA5 (W:=putRowK tF 2 (Sort.ahead m.w n) (m.σ id) 0 D) (v:=putCells _root_.id 0 (flatK tF 2 D) f) A B (by simp[z]) (λe he=>?_) rfl rfl rfl ?_ (λc hc=>?_) ?_ ?_ (λown=>?_) ?_
 .grind
 .rw[L];simp
 .grind
 .rw[L,Array.getElem?_modify,aD rfl,R];rfl
 .rw[al6,F]
 .rw[cg];have Y:I D.toList*2<=f.size:=by rw[F,Z];exact nR _ M
  refine⟨?_,λE x u v H=>?_⟩
  .have X:=al6 0 (flatK tF 2 D) f;have Q:(putCells _root_.id 0 (flatK tF 2 D) f).toList.length=f.size:=by rw[NK,X]
   rw[alJ,jO,Q];omega
  have y:E<I D.toList*2:=by rw[<-alJ];exact(bt.1 v).1
  rw[ada _ _ y]at v;cases v;have O:E<D.size*2:=by simpa using y
  rw[List.getElem?_take_of_lt y,IF]at H;unfold putCells at H;rw[Array.getElem?_mapIdx,W8 J]at H;simp only[wy,bZ,jN,size_flatK,O,and_self,if_true,OO,iW]at H;subst H;rw[get_flatK _ _ _ _ O,ac8];have N:E/2<D.size:=J;have e:D.toList[E/2]! =D[E/2]! :=by rw[getElem!_pos D.toList _ (by simpa using N),getElem!_pos D _ N];simp
  rw[e];exact dh.int _ _
 have:=jv.aiR (putRowK tF 2 (Sort.ahead m.w n) (m.σ id) 0 D) 0 os;exact this
open Go.Sort Go.Proofs
def Ht:dI->Option jd
 |[]=>some []
 |[.int .i64 a,.int .i64 b]::r=>(Ht r).map λl=>(a,b)::l
 |_=>none
def arD:∀ {E:dI}{l:jd},Ht E=some l->E=l.map wD:=by
 intro E
 induction E with
 |nil=>intro l h;cases h;rfl
 |cons e r j=>
  intro l h;unfold Ht at h;split at h
  .rename_i f;cases f
  .rename_i a b R f;cases f;cases H:Ht r with
   |none=>rw[H]at h;cases h
   |some L=>rw[H]at h;cases h;rw[eZ,<-j H]
  cases h
def av7(l:jd):Ht (l.map wD)=some l:=by
 induction l with
 |nil=>rfl
 |cons p r f=>rw[eZ];unfold Ht;rw[f];rfl
def CX(p:Int×Int):Bool:=decide (-1000000000000<=p.1)&&decide (p.1<=1000000000000)&&(decide (-1000000000000<=p.2)&&decide (p.2<=1000000000000))
def Kt(lt:Int×Int->Int×Int->Bool)(x:Int×Int):jd->jd
 |[]=>[x]
 |y::r=>bif lt y x then y::Kt lt x r else x::y::r
def rK(lt:Int×Int->Int×Int->Bool):jd->jd
 |[]=>[]
 |x::r=>Kt lt x (rK lt r)
def alZ(lt:Int×Int->Int×Int->Bool)(x:Int×Int):∀l,(Kt lt x l).Perm (x::l):=by
 intro l
 induction l with
 |nil=>exact CW _
 |cons y r f=>
  unfold Kt
  grind
def aay(lt:Int×Int->Int×Int->Bool):∀l,(rK lt l).Perm l:=by
 intro l
 induction l with
 |nil=>exact CW _
 |cons x r f=>exact(alZ lt x _).trans (List.Perm.cons x f)
def YD(lt:Int×Int->Int×Int->Bool)(l:jd):I (rK lt l)=I l:=(aay lt l).length_eq
def UK(f g:Nat)(F:Nat)(A:dZ):Bool:=Nat.beq F f&&match A with
 |[.one (.hsl _ _ 2 0 _),.one (.p (.fn g' [] []))]=>Nat.beq g' g
 |[.one (.p .nils),.one (.p (.fn g' [] []))]=>Nat.beq g' g
 |_=>false
def BF(lt:Int×Int->Int×Int->Bool)(A:dZ)(al:cF)(blk:aJ):Option (V×kR):=match A with
 |[.one (.hsl id g 2 0 len),_]=>match blk id with
  |(g',some (.arr h 2 E))=>bif Nat.beq g' g&&Nat.beq len (I E)&&Nat.blt len 4611686018427387904&&al.ok id then
    match Ht E with
    |some l=>bif l.all CX then some (.tup [],[(id,(g,some (.arr h 2 ((rK lt l).map wD))))])else none
    |none=>none
   else none
  |_=>none
 |[.one (.p .nils),_]=>some (.tup [],[])
 |_=>none
def aqH{lt:Int×Int->Int×Int->Bool}{A:dZ}{al:cF}{blk:aJ}{v:V}{u:kR}(H:BF lt A al blk=some (v,u)):(∃id g len x h l,A=[.one (.hsl id g 2 0 len),x]/\blk id=(g,some (.arr h 2 (l.map wD)))/\len=I l/\len<4611686018427387904/\l.all CX/\al.ok id/\v=.tup []/\u=[(id,(g,some (.arr h 2 ((rK lt l).map wD))))])\/ ∃x,A=[.one (.p .nils),x]/\v=.tup []/\u=[]:=by
 unfold BF at H;split at H
 .rename_i id g len x;split at H
  .rename_i g' h E y;cases j:(Nat.beq g' g&&Nat.beq len (I E)&&Nat.blt len 4611686018427387904&&al.ok id)with
   |false=>rw[j]at H;cases H
   |true=>
    rw[j]at H;simp only[cP]at j;obtain⟨⟨⟨B,hl⟩,m⟩,n⟩:=j;obtain rfl:=yZ B;have hl:=yZ hl;have m:=ju m;simp only[cond_true]at H;split at H
    .rename_i l hp;cases f:l.all CX with
     |false=>rw[f]at H;cases H
     |true=>rw[f]at H;cases H;have z:=arD hp;subst z;exact .inl ⟨id,g',len,x,h,l,rfl,y,by simpa using hl,m,f,n,rfl,rfl⟩
    cases H
  cases H
 .cases H;exact .inr ⟨_,rfl,rfl,rfl⟩
 cases H
def afX{lt:Int×Int->Int×Int->Bool}{id g len:Nat}{x:V}{l:jd}{al:cF}{blk:aJ}(n:blk id=(g,some (.arr h 2 (l.map wD))))(hl:len=I l)(f:len<4611686018427387904)(H:l.all CX)(j:al.ok id):BF lt [.one (.hsl id g 2 0 len),x] al blk=some (.tup [],[(id,(g,some (.arr h 2 ((rK lt l).map wD))))]):=by subst hl;have m:Nat.blt (I l) 4611686018427387904:=abV f;simp[BF,n,cg,PF,m,j,zK,cond_true,av7,H]
def acE(P:Program)(lt:Int×Int->Int×Int->Bool)(f g:Nat):Prop:=Enters P f/\(∀(w:World),Calls P f #[.slice none 0 0,.func (.func g) #[] #[]] w λe h=>e=.returned (.tuple #[])/\h=w)/\ ∀(w:World) (blk j:Nat) (d:Array (Int×Int)),HoldsK tF 2 w blk 0 d->blk<w.heap.size->d.size<4611686018427387904->d.toList.all CX->
 Calls P f #[.slice (some ⟨blk,0,none⟩) d.size j,.func (.func g) #[] #[]] w λe h=>e=.returned (.tuple #[])/\ ∃n os,h=grow (putRowK tF 2 (Sort.ahead w n) blk 0 (rK lt d.toList).toArray) os
def axz{S:Sys}{G:World->Prop}{lt:Int×Int->Int×Int->Bool}{g:Nat}(hC:acE S.P lt f g)(ht:S.trig=UK f g)(hp:S.primS=λ_=>BF lt):aiA S G:=by
 intro f' vs al blk v ao E ad;have oz:S.primS f' vs al blk=BF lt vs al blk:=by rw[hp]
 rw[oz]at ad;rw[ht]at E;cases hr:BF lt vs al blk with
 |none=>rw[hr]at ad;cases ad
 |some r=>
 rw[hr]at ad;cases ad;rcases aqH hr with⟨id,gg,len,x,h,l,rfl,Y,hl,T,Q,Z,hv,hu⟩|⟨x,rfl,hv,hu⟩
 .unfold UK at E;rw[cP]at E;obtain⟨hf,L⟩:=E;obtain rfl:=yZ hf;rw[hv,hu];refine⟨⟨hC.1,λj m y hG O mu M=>?_⟩,λi F=>?_,λD X=>?_⟩
  .subst mu;split at L
   .rename_i gI am ap g' H;cases H;obtain rfl:=yZ L;obtain⟨a1,z⟩:=M
    match Ai:y.toList,a1,z with
    |[N,R],_,z=>
     have r1:gh m (.hsl id gg 2 0 len) N:=z 0 _ _ rfl rfl;have r2:gh m (.p (.fn g' [] [])) R:=z 1 _ _ rfl rfl;have YS:y= #[N,R]:=by apply acb.1;rw[Ai]
     subst YS;have o0:m.blk id=(gg,some (.arr h 2 (l.toArray.toList.map wD))):=by simpa using Y
     obtain⟨aj,hh,_⟩:=O.obj id _ (by rw[o0]);cases r1 with
     |hsl a ac jV CF hm fD=>
      obtain⟨_,FO,ag⟩:=fD 2 (by rw[Y]) (by rw[Y];rfl);have M:=FO (.inl rfl);rw[DE]at M;subst M;cases r2 with
      |p hq=>
       cases hq with
       |fn A B hA hB _ _=>
        obtain rfl:A= #[]:=Sk hA;obtain rfl:B= #[]:=Sk hB;subst hl;have hc:=hC.2.2 m.w (m.σ id) ac l.toArray (ax2 O o0) (yg hh) (by simpa using T) (by simpa using Q);rw[show l.toArray.size=I l from acx]at hc;refine hc.mono ?_;rintro e w' ⟨rfl,n,os,rfl⟩
        have ae:=ax4 (n:=n) (os:=os) (D:=(rK lt l).toArray) O o0 (by simp[YD]);have iK:CZ j m (.tup []) (dV m.blk id (gg,some (.arr h 2 ((rK lt l).map wD)))) (.returned (.tuple #[])) (grow (putRowK tF 2 (Sort.ahead m.w n) (m.σ id) 0 (rK lt l).toArray) os):=by simpa using ae
        exact iK
   .rename_i H;cases H
   cases L
  .show dV blk id _ i=_;rw[bG,aC];rintro rfl
   rw[Z]at F;cases F
  have cV:D id=(gg,some (.arr h 2 (l.map wD))):=by rw[X id Z];exact Y
  refine⟨_,by rw[hp];show Option.map _ (BF lt _ al D)=_;rw[afX cV hl T Q Z];rfl,λi=>?_⟩;show dV D id _ i=if al.ok i then dV blk id _ i else D i;simp only[bG];by_cases F:i=id
  .subst F;rw[aD rfl,aD Z,aD rfl]
  rw[aC F,aC F];split
  .rename_i h3;exact X i h3
  rfl
 unfold UK at E;rw[cP]at E;obtain⟨hf,L⟩:=E;obtain rfl:=yZ hf;rw[hv,hu];refine⟨⟨hC.1,λj m y hG O mu M=>?_⟩,λi F=>rfl,λD X=>⟨D,by rw[hp];rfl,λi=>?_⟩⟩
 .subst mu;split at L
  .rename_i H;cases H
  .rename_i g' H;cases H;obtain rfl:=yZ L;obtain⟨a1,z⟩:=M
   match Ai:y.toList,a1,z with
   |[N,R],_,z=>
    have r1:gh m (.p .nils) N:=z 0 _ _ rfl rfl;have r2:gh m (.p (.fn g' [] [])) R:=z 1 _ _ rfl rfl;have YS:y= #[N,R]:=by apply acb.1;rw[Ai]
    subst YS;cases r1 with
    |p ab=>
    cases ab;cases r2 with
    |p hq=>
     cases hq with
     |fn A B hA hB _ _=>
      obtain rfl:A= #[]:=Sk hA;obtain rfl:B= #[]:=Sk hB;refine(hC.2.1 m.w).mono ?_;rintro e w' ⟨rfl,rfl⟩
      exact⟨.tuple #[],m,rfl,rfl,O,hs.refl m,rfl,rfl,(⟨#[],rfl,rfl,λar x u ad=>by simp at ad⟩:df _ (.tup []) _)⟩
  cases L
 show D i=if al.ok i then blk i else D i;split
 .rename_i h3;exact X i h3
 rfl
abbrev Bg:={p:Int×Int//CX p=true}
instance:Inhabited Bg:=⟨⟨(0,0),rfl⟩⟩
abbrev To(p:Bg):List Value:=tF p.1
def Dw(x y:Bg):Int:=if x.1.1=y.1.1 then x.1.2-y.1.2 else x.1.1-y.1.1
def oG(x y:Int×Int):Bool:=if x.1=y.1 then decide (x.2<y.2)else decide (x.1<y.1)
def PR(x y:Bg):ltOf Dw x y=oG x.1 y.1:=by
 unfold ltOf Dw oG;split
 .exact decide_eq_decide.2 ⟨λh=>J,λh=>J⟩
 exact decide_eq_decide.2 ⟨λh=>J,λh=>J⟩
def akH(d:Array Bg):flatK To 2 d=flatK tF 2 (d.map (·.1)):=by
 unfold flatK;rw[Array.size_map];apply Array.ext
 .simp
 intro i H f;simp only[Array.getElem_map,Array.getElem_range];have h:i/2<d.size:=by simp at H;omega
 rw[getElem!_pos d _ h,getElem!_pos (d.map (·.1)) _ (by simpa using h)];simp
def atq(d:Array (Int×Int))(h:d.toList.all CX):∃D:Array Bg,D.map (·.1)=d:=by refine⟨d.attach.map λp=>⟨p.1,j4.1 h p.1 (by simpa using p.2)⟩,?_⟩;rw[Array.map_map];exact Array.attach_map_subtype_val d
def XS(x y:Int×Int):oG x y↔x.1<y.1\/(x.1=y.1/\x.2<y.2):=by
 unfold oG
 grind
def L0(x y:Int×Int):oG x y=false↔ ¬(x.1<y.1\/(x.1=y.1/\x.2<y.2)):=by rw[<-XS];simp
abbrev Fc(x y:Int×Int):Bool:= !oG y x
def Fo(x y:Int×Int):Fc x y↔x.1<y.1\/(x.1=y.1/\x.2<=y.2):=by rw[ke,L0];omega
def avH:∀ {l m:jd},l.Perm m->l.Pairwise (λx y=>Fc x y=true)->m.Pairwise (λx y=>Fc x y=true)->l=m:=by
 intro l
 induction l with
 |nil=>intro m h _ _;exact(List.nil_perm.1 h).symm
 |cons a l f=>
  intro m h hl H;cases m with
  |nil=>exact absurd h.length_eq aE
  |cons b m=>
   have D:a=b:=by
    rcases c7.1 (h.subset (Lz ..))with e|e
    .exact e
    rcases c7.1 (h.symm.subset (Lz ..))with E|E
    .exact E.symm
    have n:=(Fo _ _).1 ((iN.1 hl).1 b E);have j:=(Fo _ _).1 ((iN.1 H).1 a e);exact Prod.ext J J
   subst D;rw[f ((List.perm_cons a).1 h) (iN.1 hl).2 (iN.1 H).2]
def axQ(x:Int×Int):∀ {l:jd},l.Pairwise (λx y=>Fc x y=true)->(Kt oG x l).Pairwise (λx y=>Fc x y=true):=by
 intro l
 induction l with
 |nil=>intro _;exact Ex _ _
 |cons y r n=>
  intro h;obtain⟨j,m⟩:=iN.1 h;unfold Kt;cases f:oG y x with
  |false=>
   refine iN.2 ⟨λz H=>?_,h⟩;rw[Fo];have f:=(L0 _ _).1 f;rcases c7.1 H with rfl|H
   .omega
   have:=(Fo _ _).1 (j z H);omega
  |true=>
   refine iN.2 ⟨λz H=>?_,n m⟩;rcases c7.1 ((alZ oG x r).subset H)with rfl|H
   .rw[Fo];have:=(XS _ _).1 f;omega
   exact j z H
def arM:∀(l:jd),(rK oG l).Pairwise (λx y=>Fc x y=true):=by
 intro l
 induction l with
 |nil=>exact List.Pairwise.nil
 |cons x r f=>exact axQ x f
def aCl(l:jd):rK oG l=l.mergeSort Fc:=by refine avH ((aay oG l).trans (List.mergeSort_perm l Fc).symm) (arM l) ?_;exact List.pairwise_mergeSort (λa b c h H=>by rw[Fo]at*;omega) (λa b=>by rw[uW,Fo,Fo];omega) l
def aoP(l:List Bg):(l.mergeSort λx y=> !oG y.1 x.1).map (·.1)=rK oG (l.map (·.1)):=by rw[aCl];exact List.map_mergeSort λa _ b _=>rfl
def swoP:SWO (ltOf Dw) where
 irrefl x:=by rw[PR,L0];omega
 trans x y z H h:=by rw[PR,XS]at*;omega
 ntrans x y z H h:=by rw[PR,L0]at*;omega
def totP(x y:Bg)(h:ltOf Dw x y=false)(H:ltOf Dw y x=false):x=y:=by rw[PR,L0]at h H;exact Subtype.ext (Prod.ext J J)
def ary{w:World}{blk:Nat}{d:Array Bg}(h:HoldsK tF 2 w blk 0 (d.map (·.1))):HoldsK To 2 w blk 0 d:=by unfold HoldsK at h |-;rw[akH];exact h
def putS{w:World}{blk:Nat}(d:Array Bg):putRowK To 2 w blk 0 (d.toList.mergeSort λx y=> !(ltOf Dw) y x).toArray=putRowK tF 2 w blk 0 (rK oG (d.map (·.1)).toList).toArray:=by
 unfold putRowK;rw[akH];congr 2;have:(λx y:Bg=> !(ltOf Dw) y x)=λx y=> !oG y.1 x.1:=by funext x y;rw[PR]
 rw[this,Array.toList_map,<-aoP];simp
end Go.Abs
