/-
  Sorting in place.
-/
import Derived.Test.YtgjjncbeombnbaaGreatDoorMc
import Derived.Shelf.GgSortFunc.RowK
import Derived.Shelf.SlSortCmp.Insertion
import Derived.Sort.Statements
set_option linter.all false
open List renaming length->I
set_option maxRecDepth 100000
namespace Go.Abs
variable{f h:Nat}{j:World}{m:aW}
abbrev acz:=List (Nat×dC×RV)
def MW(S:Sys)(l:acz):Prop:=∀e∈l,aI S e.1 e.2.1 e.2.2
def MW.nil{S:Sys}:MW S []:=λe h=>by simp at h
def MW.cons{S:Sys}{l:acz}{a:dC}{r:RV}(h:aI S f a r)(hl:MW S l):MW S ((f,a,r)::l):=λe H=>by
 rcases dt.1 H with rfl|H
 .exact h
 exact hl e H
open Go.Sort
def an8{id g f:Nat}{E n:dh}{W y:World}{v:Array Value}(A:dP j m)(D:m.blk id=(g,some (.arr h f E)))(hl:I n=I E)(jk:∀e∈n,I e=f)
  (M:W.os=m.w.os) (z:W.tape=m.w.tape) (O:W.output=m.w.output) (ae:W.heap.size=m.w.heap.size) (L:∀c,c≠m.σ id->W.heap[c]?=m.w.heap[c]?) (T:W.heap[m.σ id]?=some (.cells v h (0,0))) (H:v.size=m.κ id*f)
  (dT:∀own,dX W own n.flatten (v.toList.take (I n*f))) (F:iX W y):Bv j m (.tup []) (dN m.blk id (g,some (.arr h f n))) (.returned (.tuple #[])) y:=by
 have B:(m.blk id).2=some (.arr h f E):=by rw[D]
 obtain⟨Y,hh,ng,ub,R,Q,Hx,zP⟩:=A.obj id _ B;have Z:=GK (m:=m.jE W id (.arr h f n)) (X:=λ_=>False) F (λc N=>N.elim);refine⟨.tuple #[],(m.jE W id (.arr h f n)).later y (λ_=>False),rfl,rfl,Lo (LQ B rfl A (by simp[kZ]) M z O ae L ⟨v,T,ng,jk,by rw[hl];exact R,Q,H,dT _⟩) F (λc N=>N.elim),(GS (o:=.arr h f n) B rfl (by simp[kZ]) M z O ae L).trans Z,?_,?_,(⟨#[],rfl,rfl,λab x u N=>by simp at N⟩:cS _ (.tup []) _)⟩
 .funext c;simp[aW.later,aW.jE]
 simp[aW.later,aW.jE,D]
def rD(p:Int×Int):List Value:=[.int .i64 p.1,.int .i64 p.2]
abbrev uZ(p:Int×Int):dF:=[.int .i64 p.1,.int .i64 p.2]
def acp(p:Int×Int)(j:Nat):(rD p)[j%2]! =.int .i64 (if j%2=0 then p.1 else p.2):=by rcases oH j with h|h<;>simp[rD,h]
def aiN:∀(l:ji) (j:Nat),j<I l*2->(l.map uZ).flatten[j]?=some (.int .i64 (if j%2=0 then(l[j/2]!).1 else(l[j/2]!).2)):=by
 intro l
 induction l with
 |nil=>intro j h;simp at h
 |cons p l f=>
  intro j h;rw[eQ,vo]
  match j with
  |0=>simp
  |1=>simp
  |j+2=>
   rw[o_ aH];have H:=f j (by simp at h;omega)
   simp_all
def aeY(l:ji):(l.map uZ).flatten.length=I l*2:=by
 induction l with
 |nil=>rfl
 |cons p l f=>rw[eQ,vo,fU,f];simp;omega
def aoi{w:World}{own:Nat->Prop}{k:IntKind}{n:Int}{v:Value}(h:cU w own (.int k n) v):v=.int k n:=by cases h;rfl
def anb{id g:Nat}{d:Array (Int×Int)}(A:dP j m)(y:m.blk id=(g,some (.arr h 2 (d.toList.map uZ)))):HoldsK rD 2 m.w (m.σ id) 0 d:=by
 obtain⟨f,u,E,B,N,Q,D,z⟩:=A.obj id _ (by rw[y]);rw[bG]at N z;intro v n;rw[size_flatK]at n;have x:v<I d.toList*2:=by simpa using n
 have H:(f.toList.take (I d.toList*2))[v]?=some f[v]:=by grind
 refine⟨?_,?_⟩
 .rw[jO,IC u,get_flatK _ _ _ _ n,acp,Zr J,aoi (z.2 v _ _ (aiN d.toList v x) H)]
  grind
 unfold World.frozen?;rw[u];simp
def acS(O:Nat)(d f:Array Value):(putCells _root_.id O d f).size=f.size:=by simp[putCells]
def aoE{id g n:Nat}{d D:Array (Int×Int)}{os:Array Obj}(B:dP j m)(F:m.blk id=(g,some (.arr h 2 (d.toList.map uZ))))(z:D.size=d.size):
  Bv j m (.tup []) (dN m.blk id (g,some (.arr h 2 (D.toList.map uZ)))) (.returned (.tuple #[])) (grow (putRowK rD 2 (Sort.ahead m.w n) (m.σ id) 0 D) os):=by
 obtain⟨f,T,ng,ub,N,Y,A,Z⟩:=B.obj id _ (by rw[F]);rw[bG]at N Z;have Q:I D.toList=I d.toList:=by simpa using z
 have M:(putRowK rD 2 (Sort.ahead m.w n) (m.σ id) 0 D).heap=m.w.heap.modify (m.σ id) (onCells (putCells _root_.id 0 (flatK rD 2 D))):=rfl;refine an8 (W:=putRowK rD 2 (Sort.ahead m.w n) (m.σ id) 0 D) (v:=putCells _root_.id 0 (flatK rD 2 D) f) B F (by simp[z]) (λe he=>?_) rfl rfl rfl ?_ (λc hc=>?_) ?_ ?_ (λown=>?_) ?_
 .grind
 .rw[M];simp
 .grind
 .rw[M,Array.getElem?_modify,an rfl,T];rfl
 .rw[acS,A]
 .rw[bG];have dS:I D.toList*2<=f.size:=by rw[A,Q];exact mV _ N
  refine⟨?_,λE x u v H=>?_⟩
  .have X:=acS 0 (flatK rD 2 D) f;have R:(putCells _root_.id 0 (flatK rD 2 D) f).toList.length=f.size:=by rw[J2,X]
   rw[aeY,jw,R];omega
  have y:E<I D.toList*2:=by rw[<-aeY];exact(bd.1 v).1
  rw[aiN _ _ y]at v;cases v;have L:E<D.size*2:=by simpa using y
  rw[List.getElem?_take_of_lt y,Jn]at H;unfold putCells at H;rw[Array.getElem?_mapIdx,Zr J]at H;simp only[vp,bN,jO,size_flatK,L,and_self,if_true,LA,gW]at H;subst H;rw[get_flatK _ _ _ _ L,acp];have O:E/2<D.size:=J;have e:D.toList[E/2]! =D[E/2]! :=by rw[getElem!_pos D.toList _ (by simpa using O),getElem!_pos D _ O];simp
  rw[e];exact cU.int _ _
 have:=iX.agR (putRowK rD 2 (Sort.ahead m.w n) (m.σ id) 0 D) 0 os;exact this
open Go.Sort Go.Proofs
def FE:dh->Option ji
 |[]=>some []
 |[.int .i64 a,.int .i64 b]::r=>(FE r).map λl=>(a,b)::l
 |_=>none
def ali:∀ {E:dh}{l:ji},FE E=some l->E=l.map uZ:=by
 intro E
 induction E with
 |nil=>intro l h;cases h;rfl
 |cons e r j=>
  intro l h;unfold FE at h;split at h
  .rename_i f;cases f
  .rename_i a b R f;cases f;cases H:FE r with
   |none=>rw[H]at h;cases h
   |some L=>rw[H]at h;cases h;rw[eQ,<-j H]
  cases h
def asb(l:ji):FE (l.map uZ)=some l:=by
 induction l with
 |nil=>rfl
 |cons p r f=>rw[eQ];unfold FE;rw[f];rfl
def Bw(p:Int×Int):Bool:=decide (-1000000000000<=p.1)&&decide (p.1<=1000000000000)&&(decide (-1000000000000<=p.2)&&decide (p.2<=1000000000000))
def Iy(lt:Int×Int->Int×Int->Bool)(x:Int×Int):ji->ji
 |[]=>[x]
 |y::r=>bif lt y x then y::Iy lt x r else x::y::r
def qi(lt:Int×Int->Int×Int->Bool):ji->ji
 |[]=>[]
 |x::r=>Iy lt x (qi lt r)
def ZV(lt:Int×Int->Int×Int->Bool)(x:Int×Int):∀l,(Iy lt x l).Perm (x::l):=by
 intro l
 induction l with
 |nil=>exact FI _
 |cons y r f=>
  unfold Iy
  grind
def Zo(lt:Int×Int->Int×Int->Bool):∀l,(qi lt l).Perm l:=by
 intro l
 induction l with
 |nil=>exact FI _
 |cons x r f=>exact(ZV lt x _).trans (List.Perm.cons x f)
def T6(lt:Int×Int->Int×Int->Bool)(l:ji):I (qi lt l)=I l:=(Zo lt l).length_eq
def QN(f g:Nat)(F:Nat)(A:dC):Bool:=Nat.beq F f&&match A with
 |[.one (.hsl _ _ 2 0 _),.one (.p (.fn g' [] []))]=>Nat.beq g' g
 |[.one (.p .nils),.one (.p (.fn g' [] []))]=>Nat.beq g' g
 |_=>false
def Bj(lt:Int×Int->Int×Int->Bool)(A:dC)(al:bU)(blk:aG):Option (V×jU):=match A with
 |[.one (.hsl id g 2 0 len),_]=>match blk id with
  |(g',some (.arr h 2 E))=>bif Nat.beq g' g&&Nat.beq len (I E)&&Nat.blt len 4611686018427387904&&al.ok id then
    match FE E with
    |some l=>bif l.all Bw then some (.tup [],[(id,(g,some (.arr h 2 ((qi lt l).map uZ))))])else none
    |none=>none
   else none
  |_=>none
 |[.one (.p .nils),_]=>some (.tup [],[])
 |_=>none
def asZ{lt:Int×Int->Int×Int->Bool}{A:dC}{al:bU}{blk:aG}{v:V}{u:jU}(H:Bj lt A al blk=some (v,u)):(∃id g len x h l,A=[.one (.hsl id g 2 0 len),x]/\blk id=(g,some (.arr h 2 (l.map uZ)))/\len=I l/\len<4611686018427387904/\l.all Bw/\al.ok id/\v=.tup []/\u=[(id,(g,some (.arr h 2 ((qi lt l).map uZ))))])\/ ∃x,A=[.one (.p .nils),x]/\v=.tup []/\u=[]:=by
 unfold Bj at H;split at H
 .rename_i id g len x;split at H
  .rename_i g' h E y;cases j:(Nat.beq g' g&&Nat.beq len (I E)&&Nat.blt len 4611686018427387904&&al.ok id)with
   |false=>rw[j]at H;cases H
   |true=>
    rw[j]at H;simp only[cN]at j;obtain⟨⟨⟨B,hl⟩,m⟩,n⟩:=j;obtain rfl:=xC B;have hl:=xC hl;have m:=jx m;simp only[cond_true]at H;split at H
    .rename_i l hp;cases f:l.all Bw with
     |false=>rw[f]at H;cases H
     |true=>rw[f]at H;cases H;have z:=ali hp;subst z;exact .inl ⟨id,g',len,x,h,l,rfl,y,by simpa using hl,m,f,n,rfl,rfl⟩
    cases H
  cases H
 .cases H;exact .inr ⟨_,rfl,rfl,rfl⟩
 cases H
def ahw{lt:Int×Int->Int×Int->Bool}{id g len:Nat}{x:V}{l:ji}{al:bU}{blk:aG}(n:blk id=(g,some (.arr h 2 (l.map uZ))))(hl:len=I l)(f:len<4611686018427387904)(H:l.all Bw)(j:al.ok id):Bj lt [.one (.hsl id g 2 0 len),x] al blk=some (.tup [],[(id,(g,some (.arr h 2 ((qi lt l).map uZ))))]):=by subst hl;have m:Nat.blt (I l) 4611686018427387904:=W7 f;simp[Bj,n,bG,J6,m,j,Dq,cond_true,asb,H]
def ZZ(P:Program)(lt:Int×Int->Int×Int->Bool)(f g:Nat):Prop:=Enters P f/\(∀(w:World),Calls P f #[.slice none 0 0,.func (.func g) #[] #[]] w λe h=>e=.returned (.tuple #[])/\h=w)/\ ∀(w:World) (blk j:Nat) (d:Array (Int×Int)),HoldsK rD 2 w blk 0 d->blk<w.heap.size->d.size<4611686018427387904->d.toList.all Bw->
 Calls P f #[.slice (some ⟨blk,0,none⟩) d.size j,.func (.func g) #[] #[]] w λe h=>e=.returned (.tuple #[])/\ ∃n os,h=grow (putRowK rD 2 (Sort.ahead w n) blk 0 (qi lt d.toList).toArray) os
def awj{S:Sys}{G:World->Prop}{lt:Int×Int->Int×Int->Bool}{g:Nat}(hC:ZZ S.P lt f g)(ht:S.trig=QN f g)(hp:S.primS=λ_=>Bj lt):aaL S G:=by
 intro f' vs al blk v ak L ad;have mQ:S.primS f' vs al blk=Bj lt vs al blk:=by rw[hp]
 rw[mQ]at ad;rw[ht]at L;cases hr:Bj lt vs al blk with
 |none=>rw[hr]at ad;cases ad
 |some r=>
 rw[hr]at ad;cases ad;rcases asZ hr with⟨id,gg,len,x,h,l,rfl,Y,hl,T,Q,Z,hv,hu⟩|⟨x,rfl,hv,hu⟩
 .unfold QN at L;rw[cN]at L;obtain⟨hf,F⟩:=L;obtain rfl:=xC hf;rw[hv,hu];refine⟨⟨hC.1,λj m y hG N mM M=>?_⟩,λi E=>?_,λD X=>?_⟩
  .subst mM;split at F
   .rename_i fV am ap g' H;cases H;obtain rfl:=xC F;obtain⟨a1,z⟩:=M
    match ym:y.toList,a1,z with
    |[O,R],_,z=>
     have r1:fC m (.hsl id gg 2 0 len) O:=z 0 _ _ rfl rfl;have r2:fC m (.p (.fn g' [] [])) R:=z 1 _ _ rfl rfl;have We:y= #[O,R]:=by apply Ug.1;rw[ym]
     subst We;have qJ:m.blk id=(gg,some (.arr h 2 (l.toArray.toList.map uZ))):=by simpa using Y
     obtain⟨aj,hh,_⟩:=N.obj id _ (by rw[qJ]);cases r1 with
     |hsl a ac jt ar hm eT=>
      obtain⟨_,DW,ag⟩:=eT 2 (by rw[Y]) (by rw[Y];rfl);have M:=DW (.inl rfl);rw[CD]at M;subst M;cases r2 with
      |p hq=>
       cases hq with
       |fn A B hA hB _ _=>
        obtain rfl:A= #[]:=PY hA;obtain rfl:B= #[]:=PY hB;subst hl;have hc:=hC.2.2 m.w (m.σ id) ac l.toArray (anb N qJ) (vR hh) (by simpa using T) (by simpa using Q);rw[show l.toArray.size=I l from Vz]at hc;refine hc.mono ?_;rintro e w' ⟨rfl,n,os,rfl⟩
        have ae:=aoE (n:=n) (os:=os) (D:=(qi lt l).toArray) N qJ (by simp[T6]);have iW:Bv j m (.tup []) (dN m.blk id (gg,some (.arr h 2 ((qi lt l).map uZ)))) (.returned (.tuple #[])) (grow (putRowK rD 2 (Sort.ahead m.w n) (m.σ id) 0 (qi lt l).toArray) os):=by simpa using ae
        exact iW
   .rename_i H;cases H
   cases F
  .show dN blk id _ i=_;rw[ba,ai];rintro rfl
   rw[Z]at E;cases E
  have bZ:D id=(gg,some (.arr h 2 (l.map uZ))):=by rw[X id Z];exact Y
  refine⟨_,by rw[hp];show Option.map _ (Bj lt _ al D)=_;rw[ahw bZ hl T Q Z];rfl,λi=>?_⟩;show dN D id _ i=if al.ok i then dN blk id _ i else D i;simp only[ba];by_cases E:i=id
  .subst E;rw[an rfl,an Z,an rfl]
  rw[ai E,ai E];split
  .rename_i h3;exact X i h3
  rfl
 unfold QN at L;rw[cN]at L;obtain⟨hf,F⟩:=L;obtain rfl:=xC hf;rw[hv,hu];refine⟨⟨hC.1,λj m y hG N mM M=>?_⟩,λi E=>rfl,λD X=>⟨D,by rw[hp];rfl,λi=>?_⟩⟩
 .subst mM;split at F
  .rename_i H;cases H
  .rename_i g' H;cases H;obtain rfl:=xC F;obtain⟨a1,z⟩:=M
   match ym:y.toList,a1,z with
   |[O,R],_,z=>
    have r1:fC m (.p .nils) O:=z 0 _ _ rfl rfl;have r2:fC m (.p (.fn g' [] [])) R:=z 1 _ _ rfl rfl;have We:y= #[O,R]:=by apply Ug.1;rw[ym]
    subst We;cases r1 with
    |p ab=>
    cases ab;cases r2 with
    |p hq=>
     cases hq with
     |fn A B hA hB _ _=>
      obtain rfl:A= #[]:=PY hA;obtain rfl:B= #[]:=PY hB;refine(hC.2.1 m.w).mono ?_;rintro e w' ⟨rfl,rfl⟩
      exact⟨.tuple #[],m,rfl,rfl,N,gy.refl m,rfl,rfl,(⟨#[],rfl,rfl,λav x u ad=>by simp at ad⟩:cS _ (.tup []) _)⟩
  cases F
 show D i=if al.ok i then blk i else D i;split
 .rename_i h3;exact X i h3
 rfl
abbrev zi:={p:Int×Int//Bw p=true}
instance:Inhabited zi:=⟨⟨(0,0),rfl⟩⟩
abbrev QP(p:zi):List Value:=rD p.1
def BN(x y:zi):Int:=if x.1.1=y.1.1 then x.1.2-y.1.2 else x.1.1-y.1.1
def mS(x y:Int×Int):Bool:=if x.1=y.1 then decide (x.2<y.2)else decide (x.1<y.1)
def J8(x y:zi):ltOf BN x y=mS x.1 y.1:=by
 unfold ltOf BN mS;split
 .exact decide_eq_decide.2 ⟨λh=>J,λh=>J⟩
 exact decide_eq_decide.2 ⟨λh=>J,λh=>J⟩
def af1(d:Array zi):flatK QP 2 d=flatK rD 2 (d.map (·.1)):=by
 unfold flatK;rw[Array.size_map];apply Array.ext
 .simp
 intro i H f;simp only[Array.getElem_map,Array.getElem_range];have h:i/2<d.size:=by simp at H;omega
 rw[getElem!_pos d _ h,getElem!_pos (d.map (·.1)) _ (by simpa using h)];simp
def ar7(d:Array (Int×Int))(h:d.toList.all Bw):∃D:Array zi,D.map (·.1)=d:=by refine⟨d.attach.map λp=>⟨p.1,mB.1 h p.1 (by simpa using p.2)⟩,?_⟩;rw[Array.map_map];exact Array.attach_map_subtype_val d
def WO(x y:Int×Int):mS x y↔x.1<y.1\/(x.1=y.1/\x.2<y.2):=by
 unfold mS
 grind
def MZ(x y:Int×Int):mS x y=false↔ ¬(x.1<y.1\/(x.1=y.1/\x.2<y.2)):=by rw[<-WO];simp
abbrev Dt(x y:Int×Int):Bool:= !mS y x
def Dr(x y:Int×Int):Dt x y↔x.1<y.1\/(x.1=y.1/\x.2<=y.2):=by rw[ke,MZ];omega
def aqU:∀ {l m:ji},l.Perm m->l.Pairwise (λx y=>Dt x y=true)->m.Pairwise (λx y=>Dt x y=true)->l=m:=by
 intro l
 induction l with
 |nil=>intro m h _ _;exact(List.nil_perm.1 h).symm
 |cons a l f=>
  intro m h hl H;cases m with
  |nil=>exact absurd h.length_eq aH
  |cons b m=>
   have D:a=b:=by
    rcases dt.1 (h.subset (I1 ..))with e|e
    .exact e
    rcases dt.1 (h.symm.subset (I1 ..))with E|E
    .exact E.symm
    have n:=(Dr _ _).1 ((jy.1 hl).1 b E);have j:=(Dr _ _).1 ((jy.1 H).1 a e);exact Prod.ext J J
   subst D;rw[f ((List.perm_cons a).1 h) (jy.1 hl).2 (jy.1 H).2]
def aqV(x:Int×Int):∀ {l:ji},l.Pairwise (λx y=>Dt x y=true)->(Iy mS x l).Pairwise (λx y=>Dt x y=true):=by
 intro l
 induction l with
 |nil=>intro _;exact ED _ _
 |cons y r n=>
  intro h;obtain⟨j,m⟩:=jy.1 h;unfold Iy;cases f:mS y x with
  |false=>
   refine jy.2 ⟨λz H=>?_,h⟩;rw[Dr];have f:=(MZ _ _).1 f;rcases dt.1 H with rfl|H
   .omega
   have:=(Dr _ _).1 (j z H);omega
  |true=>
   refine jy.2 ⟨λz H=>?_,n m⟩;rcases dt.1 ((ZV mS x r).subset H)with rfl|H
   .rw[Dr];have:=(WO _ _).1 f;omega
   exact j z H
def amV:∀(l:ji),(qi mS l).Pairwise (λx y=>Dt x y=true):=by
 intro l
 induction l with
 |nil=>exact List.Pairwise.nil
 |cons x r f=>exact aqV x f
def asi(l:ji):qi mS l=l.mergeSort Dt:=by refine aqU ((Zo mS l).trans (List.mergeSort_perm l Dt).symm) (amV l) ?_;exact List.pairwise_mergeSort (λa b c h H=>by rw[Dr]at*;omega) (λa b=>by rw[qZ,Dr,Dr];omega) l
def aoJ(l:List zi):(l.mergeSort λx y=> !mS y.1 x.1).map (·.1)=qi mS (l.map (·.1)):=by rw[asi];exact List.map_mergeSort λa _ b _=>rfl
def swoP:SWO (ltOf BN) where
 irrefl x:=by rw[J8,MZ];omega
 trans x y z H h:=by rw[J8,WO]at*;omega
 ntrans x y z H h:=by rw[J8,MZ]at*;omega
def totP(x y:zi)(h:ltOf BN x y=false)(H:ltOf BN y x=false):x=y:=by rw[J8,MZ]at h H;exact Subtype.ext (Prod.ext J J)
def aqh{w:World}{blk:Nat}{d:Array zi}(h:HoldsK rD 2 w blk 0 (d.map (·.1))):HoldsK QP 2 w blk 0 d:=by unfold HoldsK at h |-;rw[af1];exact h
def putS{w:World}{blk:Nat}(d:Array zi):putRowK QP 2 w blk 0 (d.toList.mergeSort λx y=> !(ltOf BN) y x).toArray=putRowK rD 2 w blk 0 (qi mS (d.map (·.1)).toList).toArray:=by
 unfold putRowK;rw[af1];congr 2;have:(λx y:zi=> !(ltOf BN) y x)=λx y=> !mS y.1 x.1:=by funext x y;rw[J8]
 rw[this,Array.toList_map,<-aoJ];simp
end Go.Abs
