/-
  Sorting in place.
-/
import Derived.Test.YtdlmpmilnbhmgaaGreatDoorMc
import Derived.Shelf.GgSortFunc.RowK
import Derived.Shelf.SlSortCmp.Insertion
import Derived.Sort.Statements
set_option linter.all false
open List renaming length->I
set_option maxRecDepth 100000
namespace Go.Abs
variable{f g h:Nat}{j:World}{m:aX}
abbrev Wm:=List (Nat×c7×RV)
def FN(S:Sys)(l:Wm):Prop:=∀e∈l,aC S e.1 e.2.1 e.2.2
def FN.nil{S:Sys}:FN S []:=λe h=>by simp at h
def FN.cons{S:Sys}{l:Wm}{a:c7}{r:RV}(h:aC S f a r)(hl:FN S l):FN S ((f,a,r)::l):=λe H=>by
 rcases dL.1 H with rfl|H
 .exact h
 exact hl e H
open Go.Sort
def art{id f:Nat}{E F:dC}{W n:World}{r:Array Value}(A:c9 j m)(v:m.blk id=(g,some (.arr h f E)))(hl:I F=I E)(Y:∀e∈F,I e=f)
  (T:W.os=m.w.os) (q:W.tape=m.w.tape) (L:W.output=m.w.output) (aa:W.heap.size=m.w.heap.size) (z:∀c,c≠m.σ id->W.heap[c]?=m.w.heap[c]?) (O:W.heap[m.σ id]?=some (.cells r h (0,0))) (H:r.size=m.κ id*f)
  (dd:∀own,dw W own F.flatten (r.toList.take (I F*f))) (y:gD W n):wX j m (.tup []) (cQ m.blk id (g,some (.arr h f F))) (.returned (.tuple #[])) n:=by
 have B:(m.blk id).2=some (.arr h f E):=by rw[v]
 obtain⟨R,hh,Q,ow,N,Z,A1,ve⟩:=A.obj id _ B;have M:o5 (m.hU W id (.arr h f F)) id (.arr h f F):=⟨r,O,Q,Y,by rw[hl];exact N,Z,H,dd _⟩;have ed:=D5 (L:=W) (o:=.arr h f F) B rfl (by simp[jl]) T q L aa z;have L0:=F0 B rfl A (by simp[jl]) T q L aa z M;have ly:=DO (m:=m.hU W id (.arr h f F)) (X:=λ_=>False) y (λc D=>D.elim);have fi:=GX L0 y (X:=λ_=>False) (λc D=>D.elim);refine⟨.tuple #[],(m.hU W id (.arr h f F)).later n (λ_=>False),rfl,rfl,fi,ed.trans ly,?_,?_,(⟨#[],rfl,rfl,λab x u D=>by simp at D⟩:cg _ (.tup []) _)⟩
 .funext c;simp[aX.later,aX.hU]
 simp[aX.later,aX.hU,v]
def oc(p:Int×Int):List Value:=[.int .i64 p.1,.int .i64 p.2]
abbrev ri(p:Int×Int):c_:=[.int .i64 p.1,.int .i64 p.2]
def abm(p:Int×Int)(j:Nat):(oc p)[j%2]! =.int .i64 (if j%2=0 then p.1 else p.2):=by rcases Bs j with h|h<;>simp[oc,h]
def Xt:∀(l:tE) (j:Nat),j<I l*2->(l.map ri).flatten[j]?=some (.int .i64 (if j%2=0 then(l[j/2]!).1 else(l[j/2]!).2)):=by
 intro l
 induction l with
 |nil=>intro j h;simp at h
 |cons p l f=>
  intro j h;rw[ew,kT]
  match j with
  |0=>simp
  |1=>simp
  |j+2=>
   rw[wM aG];have H:=f j (by simp at h;omega);have E:(j+2)%2=j%2:=J;have g:(j+2)/2=j/2+1:=J;rw[E,g]
   simpa using H
def ado(l:tE):(l.map ri).flatten.length=I l*2:=by
 induction l with
 |nil=>rfl
 |cons p l f=>rw[ew,kT,ep,f];simp;omega
def ane{w:World}{own:Nat->Prop}{k:IntKind}{n:Int}{v:Value}(h:cl w own (.int k n) v):v=.int k n:=by cases h;rfl
def aiu{id:Nat}{d:Array (Int×Int)}(A:c9 j m)(B:m.blk id=(g,some (.arr h 2 (d.toList.map ri)))):HoldsK oc 2 m.w (m.σ id) 0 d:=by
 obtain⟨f,r,F,O,y,L,D,v⟩:=A.obj id _ (by rw[B]);rw[cT]at y v;intro n q;rw[size_flatK]at q;have x:n<I d.toList*2:=by simpa using q
 have z:=Xt d.toList n x;have M:I d.toList*2<=f.size:=by rw[D];exact j6 _ y
 have H:(f.toList.take (I d.toList*2))[n]?=some f[n]:=by rw[Q3 x,wQ,Lz J]
 have E:=ane (v.2 n _ _ z H);refine⟨?_,?_⟩
 .rw[ka,CR r,get_flatK _ _ _ _ q,abm,Lz J,E];have u:n/2<d.size:=J;have e:d.toList[n/2]! =d[n/2]! :=by rw[getElem!_pos d.toList _ (by simpa using u),getElem!_pos d _ u];simp
  rw[e];rfl
 unfold World.frozen?;rw[r];simp
def aaN(O:Nat)(d f:Array Value):(putCells _root_.id O d f).size=f.size:=by simp[putCells]
def amu{id n:Nat}{d D:Array (Int×Int)}{os:Array Obj}(A:c9 j m)(B:m.blk id=(g,some (.arr h 2 (d.toList.map ri))))(y:D.size=d.size):
  wX j m (.tup []) (cQ m.blk id (g,some (.arr h 2 (D.toList.map ri)))) (.returned (.tuple #[])) (grow (putRowK oc 2 (Sort.ahead m.w n) (m.σ id) 0 D) os):=by
 obtain⟨f,Q,Z,ow,M,l9,F,T⟩:=A.obj id _ (by rw[B]);rw[cT]at M T;have O:I D.toList=I d.toList:=by simpa using y
 have r:(putRowK oc 2 (Sort.ahead m.w n) (m.σ id) 0 D).heap=m.w.heap.modify (m.σ id) (onCells (putCells _root_.id 0 (flatK oc 2 D))):=rfl;refine art (W:=putRowK oc 2 (Sort.ahead m.w n) (m.σ id) 0 D) (r:=putCells _root_.id 0 (flatK oc 2 D) f) A B (by simp[y]) (λe R=>?_) rfl rfl rfl ?_ (λc Y=>?_) ?_ ?_ (λown=>?_) ?_
 .obtain⟨p,_,rfl⟩:=eJ.1 R;rfl
 .rw[r];simp
 .rw[r,Pc,aD (Ne.symm Y)]
 .rw[r,Pc,aM rfl,Q];rfl
 .rw[aaN,F]
 .rw[cT];have dt:I D.toList*2<=f.size:=by rw[F,O];exact j6 _ M
  refine⟨?_,λE x u q H=>?_⟩
  .have X:=aaN 0 (flatK oc 2 D) f;have N:(putCells _root_.id 0 (flatK oc 2 D) f).toList.length=f.size:=by rw[Fp,X]
   rw[ado,iU,N];omega
  have v:E<I D.toList*2:=by rw[<-ado];exact(ct.1 q).1
  rw[Xt _ _ v]at q;cases q;have z:E<D.size*2:=by simpa using v
  rw[Q3 v,wQ]at H;unfold putCells at H;rw[Array.getElem?_mapIdx,Lz J]at H;simp only[oG,bC,ka,size_flatK,z,and_self,if_true,Nat.sub_zero,fu]at H;subst H;rw[get_flatK _ _ _ _ z,abm];have L:E/2<D.size:=J;have e:D.toList[E/2]! =D[E/2]! :=by rw[getElem!_pos D.toList _ (by simpa using L),getElem!_pos D _ L];simp
  rw[e];exact cl.int _ _
 have:=gD.aaw (putRowK oc 2 (Sort.ahead m.w n) (m.σ id) 0 D) 0 os;exact this
open Go.Sort Go.Proofs
def BR:dC->Option tE
 |[]=>some []
 |[.int .i64 a,.int .i64 b]::r=>(BR r).map λl=>(a,b)::l
 |_=>none
def aki:∀ {E:dC}{l:tE},BR E=some l->E=l.map ri:=by
 intro E
 induction E with
 |nil=>intro l h;cases h;rfl
 |cons e r g=>
  intro l h;unfold BR at h;split at h
  .rename_i f;cases f
  .rename_i a b R f;cases f;cases H:BR r with
   |none=>rw[H]at h;cases h
   |some L=>rw[H]at h;cases h;rw[ew,<-g H]
  cases h
def ain(l:tE):BR (l.map ri)=some l:=by
 induction l with
 |nil=>rfl
 |cons p r f=>rw[ew];unfold BR;rw[f];rfl
def xd(p:Int×Int):Bool:=decide (-1000000000000<=p.1)&&decide (p.1<=1000000000000)&&(decide (-1000000000000<=p.2)&&decide (p.2<=1000000000000))
def Cv(lt:Int×Int->Int×Int->Bool)(x:Int×Int):tE->tE
 |[]=>[x]
 |y::r=>bif lt y x then y::Cv lt x r else x::y::r
def mH(lt:Int×Int->Int×Int->Bool):tE->tE
 |[]=>[]
 |x::r=>Cv lt x (mH lt r)
def XE(lt:Int×Int->Int×Int->Bool)(x:Int×Int):∀l,(Cv lt x l).Perm (x::l):=by
 intro l
 induction l with
 |nil=>exact List.Perm.refl _
 |cons y r f=>
  unfold Cv;cases lt y x with
  |false=>exact List.Perm.refl _
  |true=>exact(List.Perm.cons y f).trans (List.Perm.swap x y r)
def Sq(lt:Int×Int->Int×Int->Bool):∀l,(mH lt l).Perm l:=by
 intro l
 induction l with
 |nil=>exact List.Perm.refl _
 |cons x r f=>exact(XE lt x _).trans (List.Perm.cons x f)
def UJ(lt:Int×Int->Int×Int->Bool)(l:tE):I (mH lt l)=I l:=(Sq lt l).length_eq
def MX(f g:Nat)(F:Nat)(A:c7):Bool:=Nat.beq F f&&match A with
 |[.one (.hsl _ _ 2 0 _),.one (.p (.fn h [] []))]=>Nat.beq h g
 |[.one (.p .nils),.one (.p (.fn h [] []))]=>Nat.beq h g
 |_=>false
def vk(lt:Int×Int->Int×Int->Bool)(A:c7)(al:bP)(blk:aB):Option (V×iB):=match A with
 |[.one (.hsl id g 2 0 len),_]=>match blk id with
  |(f,some (.arr h 2 E))=>bif Nat.beq f g&&Nat.beq len (I E)&&Nat.blt len 4611686018427387904&&al.ok id then
    match BR E with
    |some l=>bif l.all xd then some (.tup [],[(id,(g,some (.arr h 2 ((mH lt l).map ri))))])else none
    |none=>none
   else none
  |_=>none
 |[.one (.p .nils),_]=>some (.tup [],[])
 |_=>none
def ah2{lt:Int×Int->Int×Int->Bool}{A:c7}{al:bP}{blk:aB}{v:V}{u:iB}(H:vk lt A al blk=some (v,u)):(∃id g len x h l,A=[.one (.hsl id g 2 0 len),x]/\blk id=(g,some (.arr h 2 (l.map ri)))/\len=I l/\len<4611686018427387904/\l.all xd/\al.ok id/\v=.tup []/\u=[(id,(g,some (.arr h 2 ((mH lt l).map ri))))])\/ ∃x,A=[.one (.p .nils),x]/\v=.tup []/\u=[]:=by
 unfold vk at H;split at H
 .rename_i id g len x;split at H
  .rename_i n h E r;cases j:(Nat.beq n g&&Nat.beq len (I E)&&Nat.blt len 4611686018427387904&&al.ok id)with
   |false=>rw[j]at H;cases H
   |true=>
    rw[j]at H;simp only[cq]at j;obtain⟨⟨⟨z,hl⟩,m⟩,q⟩:=j;obtain rfl:=sF z;have hl:=sF hl;have m:=gU m;simp only[cond_true]at H;split at H
    .rename_i l hp;cases f:l.all xd with
     |false=>rw[f]at H;cases H
     |true=>rw[f]at H;cases H;have y:=aki hp;subst y;exact .inl ⟨id,n,len,x,h,l,rfl,r,by simpa using hl,m,f,q,rfl,rfl⟩
    cases H
  cases H
 .cases H;exact .inr ⟨_,rfl,rfl,rfl⟩
 cases H
def V2{lt:Int×Int->Int×Int->Bool}{id len:Nat}{x:V}{l:tE}{al:bP}{blk:aB}(n:blk id=(g,some (.arr h 2 (l.map ri))))(hl:len=I l)(f:len<4611686018427387904)(H:l.all xd)(j:al.ok id):vk lt [.one (.hsl id g 2 0 len),x] al blk=some (.tup [],[(id,(g,some (.arr h 2 ((mH lt l).map ri))))]):=by subst hl;have m:Nat.blt (I l) 4611686018427387904:=Ui f;simp only[vk,n,cT,Hv,m,j,Ba,cond_true,ain,H]
def VC(P:Program)(lt:Int×Int->Int×Int->Bool)(f g:Nat):Prop:=Enters P f/\(∀(w:World),Calls P f #[.slice none 0 0,.func (.func g) #[] #[]] w λe h=>e=.returned (.tuple #[])/\h=w)/\ ∀(w:World) (blk j:Nat) (d:Array (Int×Int)),HoldsK oc 2 w blk 0 d->blk<w.heap.size->d.size<4611686018427387904->d.toList.all xd->
 Calls P f #[.slice (some ⟨blk,0,none⟩) d.size j,.func (.func g) #[] #[]] w λe h=>e=.returned (.tuple #[])/\ ∃n os,h=grow (putRowK oc 2 (Sort.ahead w n) blk 0 (mH lt d.toList).toArray) os
def amT{S:Sys}{G:World->Prop}{lt:Int×Int->Int×Int->Bool}(hC:VC S.P lt f g)(ht:S.trig=MX f g)(hp:S.primS=λ_=>vk lt):VX S G:=by
 intro f' vs al blk v ak F ad;have mG:S.primS f' vs al blk=vk lt vs al blk:=by rw[hp]
 rw[mG]at ad;rw[ht]at F;cases hr:vk lt vs al blk with
 |none=>rw[hr]at ad;cases ad
 |some r=>
 rw[hr]at ad;cases ad;rcases ah2 hr with⟨id,Z,len,x,h,l,rfl,X,hl,R,N,Y,hv,hu⟩|⟨x,rfl,hv,hu⟩
 .unfold MX at F;rw[cq]at F;obtain⟨hf,E⟩:=F;obtain rfl:=sF hf;rw[hv,hu];refine⟨⟨hC.1,λj m q hG O mE L=>?_⟩,λi D=>?_,λz T=>?_⟩
  .subst mE;split at E
   .rename_i et am an g' H;cases H;obtain rfl:=sF E;obtain⟨a1,y⟩:=L
    match ua:q.toList,a1,y with
    |[M,Q],_,y=>
     have r1:cY m (.hsl id Z 2 0 len) M:=y 0 _ _ rfl rfl;have r2:cY m (.p (.fn g' [] [])) Q:=y 1 _ _ rfl rfl;have SG:q= #[M,Q]:=by apply SF.1;rw[ua]
     subst SG;have l5:m.blk id=(Z,some (.arr h 2 (l.toArray.toList.map ri))):=by simpa using X
     obtain⟨aj,hh,_⟩:=O.obj id _ (by rw[l5]);cases r1 with
     |hsl a ab ir IJ hm dI=>
      obtain⟨_,vU,ag⟩:=dI 2 (by rw[X]) (by rw[X];rfl);have L:=vU (.inl rfl);rw[tt]at L;subst L;cases r2 with
      |p hq=>
       cases hq with
       |fn A B hA hB _ _=>
        obtain rfl:A= #[]:=Lt hA;obtain rfl:B= #[]:=Lt hB;subst hl;have hc:=hC.2.2 m.w (m.σ id) ab l.toArray (aiu O l5) (rY hh) (by simpa using R) (by simpa using N);rw[show l.toArray.size=I l from Sn]at hc;refine hc.mono ?_;rintro e w' ⟨rfl,n,os,rfl⟩
        have aa:=amu (n:=n) (os:=os) (D:=(mH lt l).toArray) O l5 (by simp[UJ]);have gy:wX j m (.tup []) (cQ m.blk id (Z,some (.arr h 2 ((mH lt l).map ri)))) (.returned (.tuple #[])) (grow (putRowK oc 2 (Sort.ahead m.w n) (m.σ id) 0 (mH lt l).toArray) os):=by simpa using aa
        exact gy
   .rename_i H;cases H
   cases E
  .show cQ blk id _ i=_;rw[bj,aD];rintro rfl
   rw[Y]at D;cases D
  have bc:z id=(Z,some (.arr h 2 (l.map ri))):=by rw[T id Y];exact X
  refine⟨_,by rw[hp];show Option.map _ (vk lt _ al z)=_;rw[V2 bc hl R N Y];rfl,λi=>?_⟩;show cQ z id _ i=if al.ok i then cQ blk id _ i else z i;simp only[bj];by_cases D:i=id
  .subst D;rw[aM rfl,aM Y,aM rfl]
  rw[aD D,aD D];split
  .rename_i h3;exact T i h3
  rfl
 unfold MX at F;rw[cq]at F;obtain⟨hf,E⟩:=F;obtain rfl:=sF hf;rw[hv,hu];refine⟨⟨hC.1,λj m q hG O mE L=>?_⟩,λi D=>rfl,λz T=>⟨z,by rw[hp];rfl,λi=>?_⟩⟩
 .subst mE;split at E
  .rename_i H;cases H
  .rename_i g' H;cases H;obtain rfl:=sF E;obtain⟨a1,y⟩:=L
   match ua:q.toList,a1,y with
   |[M,Q],_,y=>
    have r1:cY m (.p .nils) M:=y 0 _ _ rfl rfl;have r2:cY m (.p (.fn g' [] [])) Q:=y 1 _ _ rfl rfl;have SG:q= #[M,Q]:=by apply SF.1;rw[ua]
    subst SG;cases r1 with
    |p IY=>
    cases IY;cases r2 with
    |p hq=>
     cases hq with
     |fn A B hA hB _ _=>
      obtain rfl:A= #[]:=Lt hA;obtain rfl:B= #[]:=Lt hB;refine(hC.2.1 m.w).mono ?_;rintro e w' ⟨rfl,rfl⟩
      exact⟨.tuple #[],m,rfl,rfl,O,eY.refl m,rfl,rfl,(⟨#[],rfl,rfl,λap x u ad=>by simp at ad⟩:cg _ (.tup []) _)⟩
  cases E
 show z i=if al.ok i then blk i else z i;split
 .rename_i h3;exact T i h3
 rfl
abbrev uI:={p:Int×Int//xd p=true}
instance:Inhabited uI:=⟨⟨(0,0),rfl⟩⟩
abbrev KT(p:uI):List Value:=oc p.1
def xE(x y:uI):Int:=if x.1.1=y.1.1 then x.1.2-y.1.2 else x.1.1-y.1.1
def jS(x y:Int×Int):Bool:=if x.1=y.1 then decide (x.2<y.2)else decide (x.1<y.1)
def HD(x y:uI):ltOf xE x y=jS x.1 y.1:=by
 unfold ltOf xE jS;split
 .exact decide_eq_decide.2 ⟨λh=>J,λh=>J⟩
 exact decide_eq_decide.2 ⟨λh=>J,λh=>J⟩
def aaO(d:Array uI):flatK KT 2 d=flatK oc 2 (d.map (·.1)):=by
 unfold flatK;rw[Array.size_map];apply Array.ext
 .simp
 intro i H f;simp only[Array.getElem_map,Array.getElem_range];have h:i/2<d.size:=by simp at H;omega
 rw[getElem!_pos d _ h,getElem!_pos (d.map (·.1)) _ (by simpa using h)];simp
def aju(d:Array (Int×Int))(h:d.toList.all xd):∃D:Array uI,D.map (·.1)=d:=by refine⟨d.attach.map λp=>⟨p.1,gL.1 h p.1 (by simpa using p.2)⟩,?_⟩;rw[Array.map_map];exact Array.attach_map_subtype_val d
def Hs(x y:Int×Int):jS x y↔x.1<y.1\/(x.1=y.1/\x.2<y.2):=by
 unfold jS;split
 .rename_i h;rw[fH];omega
 rename_i h;rw[fH];omega
def HS(x y:Int×Int):jS x y=false↔ ¬(x.1<y.1\/(x.1=y.1/\x.2<y.2)):=by rw[<-Hs];simp
abbrev wa(x y:Int×Int):Bool:= !jS y x
def uV(x y:Int×Int):wa x y↔x.1<y.1\/(x.1=y.1/\x.2<=y.2):=by unfold wa;rw[hY,HS];omega
def aee:∀ {l m:tE},l.Perm m->l.Pairwise (λx y=>wa x y=true)->m.Pairwise (λx y=>wa x y=true)->l=m:=by
 intro l
 induction l with
 |nil=>intro m h _ _;exact(List.nil_perm.1 h).symm
 |cons a l f=>
  intro m h hl H;cases m with
  |nil=>exact absurd h.length_eq aG
  |cons b m=>
   have g:a=b:=by
    rcases dL.1 (h.subset (uO ..))with e|e
    .exact e
    rcases dL.1 (h.symm.subset (uO ..))with E|E
    .exact E.symm
    have n:=(uV _ _).1 ((pW.1 hl).1 b E);have j:=(uV _ _).1 ((pW.1 H).1 a e);exact zw J J
   subst g;rw[f ((List.perm_cons a).1 h) (pW.1 hl).2 (pW.1 H).2]
def aqS(x:Int×Int):∀ {l:tE},l.Pairwise (λx y=>wa x y=true)->(Cv jS x l).Pairwise (λx y=>wa x y=true):=by
 intro l
 induction l with
 |nil=>intro _;exact OE _ _
 |cons y r j=>
  intro h;obtain⟨g,m⟩:=pW.1 h;unfold Cv;cases f:jS y x with
  |false=>
   refine pW.2 ⟨λz H=>?_,h⟩;rw[uV];have f:=(HS _ _).1 f;rcases dL.1 H with rfl|H
   .omega
   have:=(uV _ _).1 (g z H);omega
  |true=>
   refine pW.2 ⟨λz H=>?_,j m⟩;rcases dL.1 ((XE jS x r).subset H)with rfl|H
   .rw[uV];have:=(Hs _ _).1 f;omega
   exact g z H
def Wk:∀(l:tE),(mH jS l).Pairwise (λx y=>wa x y=true):=by
 intro l
 induction l with
 |nil=>exact List.Pairwise.nil
 |cons x r f=>exact aqS x f
def aeV(l:tE):mH jS l=l.mergeSort wa:=by refine aee ((Sq jS l).trans (List.mergeSort_perm l wa).symm) (Wk l) ?_;exact List.pairwise_mergeSort (λa b c h H=>by rw[uV]at*;omega) (λa b=>by rw[jC,uV,uV];omega) l
def ale(l:List uI):(l.mergeSort λx y=> !jS y.1 x.1).map (·.1)=mH jS (l.map (·.1)):=by rw[aeV];exact List.map_mergeSort λa _ b _=>rfl
def swoP:SWO (ltOf xE) where
 irrefl x:=by rw[HD,HS];omega
 trans x y z H h:=by rw[HD,Hs]at*;omega
 ntrans x y z H h:=by rw[HD,HS]at*;omega
def totP(x y:uI)(h:ltOf xE x y=false)(H:ltOf xE y x=false):x=y:=by rw[HD,HS]at h H;exact Subtype.ext (zw J J)
def ahU{w:World}{blk:Nat}{d:Array uI}(h:HoldsK oc 2 w blk 0 (d.map (·.1))):HoldsK KT 2 w blk 0 d:=by unfold HoldsK at h |-;rw[aaO];exact h
def putS{w:World}{blk:Nat}(d:Array uI):putRowK KT 2 w blk 0 (d.toList.mergeSort λx y=> !(ltOf xE) y x).toArray=putRowK oc 2 w blk 0 (mH jS (d.map (·.1)).toList).toArray:=by
 unfold putRowK;rw[aaO];congr 2;have:(λx y:uI=> !(ltOf xE) y x)=λx y=> !jS y.1 x.1:=by funext x y;rw[HD]
 rw[this,Array.toList_map,<-ale];simp
end Go.Abs
