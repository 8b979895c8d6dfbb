/-
  A sort of the library as a call that changes an own array.
-/
import Derived.Test.YtniibcmpbldbcaaGreatDoorMc
import Derived.Shelf.GgSortFunc.RowK
import Derived.Shelf.SlSortCmp.Insertion
import Derived.Sort.Statements
set_option linter.all false
set_option maxRecDepth 100000
namespace Go.Abs
abbrev WH:=List (Nat×List V×RV)
def Kr(S:Sys)(l:WH):Prop:=∀e∈l,aH S e.1 e.2.1 e.2.2
theorem Kr.nil{S:Sys}:Kr S []:=fun e h=>by simp at h
theorem Kr.cons{S:Sys}{l:WH}{f:Nat}{a:List V}{r:RV}(h:aH S f a r)(hl:Kr S l):Kr S ((f,a,r)::l):=fun e he=>by
 rcases cT.1 he with rfl|he
 .exact h
 exact hl e he
end Go.Abs
namespace Go.Abs
open Go.Sort
theorem aqd{w0:World}{m:Mem}{id g ty sz:Nat}{es iG:List (List PV)}{W w':World}{uC:Array Value}(ao:Ok w0 m)(hb:m.blk id=(g,some (.arr ty sz es)))(hl:iG.length=es.length)(jU:∀e∈iG,e.length=sz)
  (vk:W.os=m.w.os) (ht:W.tape=m.w.tape) (l9:W.output=m.w.output) (hs:W.heap.size=m.w.heap.size) (hk:∀c,c≠m.σ id->W.heap[c]?=m.w.heap[c]?) (gh:W.heap[m.σ id]?=some (.cells uC ty (0,0))) (hsz:uC.size=m.κ id*sz)
  (dh:∀own,cX W own iG.flatten (uC.toList.take (iG.length*sz))) (hg:fm W w'):Bx w0 m (.tup []) (cZ m.blk id (g,some (.arr ty sz iG))) (.returned (.tuple #[])) w':=by
 have aU:(m.blk id).2=some (.arr ty sz es):=by rw[hb]
 obtain⟨cur,hh,jf,qY,l7,mJ,DX,AO⟩:=ao.obj id _ aU;have zE:sJ (m.jl W id (.arr ty sz iG)) id (.arr ty sz iG):=⟨uC,gh,jf,jU,by rw[hl];exact l7,mJ,hsz,dh _⟩;have dD:=JR (w':=W) (o:=.arr ty sz iG) aU rfl (by simp[kz]) vk ht l9 hs hk;have akN:=Nh aU rfl ao (by simp[kz]) vk ht l9 hs hk zE;have l8:=Gy (m:=m.jl W id (.arr ty sz iG)) (X:=fun _=>False) hg (fun c h=>h.elim);have fA:=Jl akN hg (X:=fun _=>False) (fun c h=>h.elim);refine⟨.tuple #[],(m.jl W id (.arr ty sz iG)).later w' (fun _=>False),rfl,rfl,fA,dD.trans l8,?_,?_,(⟨#[],rfl,rfl,fun j x u h=>by simp at h⟩:bN _ (.tup []) _)⟩
 .funext c;simp[Mem.later,Mem.jl]
 simp[Mem.later,Mem.jl,hb]
def encI(p:Int×Int):List Value:=[.int .i64 p.1,.int .i64 p.2]
abbrev uE(p:Int×Int):List PV:=[.int .i64 p.1,.int .i64 p.2]
theorem YO(p:Int×Int)(j:Nat):(encI p)[j%2]! =.int .i64 (if j%2=0 then p.1 else p.2):=by rcases sH j with h|h<;>simp[encI,h]
theorem aac:∀(l:List (Int×Int)) (j:Nat),j<l.length*2->(l.map uE).flatten[j]?=some (.int .i64 (if j%2=0 then (l[j/2]!).1 else (l[j/2]!).2)):=by
 intro l
 induction l with
 |nil=>intro j h;simp at h
 |cons p l ih=>
  intro j h;rw[dG,mR]
  match j with
  |0=>simp
  |1=>simp
  |j+2=>
   rw[nV af];have h2:=ih j (by simp at h;omega);have e1:(j+2)%2=j%2:=aa;have e2:(j+2)/2=j/2+1:=aa;rw[e1,e2]
   simpa using h2
theorem aad(l:List (Int×Int)):(l.map uE).flatten.length=l.length*2:=by
 induction l with
 |nil=>rfl
 |cons p l ih=>rw[dG,mR,fc,ih];simp;omega
theorem alE{w:World}{own:Nat->Prop}{k:IntKind}{n:Int}{v:Value}(h:bU w own (.int k n) v):v=.int k n:=by cases h;rfl
theorem aoS{w0:World}{m:Mem}{id g ty:Nat}{d:Array (Int×Int)}(ao:Ok w0 m)(hb:m.blk id=(g,some (.arr ty 2 (d.toList.map uE)))):HoldsK encI 2 m.w (m.σ id) 0 d:=by
 obtain⟨cur,hh,jf,qY,l7,mJ,DX,AO⟩:=ao.obj id _ (by rw[hb]);rw[cF] at l7 AO;intro j hj;rw[size_flatK] at hj;have k8:j<d.toList.length*2:=by simpa using hj
 have hf:=aac d.toList j k8;have eo:d.toList.length*2<=cur.size:=by rw[DX];exact lL _ l7
 have hcj:(cur.toList.take (d.toList.length*2))[j]?=some cur[j]:=by rw[List.getElem?_take_of_lt k8,Array.getElem?_toList,Array.getElem?_eq_getElem aa]
 have hv:=alE (AO.2 j _ _ hf hcj);refine⟨?_,?_⟩
 .rw[jc,BP hh,get_flatK _ _ _ _ hj,YO,Array.getElem?_eq_getElem aa,hv];have hq:j/2<d.size:=aa;have e:d.toList[j/2]! =d[j/2]! :=by rw[getElem!_pos d.toList _ (by simpa using hq),getElem!_pos d _ hq];simp
  rw[e];rfl
 unfold World.frozen?;rw[hh];simp
theorem adw(off:Nat)(d cur:Array Value):(putCells _root_.id off d cur).size=cur.size:=by simp[putCells]
theorem aqf{w0:World}{m:Mem}{id g ty n:Nat}{d d':Array (Int×Int)}{os:Array Obj}(ao:Ok w0 m)(hb:m.blk id=(g,some (.arr ty 2 (d.toList.map uE))))(hd:d'.size=d.size):
  Bx w0 m (.tup []) (cZ m.blk id (g,some (.arr ty 2 (d'.toList.map uE)))) (.returned (.tuple #[])) (grow (putRowK encI 2 (Sort.ahead m.w n) (m.σ id) 0 d') os):=by
 obtain⟨cur,hh,jf,qY,l7,mJ,DX,AO⟩:=ao.obj id _ (by rw[hb]);rw[cF] at l7 AO;have IE:d'.toList.length=d.toList.length:=by simpa using hd
 have hW:(putRowK encI 2 (Sort.ahead m.w n) (m.σ id) 0 d').heap=m.w.heap.modify (m.σ id) (onCells (putCells _root_.id 0 (flatK encI 2 d'))):=rfl;refine aqd (W:=putRowK encI 2 (Sort.ahead m.w n) (m.σ id) 0 d') (uC:=putCells _root_.id 0 (flatK encI 2 d') cur) ao hb (by simp[hd]) (fun e he=>?_) rfl rfl rfl ?_ (fun c hc=>?_) ?_ ?_ (fun own=>?_) ?_
 .obtain⟨p,_,rfl⟩:=dr.1 he;rfl
 .rw[hW];simp
 .rw[hW,Array.getElem?_modify,if_neg (Ne.symm hc)]
 .rw[hW,Array.getElem?_modify,if_pos rfl,hh];rfl
 .rw[adw,DX]
 .rw[cF];have eo:d'.toList.length*2<=cur.size:=by rw[DX,IE];exact lL _ l7
  refine⟨?_,fun j x u hx hu=>?_⟩
  .have h1:=adw 0 (flatK encI 2 d') cur;have h2:(putCells _root_.id 0 (flatK encI 2 d') cur).toList.length=cur.size:=by rw[Array.length_toList,h1]
   rw[aad,fJ,h2];omega
  have hj:j<d'.toList.length*2:=by rw[<- aad];exact(aV.1 hx).1
  rw[aac _ _ hj] at hx;cases hx;have jK:j<d'.size*2:=by simpa using hj
  rw[List.getElem?_take_of_lt hj,Array.getElem?_toList] at hu;unfold putCells at hu;rw[Array.getElem?_mapIdx,Array.getElem?_eq_getElem aa] at hu;simp only[kX,aY,jc,size_flatK,jK,and_self,if_true,Nat.sub_zero,fg] at hu;subst hu;rw[get_flatK _ _ _ _ jK,YO];have hq:j/2<d'.size:=aa;have e:d'.toList[j/2]! =d'[j/2]! :=by rw[getElem!_pos d'.toList _ (by simpa using hq),getElem!_pos d' _ hq];simp
  rw[e];exact bU.int _ _
 have:=fm.acX (putRowK encI 2 (Sort.ahead m.w n) (m.σ id) 0 d') 0 os;exact this
end Go.Abs
namespace Go.Abs
open Go.Sort Go.Proofs
def GR:List (List PV)->Option (List (Int×Int))
 |[]=>some []
 |[.int .i64 a,.int .i64 b]::r=>(GR r).map fun l=>(a,b)::l
 |_=>none
theorem aq1:∀ {es:List (List PV)} {l:List (Int×Int)},GR es=some l->es=l.map uE:=by
 intro es
 induction es with
 |nil=>intro l h;cases h;rfl
 |cons e r ih=>
  intro l h;unfold GR at h;split at h
  .rename_i h1;cases h1
  .rename_i a b r' h1;cases h1;cases hr:GR r with
   |none=>rw[hr] at h;cases h
   |some l'=>rw[hr] at h;cases h;rw[dG,<- ih hr]
  cases h
theorem aq2(l:List (Int×Int)):GR (l.map uE)=some l:=by
 induction l with
 |nil=>rfl
 |cons p r ih=>rw[dG];unfold GR;rw[ih];rfl
def zW(p:Int×Int):Bool:=decide (-1000000000000<=p.1)&&decide (p.1<=1000000000000)&&(decide (-1000000000000<=p.2)&&decide (p.2<=1000000000000))
def Jf(lt:Int×Int->Int×Int->Bool)(x:Int×Int):List (Int×Int)->List (Int×Int)
 |[]=>[x]
 |y::r=>bif lt y x then y::Jf lt x r else x::y::r
def tq(lt:Int×Int->Int×Int->Bool):List (Int×Int)->List (Int×Int)
 |[]=>[]
 |x::r=>Jf lt x (tq lt r)
theorem abC(lt:Int×Int->Int×Int->Bool)(x:Int×Int):∀l,(Jf lt x l).Perm (x::l):=by
 intro l
 induction l with
 |nil=>exact List.Perm.refl _
 |cons y r ih=>
  unfold Jf;cases lt y x with
  |false=>exact List.Perm.refl _
  |true=>exact(List.Perm.cons y ih).trans (List.Perm.swap x y r)
theorem aeB(lt:Int×Int->Int×Int->Bool):∀l,(tq lt l).Perm l:=by
 intro l
 induction l with
 |nil=>exact List.Perm.refl _
 |cons x r ih=>exact(abC lt x _).trans (List.Perm.cons x ih)
theorem aeA(lt:Int×Int->Int×Int->Bool)(l:List (Int×Int)):(tq lt l).length=l.length:=(aeB lt l).length_eq
def Qm(f g:Nat)(f':Nat)(args:List V):Bool:=Nat.beq f' f&&match args with
 |[.one (.hsl _ _ 2 0 _),.one (.p (.fn g' [] []))]=>Nat.beq g' g
 |[.one (.p .nils),.one (.p (.fn g' [] []))]=>Nat.beq g' g
 |_=>false
def Bh(lt:Int×Int->Int×Int->Bool)(args:List V)(al:Al)(blk:aB):Option (V×List eO):=match args with
 |[.one (.hsl id g 2 0 len),_]=>match blk id with
  |(g',some (.arr ty 2 es))=>bif Nat.beq g' g&&Nat.beq len es.length&&Nat.blt len 4611686018427387904&&al.ok id then
    match GR es with
    |some l=>bif l.all zW then some (.tup [],[(id,(g,some (.arr ty 2 ((tq lt l).map uE))))]) else none
    |none=>none
   else none
  |_=>none
 |[.one (.p .nils),_]=>some (.tup [],[])
 |_=>none
theorem aqc{lt:Int×Int->Int×Int->Bool}{args:List V}{al:Al}{blk:aB}{v:V}{u:List eO}(h:Bh lt args al blk=some (v,u)):(∃id g len x ty l,args=[.one (.hsl id g 2 0 len),x]/\blk id=(g,some (.arr ty 2 (l.map uE)))/\len=l.length/\len<4611686018427387904/\l.all zW=true/\al.ok id=true/\v=.tup []/\u=[(id,(g,some (.arr ty 2 ((tq lt l).map uE))))])\/ ∃x,args=[.one (.p .nils),x]/\v=.tup []/\u=[]:=by
 unfold Bh at h;split at h
 .rename_i id g len x;split at h
  .rename_i g' ty es hb;cases hc:(Nat.beq g' g&&Nat.beq len es.length&&Nat.blt len 4611686018427387904&&al.ok id) with
   |false=>rw[hc] at h;cases h
   |true=>
    rw[hc] at h;simp only[bQ] at hc;obtain⟨⟨⟨h1,hl⟩,hm⟩,ho⟩:=hc;obtain rfl:=sG h1;have hl:=sG hl;have hm:=hU hm;simp only[cond_true] at h;split at h
    .rename_i l hp;cases hsm:l.all zW with
     |false=>rw[hsm] at h;cases h
     |true=>rw[hsm] at h;cases h;have he:=aq1 hp;subst he;exact .inl ⟨id,g',len,x,ty,l,rfl,hb,by simpa using hl,hm,hsm,ho,rfl,rfl⟩
    cases h
  cases h
 .cases h;exact .inr ⟨_,rfl,rfl,rfl⟩
 cases h
theorem aeu{lt:Int×Int->Int×Int->Bool}{id g len ty:Nat}{x:V}{l:List (Int×Int)}{al:Al}{blk:aB}(hb:blk id=(g,some (.arr ty 2 (l.map uE))))(hl:len=l.length)(hm:len<4611686018427387904)(hsm:l.all zW=true)(ho:al.ok id=true):Bh lt [.one (.hsl id g 2 0 len),x] al blk=some (.tup [],[(id,(g,some (.arr ty 2 ((tq lt l).map uE))))]):=by subst hl;have h1:Nat.blt l.length 4611686018427387904=true:=Nat.ble_eq_true_of_le hm;simp only[Bh,hb,cF,Nat.beq_refl,h1,ho,Fl,cond_true,aq2,hsm]
def WZ(P:Program)(lt:Int×Int->Int×Int->Bool)(f g:Nat):Prop:=Enters P f/\(∀(w:World),Calls P f #[.slice none 0 0,.func (.func g) #[] #[]] w fun e w'=>e=.returned (.tuple #[])/\w'=w)/\ ∀(w:World) (blk cap:Nat) (d:Array (Int×Int)),HoldsK encI 2 w blk 0 d->blk<w.heap.size->d.size<4611686018427387904->d.toList.all zW=true->
 Calls P f #[.slice (some ⟨blk,0,none⟩) d.size cap,.func (.func g) #[] #[]] w fun e w'=>e=.returned (.tuple #[])/\ ∃n os,w'=grow (putRowK encI 2 (Sort.ahead w n) blk 0 (tq lt d.toList).toArray) os
theorem aqb{S:Sys}{G:World->Prop}{lt:Int×Int->Int×Int->Bool}{f g:Nat}(hC:WZ S.P lt f g)(ht:S.trig=Qm f g)(hp:S.primS=fun _=>Bh lt):WK S G:=by
 intro f' vs al blk v ak vq h;have lS:S.primS f' vs al blk=Bh lt vs al blk:=by rw[hp]
 rw[lS] at h;rw[ht] at vq;cases hr:Bh lt vs al blk with
 |none=>rw[hr] at h;cases h
 |some r=>
 rw[hr] at h;cases h;rcases aqc hr with ⟨id,gg,len,x,ty,l,rfl,hb,hl,Ej,hsm,ho,hv,hu⟩|⟨x,rfl,hv,hu⟩
 .unfold Qm at vq;rw[bQ] at vq;obtain⟨hf,hx⟩:=vq;obtain rfl:=sG hf;rw[hv,hu];refine⟨⟨hC.1,fun w0 m args hG ao mH ha=>?_⟩,fun i hi=>?_,fun aT h2=>?_⟩
  .subst mH;split at hx
   .rename_i eV gg' amh g' heq;cases heq;obtain rfl:=sG hx;obtain⟨a1,a2⟩:=ha
    match wL:args.toList,a1,a2 with
    |[u1,u2],_,a2=>
     have r1:cN m (.hsl id gg 2 0 len) u1:=a2 0 _ _ rfl rfl;have r2:cN m (.p (.fn g' [] [])) u2:=a2 1 _ _ rfl rfl;have T7:args= #[u1,u2]:=by apply Array.toList_inj.1;rw[wL]
     subst T7;have xV:m.blk id=(gg,some (.arr ty 2 (l.toArray.toList.map uE))):=by simpa using hb
     obtain⟨cur,hh,_⟩:=ao.obj id _ (by rw[xV]);cases r1 with
     |hsl a cap iM hlc hm dY=>
      obtain⟨_,xS,hcap⟩:=dY 2 (by rw[hb]) (by rw[hb];rfl);have ha:=xS (.inl rfl);rw[yL] at ha;subst ha;cases r2 with
      |p hq=>
       cases hq with
       |fn A B hA hB _ _=>
        obtain rfl:A= #[]:=Array.eq_empty_of_size_eq_zero hA;obtain rfl:B= #[]:=Array.eq_empty_of_size_eq_zero hB;subst hl;have hc:=hC.2.2 m.w (m.σ id) cap l.toArray (aoS ao xV) (uI hh) (by simpa using Ej) (by simpa using hsm);rw[show l.toArray.size=l.length from List.size_toArray] at hc;refine hc.mono ?_;rintro e w' ⟨rfl,n,os,rfl⟩
        have hs:=aqf (n:=n) (os:=os) (d':=(tq lt l).toArray) ao xV (by simp[aeA]);have eH:Bx w0 m (.tup []) (cZ m.blk id (gg,some (.arr ty 2 ((tq lt l).map uE)))) (.returned (.tuple #[])) (grow (putRowK encI 2 (Sort.ahead m.w n) (m.σ id) 0 (tq lt l).toArray) os):=by simpa using hs
        exact eH
   .rename_i heq;cases heq
   cases hx
  .show cZ blk id _ i=_;rw[aS,if_neg];rintro rfl
   rw[ho] at hi;cases hi
  have aU:aT id=(gg,some (.arr ty 2 (l.map uE))):=by rw[h2 id ho];exact hb
  refine⟨_,by rw[hp];show Option.map _ (Bh lt _ al aT)=_;rw[aeu aU hl Ej hsm ho];rfl,fun i=>?_⟩;show cZ aT id _ i=if al.ok i then cZ blk id _ i else aT i;simp only[aS];by_cases hi:i=id
  .subst hi;rw[if_pos rfl,if_pos ho,if_pos rfl]
  rw[if_neg hi,if_neg hi];split
  .rename_i h3;exact h2 i h3
  rfl
 unfold Qm at vq;rw[bQ] at vq;obtain⟨hf,hx⟩:=vq;obtain rfl:=sG hf;rw[hv,hu];refine⟨⟨hC.1,fun w0 m args hG ao mH ha=>?_⟩,fun i hi=>rfl,fun aT h2=>⟨aT,by rw[hp];rfl,fun i=>?_⟩⟩
 .subst mH;split at hx
  .rename_i heq;cases heq
  .rename_i g' heq;cases heq;obtain rfl:=sG hx;obtain⟨a1,a2⟩:=ha
   match wL:args.toList,a1,a2 with
   |[u1,u2],_,a2=>
    have r1:cN m (.p .nils) u1:=a2 0 _ _ rfl rfl;have r2:cN m (.p (.fn g' [] [])) u2:=a2 1 _ _ rfl rfl;have T7:args= #[u1,u2]:=by apply Array.toList_inj.1;rw[wL]
    subst T7;cases r1 with
    |p Gh=>
    cases Gh;cases r2 with
    |p hq=>
     cases hq with
     |fn A B hA hB _ _=>
      obtain rfl:A= #[]:=Array.eq_empty_of_size_eq_zero hA;obtain rfl:B= #[]:=Array.eq_empty_of_size_eq_zero hB;refine(hC.2.1 m.w).mono ?_;rintro e w' ⟨rfl,rfl⟩
      exact⟨.tuple #[],m,rfl,rfl,ao,Ev.refl m,rfl,rfl,(⟨#[],rfl,rfl,fun j x u h=>by simp at h⟩:bN _ (.tup []) _)⟩
  cases hx
 show aT i=if al.ok i then blk i else aT i;split
 .rename_i h3;exact h2 i h3
 rfl
abbrev xC:={p:Int×Int//zW p=true}
instance:Inhabited xC:=⟨⟨(0,0),rfl⟩⟩
abbrev Of(p:xC):List Value:=encI p.1
def Ah(x y:xC):Int:=if x.1.1=y.1.1 then x.1.2-y.1.2 else x.1.1-y.1.1
def nJ(x y:Int×Int):Bool:=if x.1=y.1 then decide (x.2<y.2) else decide (x.1<y.1)
theorem MM(x y:xC):ltOf Ah x y=nJ x.1 y.1:=by
 unfold ltOf Ah nJ;split
 .exact decide_eq_decide.2 ⟨fun h=>aa,fun h=>aa⟩
 exact decide_eq_decide.2 ⟨fun h=>aa,fun h=>aa⟩
theorem aae(d:Array xC):flatK Of 2 d=flatK encI 2 (d.map (·.1)):=by
 unfold flatK;rw[Array.size_map];apply Array.ext
 .simp
 intro i h1 h2;simp only[Array.getElem_map,Array.getElem_range];have hi:i/2<d.size:=by simp at h1;omega
 rw[getElem!_pos d _ hi,getElem!_pos (d.map (·.1)) _ (by simpa using hi)];simp
theorem amt(d:Array (Int×Int))(h:d.toList.all zW=true):∃d':Array xC,d'.map (·.1)=d:=by refine⟨d.attach.map fun p=>⟨p.1,iC.1 h p.1 (by simpa using p.2)⟩,?_⟩;rw[Array.map_map];exact Array.attach_map_subtype_val d
theorem U6(x y:Int×Int):nJ x y=true↔x.1<y.1\/(x.1=y.1/\x.2<y.2):=by
 unfold nJ;split
 .rename_i h;rw[decide_eq_true_eq];omega
 rename_i h;rw[decide_eq_true_eq];omega
theorem MN(x y:Int×Int):nJ x y=false↔ ¬(x.1<y.1\/(x.1=y.1/\x.2<y.2)):=by rw[<- U6];simp
abbrev CE(x y:Int×Int):Bool:= !nJ y x
theorem EF(x y:Int×Int):CE x y=true↔x.1<y.1\/(x.1=y.1/\x.2<=y.2):=by unfold CE;rw[gH,MN];omega
theorem ars:∀ {l m:List (Int×Int)},l.Perm m->l.Pairwise (fun x y=>CE x y=true)->m.Pairwise (fun x y=>CE x y=true)->l=m:=by
 intro l
 induction l with
 |nil=>intro m h _ _;exact(List.nil_perm.1 h).symm
 |cons a l ih=>
  intro m h hl hm;cases m with
  |nil=>exact absurd h.length_eq af
  |cons b m=>
   have ju:a=b:=by
    rcases cT.1 (h.subset (Bs ..)) with e|e
    .exact e
    rcases cT.1 (h.symm.subset (Bs ..)) with e2|e2
    .exact e2.symm
    have h1:=(EF _ _).1 ((jP.1 hl).1 b e2);have h2:=(EF _ _).1 ((jP.1 hm).1 a e);exact Prod.ext aa aa
   subst ju;rw[ih ((List.perm_cons a).1 h) (jP.1 hl).2 (jP.1 hm).2]
theorem alx(x:Int×Int):∀ {l:List (Int×Int)},l.Pairwise (fun x y=>CE x y=true)->(Jf nJ x l).Pairwise (fun x y=>CE x y=true):=by
 intro l
 induction l with
 |nil=>intro _;exact Hj _ _
 |cons y r ih=>
  intro h;obtain⟨h1,h2⟩:=jP.1 h;unfold Jf;cases hc:nJ y x with
  |false=>
   refine jP.2 ⟨fun z hz=>?_,h⟩;rw[EF];have hc:=(MN _ _).1 hc;rcases cT.1 hz with rfl|hz
   .omega
   have:=(EF _ _).1 (h1 z hz);omega
  |true=>
   refine jP.2 ⟨fun z hz=>?_,ih h2⟩;rcases cT.1 ((abC nJ x r).subset hz) with rfl|hz
   .rw[EF];have:=(U6 _ _).1 hc;omega
   exact h1 z hz
theorem aqp:∀(l:List (Int×Int)),(tq nJ l).Pairwise (fun x y=>CE x y=true):=by
 intro l
 induction l with
 |nil=>exact List.Pairwise.nil
 |cons x r ih=>exact alx x ih
theorem aqn(l:List (Int×Int)):tq nJ l=l.mergeSort CE:=by refine ars ((aeB nJ l).trans (List.mergeSort_perm l CE).symm) (aqp l) ?_;exact List.pairwise_mergeSort (fun a b c h1 h2=>by rw[EF] at*;omega) (fun a b=>by rw[uq,EF,EF];omega) l
theorem aqo(l:List xC):(l.mergeSort fun x y=> !nJ y.1 x.1).map (·.1)=tq nJ (l.map (·.1)):=by rw[aqn];exact List.map_mergeSort fun a _ b _=>rfl
theorem swoP:SWO (ltOf Ah) where
 irrefl x:=by rw[MM,MN];omega
 trans x y z h1 h2:=by rw[MM,U6] at*;omega
 ntrans x y z h1 h2:=by rw[MM,MN] at*;omega
theorem totP(x y:xC)(h1:ltOf Ah x y=false)(h2:ltOf Ah y x=false):x=y:=by rw[MM,MN] at h1 h2;exact Subtype.ext (Prod.ext aa aa)
theorem akP{w:World}{blk:Nat}{d:Array xC}(h:HoldsK encI 2 w blk 0 (d.map (·.1))):HoldsK Of 2 w blk 0 d:=by unfold HoldsK at h ⊢;rw[aae];exact h
theorem putS{w:World}{blk:Nat}(d:Array xC):putRowK Of 2 w blk 0 (d.toList.mergeSort fun x y=> !(ltOf Ah) y x).toArray=putRowK encI 2 w blk 0 (tq nJ (d.map (·.1)).toList).toArray:=by
 unfold putRowK;rw[aae];congr 2;have:(fun x y:xC=> !(ltOf Ah) y x)=fun x y=> !nJ y.1 x.1:=by funext x y;rw[MM]
 rw[this,Array.toList_map,<- aqo];simp
end Go.Abs
