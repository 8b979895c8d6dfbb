/-
  A sort of the library as a call that changes an own array.
-/
import Derived.Test.YtfgognempokgkaaGreatDoorMc
import Derived.Shelf.GgSortFunc.RowK
import Derived.Shelf.SlSortCmp.Insertion
import Derived.Sort.Statements
set_option linter.all false
set_option maxRecDepth 100000
namespace Go.Abs
abbrev OF:=List (Nat×List V×RV)
def DQ(S:Sys)(l:OF):Prop:=∀e∈l,aE S e.1 e.2.1 e.2.2
theorem DQ.nil{S:Sys}:DQ S []:=fun e h=>by simp at h
theorem DQ.cons{S:Sys}{l:OF}{f:Nat}{a:List V}{r:RV}(h:aE S f a r)(hl:DQ S l):DQ S ((f,a,r)::l):=fun e he=>by
 rcases dU.1 he with rfl|he
 .exact h
 exact hl e he
end Go.Abs
namespace Go.Abs
open Go.Sort
theorem afY{w0:World}{m:Mem}{id g ty sz:Nat}{es fB:List (List PV)}{W w':World}{pT:Array Value}(aq:Ok w0 m)(hb:m.blk id=(g,some (.arr ty sz es)))(hl:fB.length=es.length)(ig:∀e∈fB,e.length=sz)
  (qK:W.os=m.w.os) (ht:W.tape=m.w.tape) (jD:W.output=m.w.output) (hs:W.heap.size=m.w.heap.size) (hk:∀c,c≠m.σ id->W.heap[c]?=m.w.heap[c]?) (gJ:W.heap[m.σ id]?=some (.cells pT ty (0,0))) (hsz:pT.size=m.κ id*sz)
  (cn:∀own,bQ W own fB.flatten (pT.toList.take (fB.length*sz))) (hg:ew W w'):vR w0 m (.tup []) (ca m.blk id (g,some (.arr ty sz fB))) (.returned (.tuple #[])) w':=by
 have aS:(m.blk id).2=some (.arr ty sz es):=by rw[hb]
 obtain⟨cur,hh,jR,mD,n9,kB,yz,vn⟩:=aq.obj id _ aS;have uB:nK (m.gb W id (.arr ty sz fB)) id (.arr ty sz fB):=⟨pT,gJ,jR,ig,by rw[hl];exact n9,kB,hsz,cn _⟩;have ek:=Dm (w':=W) (o:=.arr ty sz fB) aS rfl (by simp[iE]) qK ht jD hs hk;have abh:=GC aS rfl aq (by simp[iE]) qK ht jD hs hk uB;have jY:=CM (m:=m.gb W id (.arr ty sz fB)) (X:=fun _=>False) hg (fun c h=>h.elim);have eY:=Ge abh hg (X:=fun _=>False) (fun c h=>h.elim);refine⟨.tuple #[],(m.gb W id (.arr ty sz fB)).later w' (fun _=>False),rfl,rfl,eY,ek.trans jY,?_,?_,(⟨#[],rfl,rfl,fun j x u h=>by simp at h⟩:aY _ (.tup []) _)⟩
 .funext c;simp[Mem.later,Mem.gb]
 simp[Mem.later,Mem.gb,hb]
def encI(p:Int×Int):List Value:=[.int .i64 p.1,.int .i64 p.2]
abbrev pV(p:Int×Int):List PV:=[.int .i64 p.1,.int .i64 p.2]
theorem Qv(p:Int×Int)(j:Nat):(encI p)[j%2]! =.int .i64 (if j%2=0 then p.1 else p.2):=by rcases DM j with h|h<;>simp[encI,h]
theorem Se:∀(l:List (Int×Int)) (j:Nat),j<l.length*2->(l.map pV).flatten[j]?=some (.int .i64 (if j%2=0 then (l[j/2]!).1 else (l[j/2]!).2)):=by
 intro l
 induction l with
 |nil=>intro j h;simp at h
 |cons p l ih=>
  intro j h;rw[dE,kb]
  match j with
  |0=>simp
  |1=>simp
  |j+2=>
   rw[zG af];have h2:=ih j (by simp at h;omega);have e1:(j+2)%2=j%2:=aa;have e2:(j+2)/2=j/2+1:=aa;rw[e1,e2]
   simpa using h2
theorem Sf(l:List (Int×Int)):(l.map pV).flatten.length=l.length*2:=by
 induction l with
 |nil=>rfl
 |cons p l ih=>rw[dE,kb,iW,ih];simp;omega
theorem abZ{w:World}{own:Nat->Prop}{k:IntKind}{n:Int}{v:Value}(h:bh w own (.int k n) v):v=.int k n:=by cases h;rfl
theorem aeI{w0:World}{m:Mem}{id g ty:Nat}{d:Array (Int×Int)}(aq:Ok w0 m)(hb:m.blk id=(g,some (.arr ty 2 (d.toList.map pV)))):HoldsK encI 2 m.w (m.σ id) 0 d:=by
 obtain⟨cur,hh,jR,mD,n9,kB,yz,vn⟩:=aq.obj id _ (by rw[hb]);rw[cq] at n9 vn;intro j hj;rw[size_flatK] at hj;have pj:j<d.toList.length*2:=by simpa using hj
 have hf:=Se d.toList j pj;have ef:d.toList.length*2<=cur.size:=by rw[yz];exact jJ _ n9
 have hcj:(cur.toList.take (d.toList.length*2))[j]?=some cur[j]:=by rw[List.getElem?_take_of_lt pj,Array.getElem?_toList,Array.getElem?_eq_getElem aa]
 have hv:=abZ (vn.2 j _ _ hf hcj);refine⟨?_,?_⟩
 .rw[kZ,BU hh,get_flatK _ _ _ _ hj,Qv,Array.getElem?_eq_getElem aa,hv];have hq:j/2<d.size:=aa;have e:d.toList[j/2]! =d[j/2]! :=by rw[getElem!_pos d.toList _ (by simpa using hq),getElem!_pos d _ hq];simp
  rw[e];rfl
 unfold World.frozen?;rw[hh];simp
theorem U0(off:Nat)(d cur:Array Value):(putCells _root_.id off d cur).size=cur.size:=by simp[putCells]
theorem af0{w0:World}{m:Mem}{id g ty n:Nat}{d d':Array (Int×Int)}{os:Array Obj}(aq:Ok w0 m)(hb:m.blk id=(g,some (.arr ty 2 (d.toList.map pV))))(hd:d'.size=d.size):
  vR w0 m (.tup []) (ca m.blk id (g,some (.arr ty 2 (d'.toList.map pV)))) (.returned (.tuple #[])) (grow (putRowK encI 2 (Sort.ahead m.w n) (m.σ id) 0 d') os):=by
 obtain⟨cur,hh,jR,mD,n9,kB,yz,vn⟩:=aq.obj id _ (by rw[hb]);rw[cq] at n9 vn;have Cl:d'.toList.length=d.toList.length:=by simpa using hd
 have hW:(putRowK encI 2 (Sort.ahead m.w n) (m.σ id) 0 d').heap=m.w.heap.modify (m.σ id) (onCells (putCells _root_.id 0 (flatK encI 2 d'))):=rfl;refine afY (W:=putRowK encI 2 (Sort.ahead m.w n) (m.σ id) 0 d') (pT:=putCells _root_.id 0 (flatK encI 2 d') cur) aq hb (by simp[hd]) (fun e he=>?_) rfl rfl rfl ?_ (fun c hc=>?_) ?_ ?_ (fun own=>?_) ?_
 .obtain⟨p,_,rfl⟩:=iX.1 he;rfl
 .rw[hW];simp
 .rw[hW,Array.getElem?_modify,if_neg (Ne.symm hc)]
 .rw[hW,Array.getElem?_modify,if_pos rfl,hh];rfl
 .rw[U0,yz]
 .rw[cq];have ef:d'.toList.length*2<=cur.size:=by rw[yz,Cl];exact jJ _ n9
  refine⟨?_,fun j x u hx hu=>?_⟩
  .have h1:=U0 0 (flatK encI 2 d') cur;have h2:(putCells _root_.id 0 (flatK encI 2 d') cur).toList.length=cur.size:=by rw[Array.length_toList,h1]
   rw[Sf,jt,h2];omega
  have hj:j<d'.toList.length*2:=by rw[<- Sf];exact(bn.1 hx).1
  rw[Se _ _ hj] at hx;cases hx;have iR:j<d'.size*2:=by simpa using hj
  rw[List.getElem?_take_of_lt hj,Array.getElem?_toList] at hu;unfold putCells at hu;rw[Array.getElem?_mapIdx,Array.getElem?_eq_getElem aa] at hu;simp only[kM,bc,kZ,size_flatK,iR,and_self,if_true,Nat.sub_zero,dV] at hu;subst hu;rw[get_flatK _ _ _ _ iR,Qv];have hq:j/2<d'.size:=aa;have e:d'.toList[j/2]! =d'[j/2]! :=by rw[getElem!_pos d'.toList _ (by simpa using hq),getElem!_pos d' _ hq];simp
  rw[e];exact bh.int _ _
 have:=ew.Uv (putRowK encI 2 (Sort.ahead m.w n) (m.σ id) 0 d') 0 os;exact this
end Go.Abs
namespace Go.Abs
open Go.Sort Go.Proofs
def Be:List (List PV)->Option (List (Int×Int))
 |[]=>some []
 |[.int .i64 a,.int .i64 b]::r=>(Be r).map fun l=>(a,b)::l
 |_=>none
theorem agE:∀ {es:List (List PV)} {l:List (Int×Int)},Be es=some l->es=l.map pV:=by
 intro es
 induction es with
 |nil=>intro l h;cases h;rfl
 |cons e r ih=>
  intro l h;unfold Be at h;split at h
  .rename_i h1;cases h1
  .rename_i a b r' h1;cases h1;cases hr:Be r with
   |none=>rw[hr] at h;cases h
   |some l'=>rw[hr] at h;cases h;rw[dE,<- ih hr]
  cases h
theorem agF(l:List (Int×Int)):Be (l.map pV)=some l:=by
 induction l with
 |nil=>rfl
 |cons p r ih=>rw[dE];unfold Be;rw[ih];rfl
def uP(p:Int×Int):Bool:=decide (-1000000000000<=p.1)&&decide (p.1<=1000000000000)&&(decide (-1000000000000<=p.2)&&decide (p.2<=1000000000000))
def CI(lt:Int×Int->Int×Int->Bool)(x:Int×Int):List (Int×Int)->List (Int×Int)
 |[]=>[x]
 |y::r=>bif lt y x then y::CI lt x r else x::y::r
def oD(lt:Int×Int->Int×Int->Bool):List (Int×Int)->List (Int×Int)
 |[]=>[]
 |x::r=>CI lt x (oD lt r)
theorem Tw(lt:Int×Int->Int×Int->Bool)(x:Int×Int):∀l,(CI lt x l).Perm (x::l):=by
 intro l
 induction l with
 |nil=>exact List.Perm.refl _
 |cons y r ih=>
  unfold CI;cases lt y x with
  |false=>exact List.Perm.refl _
  |true=>exact(List.Perm.cons y ih).trans (List.Perm.swap x y r)
theorem VQ(lt:Int×Int->Int×Int->Bool):∀l,(oD lt l).Perm l:=by
 intro l
 induction l with
 |nil=>exact List.Perm.refl _
 |cons x r ih=>exact(Tw lt x _).trans (List.Perm.cons x ih)
theorem VP(lt:Int×Int->Int×Int->Bool)(l:List (Int×Int)):(oD lt l).length=l.length:=(VQ lt l).length_eq
def I6(f g:Nat)(f':Nat)(args:List V):Bool:=Nat.beq f' f&&match args with
 |[.one (.hsl _ _ 2 0 _),.one (.p (.fn g' [] []))]=>Nat.beq g' g
 |[.one (.p .nils),.one (.p (.fn g' [] []))]=>Nat.beq g' g
 |_=>false
def vH(lt:Int×Int->Int×Int->Bool)(args:List V)(al:Al)(blk:aw):Option (V×List dH):=match args with
 |[.one (.hsl id g 2 0 len),_]=>match blk id with
  |(g',some (.arr ty 2 es))=>bif Nat.beq g' g&&Nat.beq len es.length&&Nat.blt len 4611686018427387904&&al.ok id then
    match Be es with
    |some l=>bif l.all uP then some (.tup [],[(id,(g,some (.arr ty 2 ((oD lt l).map pV))))]) else none
    |none=>none
   else none
  |_=>none
 |[.one (.p .nils),_]=>some (.tup [],[])
 |_=>none
theorem afX{lt:Int×Int->Int×Int->Bool}{args:List V}{al:Al}{blk:aw}{v:V}{u:List dH}(h:vH lt args al blk=some (v,u)):(∃id g len x ty l,args=[.one (.hsl id g 2 0 len),x]/\blk id=(g,some (.arr ty 2 (l.map pV)))/\len=l.length/\len<4611686018427387904/\l.all uP=true/\al.ok id=true/\v=.tup []/\u=[(id,(g,some (.arr ty 2 ((oD lt l).map pV))))])\/ ∃x,args=[.one (.p .nils),x]/\v=.tup []/\u=[]:=by
 unfold vH at h;split at h
 .rename_i id g len x;split at h
  .rename_i g' ty es hb;cases hc:(Nat.beq g' g&&Nat.beq len es.length&&Nat.blt len 4611686018427387904&&al.ok id) with
   |false=>rw[hc] at h;cases h
   |true=>
    rw[hc] at h;simp only[cA] at hc;obtain⟨⟨⟨h1,hl⟩,hm⟩,ho⟩:=hc;obtain rfl:=nI h1;have hl:=nI hl;have hm:=fy hm;simp only[cond_true] at h;split at h
    .rename_i l hp;cases hsm:l.all uP with
     |false=>rw[hsm] at h;cases h
     |true=>rw[hsm] at h;cases h;have he:=agE hp;subst he;exact .inl ⟨id,g',len,x,ty,l,rfl,hb,by simpa using hl,hm,hsm,ho,rfl,rfl⟩
    cases h
  cases h
 .cases h;exact .inr ⟨_,rfl,rfl,rfl⟩
 cases h
theorem VL{lt:Int×Int->Int×Int->Bool}{id g len ty:Nat}{x:V}{l:List (Int×Int)}{al:Al}{blk:aw}(hb:blk id=(g,some (.arr ty 2 (l.map pV))))(hl:len=l.length)(hm:len<4611686018427387904)(hsm:l.all uP=true)(ho:al.ok id=true):vH lt [.one (.hsl id g 2 0 len),x] al blk=some (.tup [],[(id,(g,some (.arr ty 2 ((oD lt l).map pV))))]):=by subst hl;have h1:Nat.blt l.length 4611686018427387904=true:=Nat.ble_eq_true_of_le hm;simp only[vH,hb,cq,Nat.beq_refl,h1,ho,Bo,cond_true,agF,hsm]
def OT(P:Program)(lt:Int×Int->Int×Int->Bool)(f g:Nat):Prop:=Enters P f/\(∀(w:World),Calls P f #[.slice none 0 0,.func (.func g) #[] #[]] w fun e w'=>e=.returned (.tuple #[])/\w'=w)/\ ∀(w:World) (blk cap:Nat) (d:Array (Int×Int)),HoldsK encI 2 w blk 0 d->blk<w.heap.size->d.size<4611686018427387904->d.toList.all uP=true->
 Calls P f #[.slice (some ⟨blk,0,none⟩) d.size cap,.func (.func g) #[] #[]] w fun e w'=>e=.returned (.tuple #[])/\ ∃n os,w'=grow (putRowK encI 2 (Sort.ahead w n) blk 0 (oD lt d.toList).toArray) os
theorem afW{S:Sys}{G:World->Prop}{lt:Int×Int->Int×Int->Bool}{f g:Nat}(hC:OT S.P lt f g)(ht:S.trig=I6 f g)(hp:S.primS=fun _=>vH lt):OI S G:=by
 intro f' vs al blk v ak AU h;have kS:S.primS f' vs al blk=vH lt vs al blk:=by rw[hp]
 rw[kS] at h;rw[ht] at AU;cases hr:vH lt vs al blk with
 |none=>rw[hr] at h;cases h
 |some r=>
 rw[hr] at h;cases h;rcases afX hr with ⟨id,gg,len,x,ty,l,rfl,hb,hl,hlm,hsm,ho,hv,hu⟩|⟨x,rfl,hv,hu⟩
 .unfold I6 at AU;rw[cA] at AU;obtain⟨hf,hx⟩:=AU;obtain rfl:=nI hf;rw[hv,hu];refine⟨⟨hC.1,fun w0 m args hG aq lA ha=>?_⟩,fun i hi=>?_,fun aN h2=>?_⟩
  .subst lA;split at hx
   .rename_i dL gg' acy g' heq;cases heq;obtain rfl:=nI hx;obtain⟨a1,a2⟩:=ha
    match rX:args.toList,a1,a2 with
    |[u1,u2],_,a2=>
     have r1:bG m (.hsl id gg 2 0 len) u1:=a2 0 _ _ rfl rfl;have r2:bG m (.p (.fn g' [] [])) u2:=a2 1 _ _ rfl rfl;have Mo:args= #[u1,u2]:=by apply Array.toList_inj.1;rw[rX]
     subst Mo;have wQ:m.blk id=(gg,some (.arr ty 2 (l.toArray.toList.map pV))):=by simpa using hb
     obtain⟨cur,hh,_⟩:=aq.obj id _ (by rw[wQ]);cases r1 with
     |hsl a cap gK hlc hm dh=>
      obtain⟨_,uq,hcap⟩:=dh 2 (by rw[hb]) (by rw[hb];rfl);have ha:=uq (.inl rfl);rw[uV] at ha;subst ha;cases r2 with
      |p hq=>
       cases hq with
       |fn A B hA hB _ _=>
        obtain rfl:A= #[]:=Array.eq_empty_of_size_eq_zero hA;obtain rfl:B= #[]:=Array.eq_empty_of_size_eq_zero hB;subst hl;have hc:=hC.2.2 m.w (m.σ id) cap l.toArray (aeI aq wQ) (qe hh) (by simpa using hlm) (by simpa using hsm);rw[show l.toArray.size=l.length from List.size_toArray] at hc;refine hc.mono ?_;rintro e w' ⟨rfl,n,os,rfl⟩
        have hs:=af0 (n:=n) (os:=os) (d':=(oD lt l).toArray) aq wQ (by simp[VP]);have eP:vR w0 m (.tup []) (ca m.blk id (gg,some (.arr ty 2 ((oD lt l).map pV)))) (.returned (.tuple #[])) (grow (putRowK encI 2 (Sort.ahead m.w n) (m.σ id) 0 (oD lt l).toArray) os):=by simpa using hs
        exact eP
   .rename_i heq;cases heq
   cases hx
  .show ca blk id _ i=_;rw[aP,if_neg];rintro rfl
   rw[ho] at hi;cases hi
  have aS:aN id=(gg,some (.arr ty 2 (l.map pV))):=by rw[h2 id ho];exact hb
  refine⟨_,by rw[hp];show Option.map _ (vH lt _ al aN)=_;rw[VL aS hl hlm hsm ho];rfl,fun i=>?_⟩;show ca aN id _ i=if al.ok i then ca blk id _ i else aN i;simp only[aP];by_cases hi:i=id
  .subst hi;rw[if_pos rfl,if_pos ho,if_pos rfl]
  rw[if_neg hi,if_neg hi];split
  .rename_i h3;exact h2 i h3
  rfl
 unfold I6 at AU;rw[cA] at AU;obtain⟨hf,hx⟩:=AU;obtain rfl:=nI hf;rw[hv,hu];refine⟨⟨hC.1,fun w0 m args hG aq lA ha=>?_⟩,fun i hi=>rfl,fun aN h2=>⟨aN,by rw[hp];rfl,fun i=>?_⟩⟩
 .subst lA;split at hx
  .rename_i heq;cases heq
  .rename_i g' heq;cases heq;obtain rfl:=nI hx;obtain⟨a1,a2⟩:=ha
   match rX:args.toList,a1,a2 with
   |[u1,u2],_,a2=>
    have r1:bG m (.p .nils) u1:=a2 0 _ _ rfl rfl;have r2:bG m (.p (.fn g' [] [])) u2:=a2 1 _ _ rfl rfl;have Mo:args= #[u1,u2]:=by apply Array.toList_inj.1;rw[rX]
    subst Mo;cases r1 with
    |p FY=>
    cases FY;cases r2 with
    |p hq=>
     cases hq with
     |fn A B hA hB _ _=>
      obtain rfl:A= #[]:=Array.eq_empty_of_size_eq_zero hA;obtain rfl:B= #[]:=Array.eq_empty_of_size_eq_zero hB;refine(hC.2.1 m.w).mono ?_;rintro e w' ⟨rfl,rfl⟩
      exact⟨.tuple #[],m,rfl,rfl,aq,Ev.refl m,rfl,rfl,(⟨#[],rfl,rfl,fun j x u h=>by simp at h⟩:aY _ (.tup []) _)⟩
  cases hx
 show aN i=if al.ok i then blk i else aN i;split
 .rename_i h3;exact h2 i h3
 rfl
abbrev sP:={p:Int×Int//uP p=true}
instance:Inhabited sP:=⟨⟨(0,0),rfl⟩⟩
abbrev Hn(p:sP):List Value:=encI p.1
def u0(x y:sP):Int:=if x.1.1=y.1.1 then x.1.2-y.1.2 else x.1.1-y.1.1
def kG(x y:Int×Int):Bool:=if x.1=y.1 then decide (x.2<y.2) else decide (x.1<y.1)
theorem Gg(x y:sP):ltOf u0 x y=kG x.1 y.1:=by
 unfold ltOf u0 kG;split
 .exact decide_eq_decide.2 ⟨fun h=>aa,fun h=>aa⟩
 exact decide_eq_decide.2 ⟨fun h=>aa,fun h=>aa⟩
theorem Sg(d:Array sP):flatK Hn 2 d=flatK encI 2 (d.map (·.1)):=by
 unfold flatK;rw[Array.size_map];apply Array.ext
 .simp
 intro i h1 h2;simp only[Array.getElem_map,Array.getElem_range];have hi:i/2<d.size:=by simp at h1;omega
 rw[getElem!_pos d _ hi,getElem!_pos (d.map (·.1)) _ (by simpa using hi)];simp
theorem acJ(d:Array (Int×Int))(h:d.toList.all uP=true):∃d':Array sP,d'.map (·.1)=d:=by refine⟨d.attach.map fun p=>⟨p.1,im.1 h p.1 (by simpa using p.2)⟩,?_⟩;rw[Array.map_map];exact Array.attach_map_subtype_val d
theorem Nd(x y:Int×Int):kG x y=true↔x.1<y.1\/(x.1=y.1/\x.2<y.2):=by
 unfold kG;split
 .rename_i h;rw[decide_eq_true_eq];omega
 rename_i h;rw[decide_eq_true_eq];omega
theorem Gh(x y:Int×Int):kG x y=false↔ ¬(x.1<y.1\/(x.1=y.1/\x.2<y.2)):=by rw[<- Nd];simp
abbrev xn(x y:Int×Int):Bool:= !kG y x
theorem yZ(x y:Int×Int):xn x y=true↔x.1<y.1\/(x.1=y.1/\x.2<=y.2):=by unfold xn;rw[jU,Gh];omega
theorem agS:∀ {l m:List (Int×Int)},l.Perm m->l.Pairwise (fun x y=>xn x y=true)->m.Pairwise (fun x y=>xn x y=true)->l=m:=by
 intro l
 induction l with
 |nil=>intro m h _ _;exact(List.nil_perm.1 h).symm
 |cons a l ih=>
  intro m h hl hm;cases m with
  |nil=>exact absurd h.length_eq af
  |cons b m=>
   have ur:a=b:=by
    rcases dU.1 (h.subset (DJ ..)) with e|e
    .exact e
    rcases dU.1 (h.symm.subset (DJ ..)) with e2|e2
    .exact e2.symm
    have h1:=(yZ _ _).1 ((rA.1 hl).1 b e2);have h2:=(yZ _ _).1 ((rA.1 hm).1 a e);exact Prod.ext aa aa
   subst ur;rw[ih ((List.perm_cons a).1 h) (rA.1 hl).2 (rA.1 hm).2]
theorem abU(x:Int×Int):∀ {l:List (Int×Int)},l.Pairwise (fun x y=>xn x y=true)->(CI kG x l).Pairwise (fun x y=>xn x y=true):=by
 intro l
 induction l with
 |nil=>intro _;exact List.pairwise_singleton _ _
 |cons y r ih=>
  intro h;obtain⟨h1,h2⟩:=rA.1 h;unfold CI;cases hc:kG y x with
  |false=>
   refine rA.2 ⟨fun z hz=>?_,h⟩;rw[yZ];have hc:=(Gh _ _).1 hc;rcases dU.1 hz with rfl|hz
   .omega
   have:=(yZ _ _).1 (h1 z hz);omega
  |true=>
   refine rA.2 ⟨fun z hz=>?_,ih h2⟩;rcases dU.1 ((Tw kG x r).subset hz) with rfl|hz
   .rw[yZ];have:=(Nd _ _).1 hc;omega
   exact h1 z hz
theorem af7:∀(l:List (Int×Int)),(oD kG l).Pairwise (fun x y=>xn x y=true):=by
 intro l
 induction l with
 |nil=>exact List.Pairwise.nil
 |cons x r ih=>exact abU x ih
theorem af5(l:List (Int×Int)):oD kG l=l.mergeSort xn:=by refine agS ((VQ kG l).trans (List.mergeSort_perm l xn).symm) (af7 l) ?_;exact List.pairwise_mergeSort (fun a b c h1 h2=>by rw[yZ] at*;omega) (fun a b=>by rw[sG,yZ,yZ];omega) l
theorem af6(l:List sP):(l.mergeSort fun x y=> !kG y.1 x.1).map (·.1)=oD kG (l.map (·.1)):=by rw[af5];exact List.map_mergeSort fun a _ b _=>rfl
theorem swoP:SWO (ltOf u0) where
 irrefl x:=by rw[Gg,Gh];omega
 trans x y z h1 h2:=by rw[Gg,Nd] at*;omega
 ntrans x y z h1 h2:=by rw[Gg,Gh] at*;omega
theorem totP(x y:sP)(h1:ltOf u0 x y=false)(h2:ltOf u0 y x=false):x=y:=by rw[Gg,Gh] at h1 h2;exact Subtype.ext (Prod.ext aa aa)
theorem abk{w:World}{blk:Nat}{d:Array sP}(h:HoldsK encI 2 w blk 0 (d.map (·.1))):HoldsK Hn 2 w blk 0 d:=by unfold HoldsK at h ⊢;rw[Sg];exact h
theorem putS{w:World}{blk:Nat}(d:Array sP):putRowK Hn 2 w blk 0 (d.toList.mergeSort fun x y=> !(ltOf u0) y x).toArray=putRowK encI 2 w blk 0 (oD kG (d.map (·.1)).toList).toArray:=by
 unfold putRowK;rw[Sg];congr 2;have:(fun x y:sP=> !(ltOf u0) y x)=fun x y=> !kG y.1 x.1:=by funext x y;rw[Gg]
 rw[this,Array.toList_map,<- af6];simp
end Go.Abs
