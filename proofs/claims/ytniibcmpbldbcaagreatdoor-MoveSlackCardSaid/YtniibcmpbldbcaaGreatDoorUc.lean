/-
  A move that adds keeps the faces; each move makes a valid code.
-/
import Derived.Test.YtniibcmpbldbcaaGreatDoorUb
set_option linter.all false
set_option maxHeartbeats 16000000
namespace Go.Abs
section
variable {F:Nat} {ls:List Let}
theorem ame(g:ct F ls){d:Nat}(hd:d<2*ls.length):(iN F ls)[d]?=some (nK ls d):=by obtain⟨j,h1,h2,h3⟩:=Oy (F:=F) hd;obtain⟨w,hw,hf⟩:=Oz h1;rw[hf,DH] at h2;rw[h3,JA g hw (tv.1 h2).1]
theorem ZX(g:ct F ls){d:Nat}(hd:d<2*ls.length):∃w,w∈fV (aO ls) (nD ls)/\d∈w/\lQ F ls d=lA F ls w:=by obtain⟨j,h1,h2,h3⟩:=Oy (F:=F) hd;obtain⟨w,hw,hf⟩:=Oz h1;rw[hf,DH] at h2;exact⟨w,aQ hw,(tv.1 h2).1,hf⟩
theorem af3:∀(w:List Nat) (f:Fc),(w.foldl (Fc.add F ls) f).ek=f.ek:=by
 intro w
 induction w with
 |nil=>intro f;rfl
 |cons x w ih=>intro f;rw[uW,ih];unfold Fc.add;split<;>rfl
theorem W9(g:ct F ls){d:Nat}(hd:d<2*ls.length):(lQ F ls d).ek=dn ls (d/2+1):=by
 obtain⟨w,hw,IF,hf⟩:=ZX (F:=F) g hd;rw[hf];obtain⟨⟨e,t,he,di⟩,_,_⟩:=zZ g.ok w hw;unfold lA;rw[af3];show dn ls (w.headD 0/2+1)=_;have hh:w.headD 0=e:=by rw[he];rfl
 rw[hh];exact adU g hw (by rw[he];exact Bs) IF di hd
theorem af5{p:Nat×Nat}:∀(w:List Nat) (f:Fc),p∈(w.foldl (Fc.add F ls) f).places->p∈f.places\/ ∃x∈w,2*ls.length<=x/\p∈pX F ls ((x-2*ls.length)/2):=by
 intro w
 induction w with
 |nil=>intro f h;exact .inl h
 |cons x w ih=>
  intro f h;rw[uW] at h;rcases ih _ h with h|⟨y,hy,h1,h2⟩
  .unfold Fc.add at h;split at h
   .exact .inl h
   rename_i hx;simp only[fq] at h;rcases h with h|h
   .exact .inl h
   refine .inr ⟨x,af,aa,?_⟩;split at h
   .exact h
   exact List.mem_reverse.1 h
  exact .inr ⟨y,by simp[hy],h1,h2⟩
theorem V6{g0 r to x y:Nat}(h:(x,y)∈oJ g0 r to):(x=g0/\y=r)\/(g0<x/\x<=to/\y=0):=by
 unfold oJ at h;rcases cT.1 h with h|h
 .cases h;exact .inl ⟨rfl,rfl⟩
 obtain⟨i,hi,e⟩:=dr.1 h;have:=fk.1 hi;cases e;exact .inr ⟨aa,aa,rfl⟩
theorem ant(g:ct F ls){j b c:Nat}(hj:j<(aC ls).length)(h:(b,c)∈pX F ls j):(eU ls b+c+(aC ls).length-1)%(aC ls).length=j:=by
 have ok:=g.ok;have nz:=dw (j+1) (show 0<(aC ls).length by omega);obtain⟨u,hu⟩:=aI hj;obtain⟨v,hv⟩:=aI nz;obtain⟨l,l1,l2,l3⟩:=yV ok.ax hu;obtain⟨m,m1,m2,m3⟩:=yV ok.ax hv;obtain⟨a0,a1,a2,a3⟩:=ok.ax.eQ l (aQ l1) l2;obtain⟨b0,b1,b2,b3⟩:=ok.ax.eQ m (aQ m1) m2;have hT:eU ls (F+1)=(aC ls).length:=Dt fun l hl hp=>((lU hp).1 (g.bad l hl)).1.1.1;have eu:(aC ls).getD j 0=u:=by rw[cJ,hu];rfl
 have ev:(aC ls).getD ((j+1)%(aC ls).length) 0=v:=by rw[cJ,hv];rfl
 unfold pX at h;simp only[eu,ev,B3 l1,B3 m1,VD l1] at h;unfold dJ at l3 m3;have s1:=sO ls l.gate.toNat;have mono:∀ {x y:Nat},x<=y->eU ls x<=eU ls y:=fun h=>zg h;have fin:eU ls b+c=j+1\/(j+1=(aC ls).length/\eU ls b+c=0)->(eU ls b+c+(aC ls).length-1)%(aC ls).length=j:=by
  rintro (e|⟨e1,e2⟩)
  .rw[e,show j+1+(aC ls).length-1=j+(aC ls).length by omega,uX,fK hj]
  rw[e2,jc,fK aa];omega
 refine fin ?_;split at h
 .rename_i aq;rw[fK aq] at m3;rcases V6 h with ⟨rfl,rfl⟩|⟨h1,h2,rfl⟩
  .left;omega
  left;have e1:=mono (show l.gate.toNat+1<=b by omega);have e2:=mono h2;omega
 have ej:j+1=(aC ls).length:=aa;rw[ej,xz] at m3;rcases fq.1 h with h|h
 .rcases V6 h with ⟨rfl,rfl⟩|⟨h1,h2,rfl⟩
  .left;omega
  left;have e1:=mono (show l.gate.toNat+1<=b by omega);have e2:=mono (show b<=F+1 by omega);omega
 rcases V6 h with ⟨rfl,rfl⟩|⟨h1,h2,rfl⟩
 .right;exact⟨ej,rfl⟩
 right;have e2:=mono h2;exact⟨ej,aa⟩
theorem adk(g:ct F ls){d b c:Nat}(hd:d<2*ls.length)(h:(b,c)∈(lQ F ls d).places):nK ls d=if dn ls (d/2+1) then TF ls b c else BF ls b c:=by
 have ok:=g.ok;have hn:0<ls.length:=iR.2 g.ne;obtain⟨w,hw,IF,hf⟩:=ZX (F:=F) g hd;rw[hf] at h;unfold lA at h;rcases af5 _ _ h with h|⟨x,hx,wX,hp⟩
 .cases h
 obtain⟨_,_,hN⟩:=zZ ok w hw;have zK:=hN x hx;have hND:nD ls=2*ls.length+2*(aC ls).length:=rfl;have hk:(x-2*ls.length)/2<(aC ls).length:=aa;have hj:=ant g hk hp;have hph:nK ls d=nK ls x:=by obtain⟨i,hi⟩:=jy hw;rw[JA g hi IF,JA g hi hx]
 have hy:=Bo (maps ok) hw hx;have side:∀v f,v<ls.length->dk ls.length v f∈w->dn ls (dk ls.length v f/2+1)=dn ls (d/2+1):=fun v f hv hm=>by
  have lt:dk ls.length v f<2*ls.length:=by have:=yR hv (!f);rw[<- xk] at this;have:=vG this;rwa[vH] at this
  exact adU g hw hm IF lt hd
 have back:∀v,v<ls.length->dn ls ((v+ls.length-1)%ls.length+1)=dn ls v:=fun v hv=>by have:=UM g hv;have h2:(dA ls v).i.b= !dn ls ((v+ls.length-1)%ls.length+1):=rfl;rw[h2] at this;revert this;cases dn ls ((v+ls.length-1)%ls.length+1)<;>cases dn ls v<;>simp
 rcases sH x with e|e
 .have ex:x=2*ls.length+2*((x-2*ls.length)/2):=aa;generalize (x-2*ls.length)/2=k at ex hk hj;have nz:=dw (k+1) (show 0<(aC ls).length by omega);obtain⟨l,hl,pl⟩:=yU nz;have hv:=(aV.1 hl).1;rw[ex,Fh] at hy;generalize (aC ls).getD ((k+1)%(aC ls).length) 0=v at hy hl hv;have hs:=side v _ hv hy;have sk:dn ls (d/2+1)=true:=by
   rw[<- hs];cases sV:dn ls v
   .show dn ls (2*v/2+1)=true;rw[show 2*v/2=v by omega,DE hl pl,sV];rfl
   show dn ls ((2*((v+ls.length-1)%ls.length)+1)/2+1)=true;rw[show(2*((v+ls.length-1)%ls.length)+1)/2=(v+ls.length-1)%ls.length by omega,back v hv,sV]
  rw[sk,if_pos rfl,hph,ex];unfold TF;rw[hj]
 have ex:x=2*ls.length+2*((x-2*ls.length)/2)+1:=aa;generalize (x-2*ls.length)/2=k at ex hk hj;obtain⟨l,hl,pl⟩:=yU hk;have hv:=(aV.1 hl).1;rw[ex,Fg] at hy;generalize (aC ls).getD k 0=v at hy hl hv;have hs:=side v _ hv hy;have sk:dn ls (d/2+1)=false:=by
  rw[<- hs];cases sV:dn ls v
  .show dn ls ((2*((v+ls.length-1)%ls.length)+1)/2+1)=false;rw[show(2*((v+ls.length-1)%ls.length)+1)/2=(v+ls.length-1)%ls.length by omega,back v hv,sV]
  show dn ls (2*v/2+1)=false;rw[show 2*v/2=v by omega,DE hl pl,sV];rfl
 rw[sk,if_neg ae,hph,ex];unfold BF;rw[hj]
theorem M6{s:dz}{z X:List aG}{k:Nat}{x:aG}(h:hY s z s)(hx:z[k]?=some x)(hX:hY x.o X x.o):hY s (z.take (k+1)++X++z.drop (k+1)) s:=by
 have hz:z=z.take (k+1)++z.drop (k+1):=(lX ..).symm;rw[hz] at h;obtain⟨m,h1,h2⟩:=yw.1 h;have hm:m=x.o:=by
  have hk:=(aV.1 hx).1;have hl:(z.take (k+1))[(z.take (k+1)).length-1]?=some x:=by rw[fJ,yK aa,jm,if_pos aa,Hl];exact hx
  exact(Vi h1 hl).symm
 subst hm;exact yw.2 ⟨_,yw.2 ⟨_,h1,hX⟩,h2⟩
def oo(f:Nat->Nat->Nat)(b c v G j:Nat):Nat:=if G=b then (if j<=c then f b j else if j=c+1 then v else f b (j-2)) else f G j
theorem O8{f:Nat->Nat->Nat}{b c v j:Nat}(h:j<=c):oo f b c v b j=f b j:=by unfold oo;rw[if_pos rfl,if_pos h]
theorem abB{f:Nat->Nat->Nat}{b c v:Nat}:oo f b c v b (c+1)=v:=by unfold oo;rw[if_pos rfl,if_neg aa,if_pos rfl]
theorem O7{f:Nat->Nat->Nat}{b c v j:Nat}(h:c+2<=j):oo f b c v b j=f b (j-2):=by unfold oo;rw[if_pos rfl,if_neg aa,if_neg aa]
theorem O9{f:Nat->Nat->Nat}{b c v G j:Nat}(h:G≠b):oo f b c v G j=f G j:=by unfold oo;rw[if_neg h]
theorem O6{f:Nat->Nat->Nat}{b c v G:Nat}:oo f b c v G 0=f G 0:=by
 by_cases h:G=b
 .subst h;exact O8 (aY _)
 exact O9 h
theorem XP(g:ct F ls){a b c:Nat}(ha:a<ls.length)(hb:b<=F)(hc:c<=cg ls b)(side:Bool)(qU:(if side then nK ls (2*a+1) else nK ls (2*a))=if dn ls (a+1) then TF ls b c else BF ls b c):
  Cert F (dK (dT (pieces ls) b c 2) [pV b (if dn ls (a+1)!=side then ((c+2:Nat):Int) else ((c+1:Nat):Int)) (dn ls (a+1)),pV b (if dn ls (a+1)!=side then ((c+1:Nat):Int) else ((c+2:Nat):Int)) (!dn ls (a+1))] a):=by
 have cz:=g.cz;have iV:=gY ls;have kM:=De ls;obtain⟨s,hp⟩:=cz.path;generalize hA:dn ls (a+1)=A at qU ⊢
 let m:=kS ls a
 have vj:m.b= !A:=by show(!dn ls (a+1))=_;rw[hA]
 have kJ:m.l=nK ls (2*a):=rfl;have hmr:m.r=nK ls (2*a+1):=rfl
 -- the names, and the two passes
 obtain⟨k,tn,bn,r1,r2,hk,hr,dI,nH,abi,Uy,Gd⟩:∃(k:dz) (tn bn r1 r2:Nat),k.b=A/\((r1=c+1/\r2=c+2)\/(r1=c+2/\r2=c+1))/\((if A !=side then ((c+2:Nat):Int) else ((c+1:Nat):Int))=(r1:Int))/\((if A !=side then ((c+1:Nat):Int) else ((c+2:Nat):Int))=(r2:Int))/\
   A6 (oo (TF ls) b c tn) (oo (BF ls) b c bn) ⟨pV b r1 A,m,k⟩/\A6 (oo (TF ls) b c tn) (oo (BF ls) b c bn) ⟨pV b r2 (!A),k,m⟩/\(k.l=eN ls\/k.r=eN ls):=by
  have lo:∀(f:Nat->Nat->Nat) v,oo f b c v b (c+1-1)=f b c:=fun f v=>O8 aa;have md:∀(f:Nat->Nat->Nat) v,oo f b c v b (c+1)=v:=fun f v=>abB;have EK:∀(f:Nat->Nat->Nat) v,oo f b c v b (c+2-1)=v:=fun f v=>abB;have hi:∀(f:Nat->Nat->Nat) v,oo f b c v b (c+2)=f b c:=fun f v=>by rw[O7 aa];rfl
  have plmk:∀(T B:Nat->Nat->Nat) (r:Nat) (d:Bool) (i o:dz),(if d then i else ke o).r=T b (r-1)->(if d then i else ke o).l=T b r->(if d then o else ke i).r=B b (r-1)->(if d then o else ke i).l=B b r->A6 T B ⟨pV b r d,i,o⟩:=fun T B r d i o h1 h2 h3 h4=>⟨h1,h2,h3,h4⟩;cases A<;>cases side<;>simp only[eY,if_false,if_true] at qU
  .rw[<- kJ] at qU;refine⟨⟨TF ls b c,eN ls,false⟩,eN ls,m.r,c+1,c+2,rfl,.inl ⟨rfl,rfl⟩,rfl,rfl,plmk _ _ _ _ _ _ ?_ ?_ ?_ ?_,plmk _ _ _ _ _ _ ?_ ?_ ?_ ?_,.inr rfl⟩
   .rw[lo];rfl
   .rw[md];rfl
   .rw[lo];exact qU
   .rw[md];rfl
   .rw[EK];rfl
   .rw[hi];rfl
   .rw[EK];rfl
   rw[hi];exact qU
  .rw[<- hmr] at qU;refine⟨⟨eN ls,TF ls b c,false⟩,eN ls,m.l,c+2,c+1,rfl,.inr ⟨rfl,rfl⟩,rfl,rfl,plmk _ _ _ _ _ _ ?_ ?_ ?_ ?_,plmk _ _ _ _ _ _ ?_ ?_ ?_ ?_,.inl rfl⟩
   .rw[EK];rfl
   .rw[hi];rfl
   .rw[EK];rfl
   .rw[hi];exact qU
   .rw[lo];rfl
   .rw[md];rfl
   .rw[lo];exact qU
   rw[md];rfl
  .rw[<- kJ] at qU;refine⟨⟨BF ls b c,eN ls,true⟩,m.r,eN ls,c+2,c+1,rfl,.inr ⟨rfl,rfl⟩,rfl,rfl,plmk _ _ _ _ _ _ ?_ ?_ ?_ ?_,plmk _ _ _ _ _ _ ?_ ?_ ?_ ?_,.inr rfl⟩
   .rw[EK];rfl
   .rw[hi];exact qU
   .rw[EK];rfl
   .rw[hi];rfl
   .rw[lo];exact qU
   .rw[md];rfl
   .rw[lo];rfl
   rw[md];rfl
  rw[<- hmr] at qU;refine⟨⟨eN ls,BF ls b c,true⟩,m.l,eN ls,c+1,c+2,rfl,.inl ⟨rfl,rfl⟩,rfl,rfl,plmk _ _ _ _ _ _ ?_ ?_ ?_ ?_,plmk _ _ _ _ _ _ ?_ ?_ ?_ ?_,.inl rfl⟩
  .rw[lo];exact qU
  .rw[md];rfl
  .rw[lo];rfl
  .rw[md];rfl
  .rw[EK];rfl
  .rw[hi];exact qU
  .rw[EK];rfl
  rw[hi];rfl
 rw[dI,nH]
 let x1:aG:=⟨pV b r1 A,m,k⟩
 let x2:aG:=⟨pV b r2 (!A),k,m⟩
 have px1:x1.k.ay=true:=rfl;have px2:x2.k.ay=true:=rfl;have IB:∀(r:Int) (d:Bool),de F (pV b r d).l=false:=fun r d=>(lU (l:=(pV b r d).l) rfl).2 ⟨⟨⟨⟨by show(0:Int)<=(b:Int);omega,by show(b:Int)<=(F:Int);omega⟩,rfl⟩,rfl⟩,rfl⟩
 let hL:=ky b c 2
 let r:=zF ls
 have mC:au Let.aw (aM (r.map (aG.mp id hL)))=au Let.aw ls:=by rw[uA (fun l=>(uh _ _ _).aw l)];rw[iV]
 have mP:au Let.ay (aM (r.map (aG.mp id hL)))=au Let.ay ls:=by rw[uA (fun l=>(uh _ _ _).ay l)];rw[iV]
 have mG:∀q,cg (aM (r.map (aG.mp id hL))) q=cg ls q:=fun q=>by show au _ _=au _ _;rw[uA (fun l=>VU _ _ _ q l)];rw[iV]
 have nC:au Let.aw (aM ([x1,x2]++r.map (aG.mp id hL)))=au Let.aw ls:=by rw[rK,eI,eI,rL,(yq px1).1,(yq px2).1,mC];omega
 have nP:au Let.ay (aM ([x1,x2]++r.map (aG.mp id hL)))=au Let.ay ls+2:=by rw[rK,eI,eI,rL,(yq px1).2,(yq px2).2,mP];omega
 have nG:∀q,cg (aM ([x1,x2]++r.map (aG.mp id hL))) q=cg ls q+if q=b then 2 else 0:=fun q=>by
  have e1:cg (aM ([x1,x2]++r.map (aG.mp id hL))) q=(if q=b then 1 else 0)+((if q=b then 1 else 0)+0)+cg (aM (r.map (aG.mp id hL))) q:=by show au _ _=_+au _ _;rw[rK,eI,eI,rL,NZ (w:=x1) px1 rfl,NZ (w:=x2) px2 rfl]
  rw[e1,mG];split<;>omega
 have hold:∀w∈r,w.k.ay=true->(0<=w.k.gate/\w.k.gate<=(F:Int))/\1<=w.k.aA/\w.k.aA<=(cg ls w.k.gate.toNat:Int):=fun w hw pw=>by have r1:=cz.rr w hw pw;rw[iV] at r1;exact⟨((lU pw).1 (cz.ok w hw).bad).1.1.1,r1⟩
 have oG:∀w:aG,w.k.ay=true->(hL w.k).aA=if w.k.gate=(b:Int)/\(c:Int)<w.k.aA then w.k.aA+2 else w.k.aA:=fun w pw=>Qe pw;have key:∀(f:Nat->Nat->Nat) (v:Nat),∀w∈r,w.k.ay=true->f w.k.gate.toNat (w.k.aA.toNat-1)=oo f b c v w.k.gate.toNat ((hL w.k).aA.toNat-1)/\f w.k.gate.toNat w.k.aA.toNat=oo f b c v w.k.gate.toNat (hL w.k).aA.toNat:=by
  intro f v w hw pw;obtain⟨o1,o2,o3⟩:=hold w hw pw;rw[oG w pw];by_cases rJ:w.k.gate.toNat=b
  .rw[rJ];by_cases cr:(c:Int)<w.k.aA
   .rw[if_pos ⟨aa,cr⟩,O7 aa,O7 aa];exact⟨by congr 1;omega,by congr 1;omega⟩
   rw[if_neg aa,O8 aa,O8 aa];exact⟨rfl,rfl⟩
  rw[if_neg aa,O9 rJ,O9 rJ];exact⟨rfl,rfl⟩
 have keyg:∀(f:Nat->Nat->Nat) (v q:Nat),oo f b c v q (cg ls q+if q=b then 2 else 0)=f q (cg ls q):=fun f v q=>by
  by_cases cq:q=b
  .subst cq;rw[if_pos rfl,O7 aa];rfl
  rw[if_neg cq,O9 cq];rfl
 have qn:Cq F ([x1,x2]++r.map (aG.mp id hL)) (oo (TF ls) b c tn) (oo (BF ls) b c bn):=by
  refine Cq.edit (X:=[]) (r:=r) cz.q (uh _ _ _) (fun w hw=>VV (cz.ok w hw).bad) (fun u hu v hv cu cv e=>?_) (fun u hu v hv pu pv e1 e2=>?_) (fun w hw=>?_) ?_ ?_ (fun u hu w hw=>?_) (fun u hu w hw pu pw e1 e2=>?_) (by rw[nC];have:=cz.ev;rwa[iV] at this) (fun w hw cw=>?_) (fun u hu cu=>?_) (fun w hw pw=>?_) (fun u hu pu=>?_) (fun w hw pw=>?_) (fun u hu pu=>?_) (fun q hq=>?_) ?_
  .rw[Bf,Bf] at e;exact e
  .have BU:u.k.gate=v.k.gate:=by rw[ug,ug] at e1;exact e1
   refine⟨BU,?_⟩;have e2:(hL u.k).aA=(hL v.k).aA:=e2;rw[oG u pu,oG v pv] at e2;split at e2<;>split at e2<;>omega
  .simp only[cT,hJ,or_false] at hw;rcases hw with rfl|rfl
   .exact⟨IB _ _,fun h=>(Bool.noConfusion h),fun _=>⟨hk,vj⟩⟩
   exact⟨IB _ _,fun h=>(Bool.noConfusion h),fun _=>⟨vj,by show k.b= !(!A);rw[hk];simp⟩⟩
  .exact jP.2 ⟨fun w _=>Ww rfl,Hj ..⟩
  .refine jP.2 ⟨fun w hw=>?_,Hj ..⟩;rw[j6] at hw;subst hw;intro _ _ _ e;have e:(r1:Int)=(r2:Int):=e;rcases hr with ⟨h1,h2⟩|⟨h1,h2⟩<;>omega
  .simp only[cT,hJ,or_false] at hu;rcases hu with rfl|rfl<;>exact Ww rfl
  .have pw:w.k.ay=true:=by rw[<- (uh b c 2).ay];exact pw
   have e1:u.k.gate=w.k.gate:=e1.trans (ug _ _ _ _);have e2:u.k.aA=(hL w.k).aA:=e2;rw[oG w pw] at e2;have zI:u.k.gate=(b:Int)/\(u.k.aA=(c:Int)+1\/u.k.aA=(c:Int)+2):=by
    simp only[cT,hJ,or_false] at hu;rcases hu with rfl|rfl
    .refine⟨rfl,?_⟩;show(r1:Int)=_\/(r1:Int)=_;rcases hr with ⟨h1,h2⟩|⟨h1,h2⟩<;>omega
    refine⟨rfl,?_⟩;show(r2:Int)=_\/(r2:Int)=_;rcases hr with ⟨h1,h2⟩|⟨h1,h2⟩<;>omega
   obtain⟨u1,u2⟩:=zI;split at e2<;>omega
  .simp only[cT,hJ,or_false] at hw;rcases hw with rfl|rfl<;>cases cw
  .rw[nC,Bf,<- iV];exact cz.ids u hu cu
  .rw[nG];have:w.k.gate.toNat=b/\1<=w.k.aA/\w.k.aA<=(c:Int)+2:=by
    simp only[cT,hJ,or_false] at hw;rcases hw with rfl|rfl
    .refine⟨lJ _,?_⟩;show 1<=(r1:Int)/\(r1:Int)<=_;rcases hr with ⟨h1,h2⟩|⟨h1,h2⟩<;>omega
    refine⟨lJ _,?_⟩;show 1<=(r2:Int)/\(r2:Int)<=_;rcases hr with ⟨h1,h2⟩|⟨h1,h2⟩<;>omega
   obtain⟨w1,w2,w3⟩:=this;rw[w1,if_pos rfl];omega
  .rw[ug,nG];show 1<=(hL u.k).aA/\(hL u.k).aA<=_;obtain⟨o1,o2,o3⟩:=hold u hu pu;rw[oG u pu];split
   .rename_i h;rw[if_pos aa];omega
   split<;>omega
  .simp only[cT,hJ,or_false] at hw;rcases hw with rfl|rfl
   .exact abi
   exact Uy
  .rw[ug];obtain⟨t1,t2⟩:=key (TF ls) tn u hu pu;obtain⟨b1,b2⟩:=key (BF ls) bn u hu pu;exact⟨⟨t1,b1⟩,t2,b2⟩
  .rw[nG,keyg,keyg,O6,O6];have:=cz.gt q hq;rwa[iV] at this
  rw[nG,keyg,keyg,O6,O6];have:=cz.gz;rwa[iV] at this
 have gh:=Dd (ls:=ls) ha;have gE:hY s (r.map (aG.mp id hL)) s:=GH (ψ:=id) hp;have aj3:(r.map (aG.mp id hL))[a]?=some ((dA ls a).mp id hL):=by rw[fX,gh];rfl
 refine Cq.done (X:=[]) (L:=[]) (N:=[eN ls]) (V:=eN ls) (z':=(r.map (aG.mp id hL)).take (a+1)++[x1,x2]++(r.map (aG.mp id hL)).drop (a+1)) qn cz.nd (fun t ht=>cz.wit t ht) ?_ ⟨s,M6 gE aj3 ⟨rfl,rfl,rfl⟩⟩ ?_ ⟨x1,af,px1⟩ (fun _ _ _=>rfl) (fun w hw=>by cases hw) (nY.2 ⟨hJ,tz⟩) (fun t ht=>?_) (fun t ht=>?_) (by rw[vM];exact aZ _) ?_
 .have h1:((r.map (aG.mp id hL)).take (a+1)++[x1,x2]++(r.map (aG.mp id hL)).drop (a+1)).Perm ([x1,x2]++(r.map (aG.mp id hL)).take (a+1)++(r.map (aG.mp id hL)).drop (a+1)):=List.Perm.append_right _ NI;rw[qG [x1,x2],lX] at h1;exact h1
 .have h1:(r.map (aG.mp id hL)).map aG.p=dT (pieces ls) b c 2:=by
   show _=(pieces ls).map (jw b c 2);rw[<- um,qH,qH];refine uu fun w _=>?_;show _=jw b c 2 w.p;rw[Nj];rfl
  rw[iS,iS,Ad,Dk,h1];rfl
 .rw[j6] at ht;subst ht;simp
 .rw[j6] at ht;subst ht;exact⟨x1,af,Gd.imp Eq.symm Eq.symm⟩
 rw[nC,nP];have:=g.nw;simp only[dQ,cE];omega
theorem XO(g:ct F ls){a b c:Nat}(ha:a<ls.length)(hb:b<=F)(hc:c<=cg ls b){L:List Pc}(h:u4 F ls a b c=some L):Cert F L:=by
 have a1:=W9 (F:=F) g (d:=2*a) aa;have a2:=W9 (F:=F) g (d:=2*a+1) aa;rw[show 2*a/2=a by omega] at a1;rw[show(2*a+1)/2=a by omega] at a2;unfold u4 at h;split at h
 .rename_i hm;cases h;have hl:=adk (F:=F) g (d:=2*a) aa hm;rw[show 2*a/2=a by omega] at hl;unfold vU;rw[a1];exact XP g ha hb hc false hl
 split at h
 .rename_i hm;cases h;have hl:=adk (F:=F) g (d:=2*a+1) aa hm;rw[show(2*a+1)/2=a by omega] at hl;unfold vU;rw[a2];exact XP g ha hb hc true hl
 cases h
end
section
variable {F:Nat} {ls:List Let}
theorem Jj(g:ct F ls){d:Nat}(hd:d<2*ls.length):tX F ls d=nK ls d:=by unfold tX;rw[cJ,ame g hd];rfl
theorem XW(g:ct F ls){a b:Nat}(ha:a<ls.length)(hb:b<ls.length)(ju:a≠b){l fb o:Bool}{sg:Int}(I2:sg=1\/sg= -1)(fL:(sg==1)=(o==fb))
  (qU:(uo l (kS ls a)).l=(uo fb (kS ls b)).l) {A0 A1 B0 B1:Pc} (eA0:A0=mj (au Let.aw ls/2) 1 sg o) (eA1:A1=mj (au Let.aw ls/2) 2 (-sg) o)
  (eB:if l==fb then B0=mj (au Let.aw ls/2) 2 (-sg) (!o)/\B1=mj (au Let.aw ls/2) 1 sg (!o) else B0=mj (au Let.aw ls/2) 1 sg (!o)/\B1=mj (au Let.aw ls/2) 2 (-sg) (!o)):
  Cert F (if a<b then dK (dK (pieces ls) [B0,B1] b) [A0,A1] a else dK (dK (pieces ls) [A0,A1] a) [B0,B1] b):=by
 subst eA0 eA1;have cz:=g.cz;have iV:=gY ls;have kM:=De ls;obtain⟨s,hp⟩:=cz.path
 let M:=kS ls a
 let H:=kS ls b
 let K:dz:=⟨(uo fb H).r,eN ls,M.b⟩
 let J:dz:=⟨(uo l M).r,eN ls,H.b⟩
 let a0:aG:=⟨mj (au Let.aw ls/2) 1 sg o,M,uo l K⟩
 let a1:aG:=⟨mj (au Let.aw ls/2) 2 (-sg) o,uo l K,M⟩
 let b0:aG:=⟨B0,H,uo fb J⟩
 let b1:aG:=⟨B1,uo fb J,H⟩
 have uob:∀(f:Bool) (s:dz),(uo f s).b=s.b:=fun f s=>by cases f<;>rfl
 have hB:(B0.l.kind=2/\B0.l.gate=0/\B0.l.aA=0/\(B0.l.sign=sg\/B0.l.sign= -sg))/\(B1.l.kind=2/\B1.l.gate=0/\B1.l.aA=0/\(B1.l.sign=sg\/B1.l.sign= -sg)):=by
  split at eB<;>obtain⟨rfl,rfl⟩:=eB
  .exact⟨⟨rfl,rfl,rfl,.inr rfl⟩,rfl,rfl,rfl,.inl rfl⟩
  exact⟨⟨rfl,rfl,rfl,.inl rfl⟩,rfl,rfl,rfl,.inr rfl⟩
 have HM:a0.k.aw=true:=rfl;have HN:a1.k.aw=true:=rfl;have KH:b0.k.aw=true:=by show(B0.l.kind==2)=true;rw[hB.1.1];rfl
 have cB1:b1.k.aw=true:=by show(B1.l.kind==2)=true;rw[hB.2.1];rfl
 have badC:∀l:Let,l.kind=2->l.gate=0->l.aA=0->(l.sign=sg\/l.sign= -sg)->de F l=false:=fun l h1 h2 h3 h4=>by
  have hc:l.aw=true:=by unfold Let.aw;rw[h1];rfl
  refine(MT hc).2 ⟨⟨h2,h3⟩,?_⟩;have:l.sign=1\/l.sign= -1:=by rcases h4 with h|h<;>rcases I2 with k|k<;>omega
  rcases this with h|h<;>rw[h]<;>decide
 -- the GF: a0 goes with the one of number 1, a1 with the one of number 2
 have GF:∃u v:aG,((u=b0/\v=b1)\/(u=b1/\v=b0))/\u.k.id=a0.k.id/\v.k.id=a1.k.id/\Xc a0 u/\Xc a1 v:=by
  have gA0:gX a0.k=(o==(o==fb)):=by show(o==(sg==1))=_;rw[fL]
  have gA1:gX a1.k=(o== !(o==fb)):=by
   show(o==(-sg==1))=_;have:(-sg==1)= !(sg==1):=by rcases I2 with rfl|rfl<;>rfl
   rw[this,fL]
  cases l<;>cases fb
  all_goals
   simp only[beq_self_eq_true,if_true,eY,if_false,show(false==true)=false from rfl,show(true==false)=false from rfl] at eB;obtain⟨rfl,rfl⟩:=eB
  .have hm:M.r=H.r:=qU;refine⟨b1,b0,.inr ⟨rfl,rfl⟩,rfl,rfl,⟨by show o= !!o;simp,rfl,?_⟩,⟨by show o= !!o;simp,rfl,?_⟩⟩
   .rw[gA0,show(o==(o==false))=false by cases o<;>rfl];constructor<;>first|rfl|exact hm|exact hm.symm
   rw[gA1,show(o== !(o==false))=true by cases o<;>rfl];constructor<;>first|rfl|exact hm|exact hm.symm
  .have hm:M.r=H.l:=qU;refine⟨b0,b1,.inl ⟨rfl,rfl⟩,rfl,rfl,⟨by show o= !!o;simp,rfl,?_⟩,⟨by show o= !!o;simp,rfl,?_⟩⟩
   .rw[gA0,show(o==(o==true))=true by cases o<;>rfl];constructor<;>first|rfl|exact hm|exact hm.symm
   rw[gA1,show(o== !(o==true))=false by cases o<;>rfl];constructor<;>first|rfl|exact hm|exact hm.symm
  .have hm:M.l=H.r:=qU;refine⟨b0,b1,.inl ⟨rfl,rfl⟩,rfl,rfl,⟨by show o= !!o;simp,rfl,?_⟩,⟨by show o= !!o;simp,rfl,?_⟩⟩
   .rw[gA0,show(o==(o==false))=false by cases o<;>rfl];constructor<;>first|rfl|exact hm|exact hm.symm
   rw[gA1,show(o== !(o==false))=true by cases o<;>rfl];constructor<;>first|rfl|exact hm|exact hm.symm
  have hm:M.l=H.l:=qU;refine⟨b1,b0,.inr ⟨rfl,rfl⟩,rfl,rfl,⟨by show o= !!o;simp,rfl,?_⟩,⟨by show o= !!o;simp,rfl,?_⟩⟩
  .rw[gA0,show(o==(o==true))=true by cases o<;>rfl];constructor<;>first|rfl|exact hm|exact hm.symm
  rw[gA1,show(o== !(o==true))=false by cases o<;>rfl];constructor<;>first|rfl|exact hm|exact hm.symm
 obtain⟨u,v,ym,iu,iv,xu,xv⟩:=GF
 let r:=zF ls
 have N1:a0.k.id=((au Let.aw ls/2+1:Nat):Int):=rfl;have N2:a1.k.id=((au Let.aw ls/2+2:Nat):Int):=rfl;have four:∀w∈[a0,a1,b0,b1],w=a0\/w=a1\/w=u\/w=v:=fun w hw=>by
  simp only[cT,hJ,or_false] at hw;rcases ym with ⟨rfl,rfl⟩|⟨rfl,rfl⟩
  .exact hw
  rcases hw with h|h|h|h
  .exact .inl h
  .exact .inr (.inl h)
  .exact .inr (.inr (.inr h))
  exact .inr (.inr (.inl h))
 have cu:u.k.aw=true:=by rcases ym with ⟨rfl,_⟩|⟨rfl,_⟩<;>assumption
 have cv:v.k.aw=true:=by rcases ym with ⟨_,rfl⟩|⟨_,rfl⟩<;>assumption
 have c4:∀w∈[a0,a1,b0,b1],w.k.aw=true/\(w.k.id=((au Let.aw ls/2+1:Nat):Int)\/w.k.id=((au Let.aw ls/2+2:Nat):Int)):=fun w hw=>by
  rcases four w hw with rfl|rfl|rfl|rfl
  .exact⟨HM,.inl N1⟩
  .exact⟨HN,.inr N2⟩
  .exact⟨cu,.inl (iu.trans N1)⟩
  exact⟨cv,.inr (iv.trans N2)⟩
 have xr4:Xr a0 a1/\Xr a0 u/\Xr a0 v/\Xr a1 u/\Xr a1 v/\Xr u v:=by
  have no:∀ {x y:aG},x.k.id≠y.k.id->Xr x y:=fun h _ _ e=>absurd e h;have n12:a0.k.id≠a1.k.id:=by rw[N1,N2];omega
  exact⟨no n12,fun _ _ _=>xu,no (by rw[iv];exact n12),no (by rw[iu];exact n12.symm),fun _ _ _=>xv,no (by rw[iu,iv];exact n12)⟩
 obtain⟨w1,w2,w3,w4,w5,w6⟩:=xr4;have pw:[a0,a1,b0,b1].Pairwise Xr:=by
  simp only[jP,cT,hJ,or_false,forall_eq_or_imp,forall_eq,List.Pairwise.nil,and_true,false_imp_iff,implies_true];rcases ym with ⟨rfl,rfl⟩|⟨rfl,rfl⟩
  .exact⟨⟨w1,w2,w3⟩,⟨w4,w5⟩,w6⟩
  exact⟨⟨w1,w3,w2⟩,⟨w5,w4⟩,w6.symm⟩
 have gG:∀w∈[a0,a1,b0,b1],vz F w:=fun w hw=>by
  have mk:∀x:aG,x.k.aw=true->de F x.k=false->x.i.b=x.o.b->vz F x:=fun x h1 h2 h3=>⟨h2,fun _=>h3,fun hp=>by rw[kO h1] at hp;cases hp⟩;simp only[cT,hJ,or_false] at hw;rcases hw with rfl|rfl|rfl|rfl
  .exact mk _ HM (badC _ rfl rfl rfl (.inl rfl)) (uob l K).symm
  .exact mk _ HN (badC _ rfl rfl rfl (.inr rfl)) (uob l K)
  .exact mk _ KH (badC _ hB.1.1 hB.1.2.1 hB.1.2.2.1 hB.1.2.2.2) (uob fb J).symm
  exact mk _ cB1 (badC _ hB.2.1 hB.2.2.1 hB.2.2.2.1 hB.2.2.2.2) (uob fb J)
 have Mf:∀w∈r,w.k.aw=true->1<=w.k.id/\w.k.id<=((au Let.aw ls/2:Nat):Int):=fun w hw hc=>by have:=cz.ids w hw hc;rwa[iV] at this
 have nC:au Let.aw (aM ([a0,a1,b0,b1]++r.map (aG.mp id id)))=au Let.aw ls+4:=by rw[A3,rK,eI,eI,eI,eI,rL,iV,(mM HM).1,(mM HN).1,(mM KH).1,(mM cB1).1];omega
 have nP:au Let.ay (aM ([a0,a1,b0,b1]++r.map (aG.mp id id)))=au Let.ay ls:=by rw[A3,rK,eI,eI,eI,eI,rL,iV,(mM HM).2,(mM HN).2,(mM KH).2,(mM cB1).2];omega
 have nG:∀q,cg (aM ([a0,a1,b0,b1]++r.map (aG.mp id id))) q=cg ls q:=fun q=>by show au _ _=au _ _;rw[A3,rK,eI,eI,eI,eI,rL,iV,xG q HM,xG q HN,xG q KH,xG q cB1];simp
 have ev:=cz.ev;rw[iV] at ev;have qn:Cq F ([a0,a1,b0,b1]++r.map (aG.mp id id)) (TF ls) (BF ls):=by
  refine Cq.edit (X:=[]) (r:=r) cz.q xB.id (fun w hw=>(cz.ok w hw).bad) (fun _ _ _ _ _ _ e=>e) (fun _ _ _ _ _ _ e f=>⟨e,f⟩) gG pw ?_ (fun x hx w hw h1 h2 e=>?_) (fun x hx w hw=>FJ (c4 x hx).1) (by rw[nC];omega) (fun w hw hc=>?_) (fun w hw hc=>?_) (fun w hw hp=>?_) (fun w hw hp=>?_) (fun w hw hp=>?_) (fun w hw hp=>⟨⟨rfl,rfl⟩,rfl,rfl⟩) (fun q hq=>?_) ?_
  .refine jP.2 ⟨fun _ _=>FJ HM,jP.2 ⟨fun _ _=>FJ HN,jP.2 ⟨fun _ _=>FJ KH,Hj ..⟩⟩⟩
  .exfalso;have h3:=Mf w hw h2;have e:x.k.id=w.k.id:=e;rcases(c4 x hx).2 with h|h<;>omega
  .rw[nC];rcases(c4 w hw).2 with h|h<;>omega
  .rw[nC];have:=Mf w hw hc;simp only[id];omega
  .rw[kO (c4 w hw).1] at hp;cases hp
  .rw[nG];have:=cz.rr w hw hp;rwa[iV] at this
  .rw[kO (c4 w hw).1] at hp;cases hp
  .have:=cz.gt q hq;rw[iV] at this;rw[nG];exact this
  have:=cz.gz;rw[iV] at this;rw[nG];exact this
 have aaS:=Dd (ls:=ls) ha;have aaT:=Dd (ls:=ls) hb;have pathA:hY M [a0,a1] M:=⟨rfl,rfl,rfl⟩;have pathB:hY H [b0,b1] H:=⟨rfl,rfl,rfl⟩;have insP:∀(z X:List aG) (k:Nat),(z.take (k+1)++X++z.drop (k+1)).Perm (X++z):=fun z X k=>by have h1:(z.take (k+1)++X++z.drop (k+1)).Perm (X++z.take (k+1)++z.drop (k+1)):=List.Perm.append_right _ NI;rw[qG X,lX] at h1;exact h1
 have insM:∀(z X:List aG) (k:Nat),(z.take (k+1)++X++z.drop (k+1)).map aG.p=dK (z.map aG.p) (X.map aG.p) k:=fun z X k=>by rw[iS,iS,Ad,Dk]
 have fin:∀z',z'.Perm ([a0,a1,b0,b1]++r)->hY s z' s->Cert F (z'.map aG.p):=fun z' h1 h2=>by
  refine Cq.done (X:=[]) (L:=[]) (N:=[eN ls]) (V:=eN ls) (z':=z') qn cz.nd (fun t ht=>cz.wit t ht) (by rw[A3];exact h1) ⟨s,h2⟩ rfl ?_ (fun _ _ _=>rfl) (fun w hw=>by cases hw) (nY.2 ⟨hJ,tz⟩) (fun t ht=>?_) (fun t ht=>?_) (by rw[vM];exact aZ _) ?_
  .obtain⟨w,hw,e⟩:=cz.one;rw[A3];exact⟨w,Br _ hw,e⟩
  .rw[j6] at ht;subst ht;simp
  .rw[j6] at ht;subst ht;refine⟨a0,af,?_⟩;show eN ls=(uo l K).l\/eN ls=(uo l K).r;cases l
   .exact .inl rfl
   exact .inr rfl
  rw[nC,nP];have:=g.nw;simp only[dQ,cE];omega
 split
 .rename_i aq
  let z1:=r.take (b+1)++[b0,b1]++r.drop (b+1)
  have p1:hY s z1 s:=M6 hp aaT pathB;have at1:z1[a]?=some (dA ls a):=by show(r.take (b+1)++[b0,b1]++r.drop (b+1))[a]?=_;rw[qG,oO (by rw[fJ,De];omega),jm,if_pos aa];exact aaS
  have p2:hY s (z1.take (a+1)++[a0,a1]++z1.drop (a+1)) s:=M6 p1 at1 pathA;have:=fin _ ((insP z1 [a0,a1] a).trans (by show([a0,a1]++z1).Perm ([a0,a1]++([b0,b1]++r));exact List.Perm.append_left _ (insP r [b0,b1] b))) p2
  rw[insM,insM,um] at this;exact this
 rename_i aq
 let z1:=r.take (a+1)++[a0,a1]++r.drop (a+1)
 have p1:hY s z1 s:=M6 hp aaS pathA;have at1:z1[b]?=some (dA ls b):=by show(r.take (a+1)++[a0,a1]++r.drop (a+1))[b]?=_;rw[qG,oO (by rw[fJ,De];omega),jm,if_pos aa];exact aaT
 have p2:hY s (z1.take (b+1)++[b0,b1]++z1.drop (b+1)) s:=M6 p1 at1 pathB;have:=fin _ ((insP z1 [b0,b1] b).trans (by have h1:([b0,b1]++z1).Perm ([b0,b1]++([a0,a1]++r)):=List.Perm.append_left _ (insP r [a0,a1] a);refine h1.trans ?_;rw[<- qG];exact(List.Perm.append_right r (NI (l₁:=[b0,b1]) (l₂:=[a0,a1]))))) p2
 rw[insM,insM,um] at this;exact this
theorem XV(g:ct F ls){a b:Nat}(ha:a<ls.length)(hb:b<ls.length)(ju:a≠b){l o:Bool}{L:List Pc}(h:CR F ls a b l o=some L):Cert F L:=by
 have lab:∀(f:Bool) e,(uo f (kS ls e)).l=nK ls (if f then 2*e else 2*e+1):=fun f e=>by cases f<;>rfl
 have key:∀same other:Bool,(same=true->(uo l (kS ls a)).l=(uo l (kS ls b)).l)->(other=true->(uo l (kS ls a)).l=(uo (!l) (kS ls b)).l)->gM ls a b l o same other=some L->Cert F L:=by
  intro same other h1 h2 h3;unfold gM at h3;split at h3
  .cases h3
  rename_i yl;cases h3;cases hs:same
  .have ho:other=true:=by
    rw[hs] at yl;revert yl;cases other<;>simp
   have e:(false==l)= !l:=by cases l<;>rfl
   have:=XW g ha hb ju (l:=l) (fb:= !l) (o:=o) (sg:=if o==(!l) then 1 else -1) (by split<;>simp) (by split<;>simp_all) (h2 ho) (A0:=mj (au Let.aw ls/2) 1 (if o==(!l) then 1 else -1) o) (A1:=mj (au Let.aw ls/2) 2 (-(if o==(!l) then 1 else -1)) o) (B0:=mj (au Let.aw ls/2) 1 (if o==(!l) then 1 else -1) (!o)) (B1:=mj (au Let.aw ls/2) 2 (-(if o==(!l) then 1 else -1)) (!o)) rfl rfl (by
    have:(l== !l)=false:=by cases l<;>rfl
    rw[this];exact⟨rfl,rfl⟩)
   simp only[e];exact this
  have e:(true==l)=l:=by cases l<;>rfl
  have:=XW g ha hb ju (l:=l) (fb:=l) (o:=o) (sg:=if o==l then 1 else -1) (by split<;>simp) (by split<;>simp_all) (h1 hs) (A0:=mj (au Let.aw ls/2) 1 (if o==l then 1 else -1) o) (A1:=mj (au Let.aw ls/2) 2 (-(if o==l then 1 else -1)) o) (B0:=mj (au Let.aw ls/2) 2 (-(if o==l then 1 else -1)) (!o)) (B1:=mj (au Let.aw ls/2) 1 (if o==l then 1 else -1) (!o)) rfl rfl (by rw[beq_self_eq_true];exact⟨rfl,rfl⟩)
  simp only[e];exact this
 have eqi:∀x y:Nat,((x:Int)==(y:Int))=true->x=y:=fun x y h=>by have:=eq_of_beq h;omega
 unfold CR at h;cases l
 .rw[if_neg ae,Jj g aa,Jj g aa,Jj g aa] at h;refine key _ _ (fun h1=>?_) (fun h2=>?_) h
  .rw[lab,lab];exact(eqi _ _ h1).symm
  rw[lab,lab];exact(eqi _ _ h2).symm
 rw[if_pos rfl,Jj g aa,Jj g aa,Jj g aa] at h;refine key _ _ (fun h1=>?_) (fun h2=>?_) h
 .rw[lab,lab];exact(eqi _ _ h1).symm
 rw[lab,lab];exact(eqi _ _ h2).symm
end
def Ji(q:Pc->Bool):Prop:=∀p p':Pc,p.l.kind=p'.l.kind->q p=q p'
theorem UR{q:Pc->Bool}(l:List Pc)(drop:Nat->Pc->Bool):(mf l drop).countP q<=l.countP q:=by
 have key:∀k,k<=l.length->(oq l drop k).countP q<=(l.take k).countP q:=by
  intro k
  induction k with
  |zero=>intro _;exact aZ _
  |succ k ih=>
   intro hk;obtain⟨p,hp⟩:=aI (ls:=l) (k:=k) aa;have:=ih aa;rw[kW,hp,uU];cases hd:drop k p
   .rw[CB hp hd,uU];exact Nat.add_le_add_right this _
   rw[w8 hp hd];omega
 have:=key l.length (aZ _);rwa[jo] at this
theorem Jn{q:Pc->Bool}(hq:Ji q){f:Pc->Pc}(hf:∀p,(f p).l.kind=p.l.kind)(l:List Pc):(l.map f).countP q=l.countP q:=by rw[Kl];exact List.countP_congr fun p _=>by rw[Function.comp_apply,hq _ _ (hf p)]
theorem Qf(g ab b:Int)(p:Pc):(jw g ab b p).l.kind=p.l.kind:=by unfold jw;split<;>rfl
theorem aci(ids:List Int)(p:Pc):(pQ ids p).l.kind=p.l.kind:=by unfold pQ;split<;>rfl
theorem Je{q:Pc->Bool}(l x:List Pc)(k:Nat):(dK l x k).countP q=l.countP q+x.countP q:=by show(l.take (k+1)++x++l.drop (k+1)).countP q=_;rw[uU,uU,Nat.add_right_comm,<- uU,lX]
section
variable {F:Nat} {ls:List Let}
theorem aeQ(g:ct F ls){q:Pc->Bool}:∀(es:List Nat) (l:List Pc),l.length=ls.length->(∀e∈es,e<ls.length)->(iY ls l es).countP q=l.countP q:=by
 intro es
 induction es with
 |nil=>intro l _ _;rfl
 |cons e es ih=>intro l hl he;show(iY ls (fU ls l e) es).countP q=_;rw[ih _ (by rw[CZ,hl]) fun e h=>he e (by simp[h]),JX hl (he e af) (GD g (he e af))]
theorem ad4{q:Pc->Bool}(hq:Ji q)(l:List Pc)(i:Nat)(r:Int):(gA l i r).countP q=l.countP q:=by
 by_cases h:i<l.length
 .obtain⟨p,hp⟩:=aI h;exact VT hp fun p=>hq _ _ rfl
 unfold gA;rw[NJ aa]
theorem ad1{q:Pc->Bool}(hq:Ji q)(l:List Pc)(i:Nat)(g r:Int):(tm l i g r).countP q=l.countP q:=by
 by_cases h:i<l.length
 .obtain⟨p,hp⟩:=aI h;unfold tm;rw[cJ,hp,kA];have:=N3 (p:=q) (y:={p with l:={p.l with gate:=g,aA:=r}}) hp;rw[hq {p with l:={p.l with gate:=g,aA:=r}} p rfl] at this;show List.countP q (l.set i {p with l:={p.l with gate:=g,aA:=r}})=_;omega
 unfold tm;rw[NJ aa]
def ET:Pc:=⟨⟨1,0,0,0,0,false⟩,false⟩
def oz:Pc:=⟨⟨2,0,0,0,0,false⟩,false⟩
def Du(q:Pc->Bool)(k:Int):Nat:=if k=2 then [ET,ET].countP q else if k=5 then [oz,oz].countP q else if k=7 then [oz,oz,oz,oz].countP q else 0
theorem acu(g:ct F ls){q:Pc->Bool}(hq:Ji q){k:Int}{a b c:Nat}{l o:Bool}{sg:Int}(ha:a<ls.length)(hb:b<ls.length\/(k≠3/\k≠8))(hc:c<ls.length\/k≠8){L:List Pc}(h:ow F ls k a b c l o sg=some L):L.countP q<=(pieces ls).countP q+Du q k:=by
 have bh:=eW ls;have two:∀x y:Pc,x.l.kind=1->y.l.kind=1->[x,y].countP q=[ET,ET].countP q:=fun x y h1 h2=>by simp only[uV,List.countP_nil];rw[hq x ET h1,hq y ET h2]
 have twoC:∀x y:Pc,x.l.kind=2->y.l.kind=2->[x,y].countP q=[oz,oz].countP q:=fun x y h1 h2=>by simp only[uV,List.countP_nil];rw[hq x oz h1,hq y oz h2]
 unfold ow at h;split at h
 .unfold Bz at h;simp only at h;split at h
  .cases h;show(List.map _ _).countP q<=_;rw[Jn hq (Qf _ _ _)];have:=UR (q:=q) (pieces ls) (fun k _=>decide (k=a)||decide (k=(a+1)%ls.length));omega
  cases h
 split at h
 .rename_i hk;subst hk;have e:Du q 2=[ET,ET].countP q:=rfl;have am:∀f side,(vU ls a b c f side).countP q=(pieces ls).countP q+Du q 2:=fun f side=>by
   unfold vU;rw[Je,e];show(List.map _ _).countP q+_=_;rw[Jn hq (Qf _ _ _),two _ _ rfl rfl]
  unfold u4 at h;split at h
  .cases h;exact Bu (am _ _)
  split at h
  .cases h;exact Bu (am _ _)
  cases h
 split at h
 .rename_i hk;subst hk;unfold BE at h;split at h
  .cases h;rw[aeQ g _ _ (by rw[Be,Be,bh]) (by
    intro e he;simp only[cT,hJ,or_false] at he;rcases he with rfl|rfl
    .exact ha
    rcases hb with hb|hb
    .exact hb
    exact absurd rfl hb.1),ad4 hq,ad4 hq]
   omega
  cases h
 split at h
 .unfold CC at h;simp only at h;split at h
  .cases h;show(List.map _ _).countP q<=_;rw[Jn hq (aci _)];have:=UR (q:=q) (pieces ls) (sN [((pieces ls).getD a ⟨kP,false⟩).l.id]);omega
  cases h
 split at h
 .rename_i hk;subst hk;cases h;unfold EG;rw[Je,twoC _ _ rfl rfl];exact aZ _
 split at h
 .unfold CM at h;split at h
  .cases h;show(List.map _ _).countP q<=_;rw[Jn hq (aci _)];have:=UR (q:=q) (pieces ls) (sN [(pA ls a).l.id,(pA ls (nx ls a)).l.id]);omega
  cases h
 split at h
 .rename_i hk;subst hk;have e:Du q 7=[oz,oz].countP q+[oz,oz].countP q:=by
   show [oz,oz,oz,oz].countP q=_;rw[<- uU];rfl
  have key:∀s t,gM ls a b l o s t=some L->L.countP q<=(pieces ls).countP q+Du q 7:=fun s t h=>by
   unfold gM at h;split at h
   .cases h
   simp only[fg] at h;subst h;have h2:∀x sg o s,(nN x sg o s).countP q=[oz,oz].countP q:=fun x sg o s=>by unfold nN;split<;>exact twoC _ _ rfl rfl
   have h3:∀x sg o,(rl x sg o).countP q=[oz,oz].countP q:=fun x sg o=>twoC _ _ rfl rfl;split
   .rw[Je,Je,h2,h3,e];omega
   rw[Je,Je,h2,h3,e];omega
  unfold CR at h;split at h
  .exact key _ _ h
  exact key _ _ h
 split at h
 .rename_i hk;subst hk;unfold zX at h;split at h
  .cases h;rw[aeQ g _ _ bh (by
    intro e he;simp only[cT,hJ,or_false] at he;rcases he with rfl|rfl|rfl
    .exact ha
    .rcases hb with hb|hb
     .exact hb
     exact absurd rfl hb.2
    rcases hc with hc|hc
    .exact hc
    exact absurd rfl hc)]
   omega
  cases h
 split at h
 .unfold Db at h;split at h
  .cases h;rw[ad1 hq];show(List.map _ _).countP q<=_;rw[Jn hq (Qf _ _ _)];omega
  cases h
 unfold C0 at h;split at h
 .cases h;rw[ad1 hq];show(List.map _ _).countP q<=_;rw[Jn hq (Qf _ _ _)];omega
 cases h
theorem agi(g:ct F ls)(k a b c:Int)(l o:Bool)(sg:Int):(∃e,e≠0/\vV F ls k a b c l o sg=th e)\/ ∃M,vV F ls k a b c l o sg=uP F M/\iD F M=0/\bl F ls k a b c l o sg=true/\ ∃L,ow F ls k a.toNat b.toNat c.toNat l o sg=some L/\M=nj L:=by
 unfold vV;cases hA:bl F ls k a b c l o sg
 .exact .inl ⟨2,ae,rfl⟩
 rw[if_pos rfl];cases hm:ow F ls k a.toNat b.toNat c.toNat l o sg with
 |none=>exact .inl ⟨4,ae,rfl⟩
 |some L=>
  unfold we;by_cases wO:(400:Int)<(ls.length:Int)+(ig k).1\/(100:Int)<((au Let.aw ls/2:Nat):Int)+(ig k).2
  .exact .inl ⟨7,ae,if_pos wO⟩
  refine .inr ⟨nj L,if_neg wO,?_,rfl,L,rfl,rfl⟩;have hlen:=g.len;have dX:=g.cr;have hF:=g.fing;have ne:=g.ne;have ir:¬ls.length=0:=by have:=iR.2 ne;omega
  have dD:au Let.aw ls%2=0:=by have:=g.cz.ev;rwa[gY] at this
  have bh:=eW ls;have kT:Ji (fun _=>true):=fun _ _ _=>rfl;have kC:Ji (fun p=>p.l.aw):=fun p p' h=>by show(p.l.kind==2)=(p'.l.kind==2);rw[h]
  have pC:(pieces ls).countP (fun p=>p.l.aw)=au Let.aw ls:=by rw[<- Vj (ls:=ls) Let.aw];show _=List.countP _ (List.map _ _);rw[Kl];rfl
  have lC:au Let.aw (L.map Pc.l)=L.countP (fun p=>p.l.aw):=by show List.countP _ (List.map _ _)=_;rw[Kl];rfl
  have tT:∀l:List Pc,l.countP (fun _=>true)=l.length:=fun l=>af;have fin:L=[]\/Cert F L->(∀ {av bv cv:Nat},a=(av:Int)->b=(bv:Int)->c=(cv:Int)->av<ls.length->(bv<ls.length\/(k≠3/\k≠8))->(cv<ls.length\/k≠8)->iD F (nj L)=0):=by
   intro hc av bv cv e1 e2 e3 ha hb rX;subst e1 e2 e3;simp only[lJ] at hm;have c1:=acu g kT ha hb rX hm;have c2:=acu g kC ha hb rX hm;rw[tT,tT,bh] at c1;rw[pC] at c2;have b1:Du (fun _=>true) k=(ig k).1.toNat/\0<=(ig k).1/\Du (fun p=>p.l.aw) k=2*(ig k).2.toNat/\0<=(ig k).2:=by
    unfold Du ig;split
    .exact⟨rfl,ae,rfl,ae⟩
    split
    .exact⟨rfl,ae,rfl,ae⟩
    split
    .exact⟨rfl,ae,rfl,ae⟩
    exact⟨rfl,ae,rfl,ae⟩
   obtain⟨b1,b2,b3,b4⟩:=b1;rw[b1] at c1;rw[b3] at c2;rcases hc with rfl|hc
   .unfold iD;have:nj []=[]:=rfl;rw[this];rw[if_neg (by simp[au]),if_neg aa,if_pos rfl]
   exact hc.check aa (by rw[lC];omega) hF
  unfold bl at hA;by_cases h1:k=1
  .subst h1;simp only[Int.reduceEq,if_true,if_false,or_false,or_self] at hA;simp only[bQ,gH,beq_iff_eq] at hA;obtain⟨rfl,rfl,rfl,hx,rfl,rfl⟩:=hA;obtain⟨av,rfl,ha⟩:=fT hx;exact fin (XM g ha (by simpa [ow] using hm)) rfl (bv:=0) rfl (cv:=0) rfl ha (.inr ⟨ae,ae⟩) (.inr ae)
  by_cases h2:k=2
  .subst h2;simp only[Int.reduceEq,if_true,if_false,or_self] at hA;simp only[bQ,uq,gH,beq_iff_eq,decide_eq_true_eq] at hA;obtain⟨rfl,rfl,rfl,hx,iL,IA,LD,rX⟩:=hA;rcases hx with hx|⟨hx,_⟩
   rotate_left
   .exact absurd hx ir
   obtain⟨av,rfl,ha⟩:=fT hx;obtain⟨bv,rfl⟩:=oL iL;obtain⟨cv,rfl⟩:=oL LD;rw[lJ] at rX;exact fin (.inr (XO g (a:=av) (b:=bv) (c:=cv) ha aa aa (by simpa [ow] using hm))) rfl rfl rfl ha (.inr ⟨ae,ae⟩) (.inr ae)
  by_cases h3:k=3
  .subst h3;simp only[Int.reduceEq,if_true,if_false,or_false,or_self] at hA;simp only[bQ,gH,beq_iff_eq,decide_eq_true_eq] at hA;obtain⟨rfl,rfl,rfl,hx,rfl,hy,aq⟩:=hA;obtain⟨av,rfl,ha⟩:=fT hx;obtain⟨bv,rfl,hb⟩:=fT hy;exact fin (.inr (XQ g ha hb aa (by simpa [ow] using hm))) rfl rfl (cv:=0) rfl ha (.inl hb) (.inr ae)
  by_cases h4:k=4
  .subst h4;simp only[Int.reduceEq,if_true,if_false,or_false,or_true,or_self] at hA;simp only[bQ,gH,beq_iff_eq] at hA;obtain⟨rfl,rfl,rfl,hx,rfl,rfl⟩:=hA;obtain⟨av,rfl,ha⟩:=fT hx;exact fin (.inr (XS g ha (by simpa [ow] using hm))) rfl (bv:=0) rfl (cv:=0) rfl ha (.inr ⟨ae,ae⟩) (.inr ae)
  by_cases h5:k=5
  .subst h5;simp only[Int.reduceEq,if_true,if_false,or_self] at hA;simp only[bQ,uq,gH,beq_iff_eq] at hA;obtain⟨rfl,hs,hx,rfl,rfl⟩:=hA;obtain⟨av,rfl,ha⟩:=fT hx;have:L=EG ls av sg o:=by
    simp[ow] at hm;exact hm.symm
   subst this;exact fin (.inr (XT g ha hs)) rfl (bv:=0) rfl (cv:=0) rfl ha (.inr ⟨ae,ae⟩) (.inr ae)
  by_cases h6:k=6
  .subst h6;simp only[Int.reduceEq,if_true,if_false,or_true,or_self] at hA;simp only[bQ,gH,beq_iff_eq,decide_eq_true_eq] at hA;obtain⟨rfl,rfl,rfl,hx,rfl,hy,aq⟩:=hA;obtain⟨av,rfl,ha⟩:=fT hx;obtain⟨bv,rfl,hb⟩:=fT hy;exact fin (.inr (XU g ha hb (by simpa [ow] using hm))) rfl rfl (cv:=0) rfl ha (.inr ⟨ae,ae⟩) (.inr ae)
  by_cases h7:k=7
  .subst h7;simp only[Int.reduceEq,if_true,if_false,or_self] at hA;simp only[bQ,gH,beq_iff_eq,beq_eq_false_iff_ne] at hA;obtain⟨rfl,hx,rfl,hy,aK⟩:=hA;obtain⟨av,rfl,ha⟩:=fT hx;obtain⟨bv,rfl,hb⟩:=fT hy;exact fin (.inr (XV g ha hb aa (by simpa [ow] using hm))) rfl rfl (cv:=0) rfl ha (.inr ⟨ae,ae⟩) (.inr ae)
  by_cases h8:k=8
  .subst h8;simp only[Int.reduceEq,if_true,if_false,or_self] at hA;simp only[bQ,gH,beq_iff_eq,decide_eq_true_eq] at hA;obtain⟨rfl,rfl,rfl,hx,hy,hz,_,_⟩:=hA;obtain⟨av,rfl,ha⟩:=fT hx;obtain⟨bv,rfl,hb⟩:=fT hy;obtain⟨cv,rfl,hc⟩:=fT hz;exact fin (.inr (XX g ha hb hc (by simpa [ow] using hm))) rfl rfl rfl ha (.inl hb) (.inl hc)
  by_cases h9:k=9
  .subst h9;simp only[Int.reduceEq,if_true,if_false,or_false,or_true,or_self] at hA;simp only[bQ,gH,beq_iff_eq] at hA;obtain⟨rfl,rfl,rfl,hx,rfl,rfl⟩:=hA;obtain⟨av,rfl,ha⟩:=fT hx;exact fin (.inr (XY g ha (by simpa [ow] using hm))) rfl (bv:=0) rfl (cv:=0) rfl ha (.inr ⟨ae,ae⟩) (.inr ae)
  by_cases dm:k=10
  .subst dm;simp only[Int.reduceEq,if_true,if_false,or_true,or_self] at hA;simp only[bQ,gH,beq_iff_eq] at hA;obtain⟨rfl,rfl,rfl,hx,rfl,rfl⟩:=hA;obtain⟨av,rfl,ha⟩:=fT hx;exact fin (.inr (XN g ha (by simpa [ow] using hm))) rfl (bv:=0) rfl (cv:=0) rfl ha (.inr ⟨ae,ae⟩) (.inr ae)
  simp[h1,h2,h3,h4,h5,h6,h7,h8,h9,dm] at hA
end
end Go.Abs
