/-
  MoveCounts: for every code and every number the call returns true and the arguments read as they did. It holds for every input that the row speaks of; the tables that the row lists hold what the text lays.
-/
import Derived.Test.YtfgognempokgkaaGreatDoorUa
import Derived.Test.YtfgognempokgkaaGreatDoorTie
import Derived.Deep.DeepHandedRow
import Derived.Deep.DeepLaidRun
import Derived.Stop.LaidErr
import Derived.Test.YtfgognempokgkaaGreatDoorSb
import Derived.Test.YtfgognempokgkaaGreatDoorTa
import Derived.Test.YtfgognempokgkaaGreatDoorFa
import Derived.Test.YtfgognempokgkaaGreatDoorGa
set_option linter.all false
set_option maxRecDepth 100000
set_option maxHeartbeats 16000000
namespace Go.Abs
section
variable{L:List Pc}
def sm (w:Let->Int)(l:List Pc):Int:=(l.map fun p=>w p.l).sum
theorem Bb(w:Let->Int)(a b:List Pc):sm w (a++b)=sm w a+sm w b:=by simp[sm]
def qm(w:Let->Int):Prop:=∀l m:Let,l.kind=m.kind->l.sign=m.sign->l.over=m.over->w l=w m
theorem Dp{w:Let->Int}(hw:qm w){f:Pc->Pc}(hf:∀p,(f p).l.kind=p.l.kind/\(f p).l.sign=p.l.sign/\(f p).l.over=p.l.over)(l:List Pc):sm w (l.map f)=sm w l:=by unfold sm;rw[zH];congr 1;exact GX fun p _=>hw _ _ (hf p).1 (hf p).2.1 (hf p).2.2
theorem IY(g ab b:Int)(p:Pc):(pI g ab b p).l.kind=p.l.kind/\(pI g ab b p).l.sign=p.l.sign/\(pI g ab b p).l.over=p.l.over:=by unfold pI;split<;>exact⟨rfl,rfl,rfl⟩
theorem TZ(ids:List Int)(p:Pc):(qS ids p).l.kind=p.l.kind/\(qS ids p).l.sign=p.l.sign/\(qS ids p).l.over=p.l.over:=by unfold qS;split<;>exact⟨rfl,rfl,rfl⟩
theorem GF(w:Let->Int)(l x:List Pc)(k:Nat):sm w (cZ l x k)=sm w l+sm w x:=by show sm w (l.take (k+1)++x++l.drop (k+1))=_;rw[Bb,Bb,Int.add_right_comm,<- Bb,xR]
theorem N3{w:Let->Int}:∀ {l:List Pc} {i:Nat} {x y:Pc},l[i]?=some x->sm w (l.set i y)=sm w l-w x.l+w y.l:=by
 intro l
 induction l with
 |nil=>intro i x y h;simp at h
 |cons p l ih=>
  intro i x y h;cases i with
  |zero=>simp only[List.getElem?_cons_zero,dV] at h;subst h;simp only[sm,List.set_cons_zero,dE,rB];omega
  |succ i=>simp only[List.getElem?_cons_succ] at h;have:=ih (y:=y) h;simp only[sm,List.set_cons_succ,dE,rB] at this ⊢;omega
section
variable {F:Nat} {ls:List Let}
theorem afE{w:Let->Int}{l:List Pc}(hl:l.length=ls.length){e:Nat}(he:e<ls.length)(aR:e≠nx ls e):sm w (sC ls l e)=sm w l:=by
 have hn:nx ls e<ls.length:=eJ _ aa;obtain⟨x,hx⟩:=aL (ls:=l) (k:=e) aa;obtain⟨y,hy⟩:=aL (ls:=l) (k:=nx ls e) aa;unfold sC;rw[cP,cP,hx,hy];simp only[kL];have h2:(l.set e y)[nx ls e]?=some y:=by rw[ml,if_neg aR];exact hy
 rw[N3 h2,N3 hx];omega
theorem Vy(g:cS F ls){w:Let->Int}:∀(es:List Nat) (l:List Pc),l.length=ls.length->(∀e∈es,e<ls.length)->sm w (lK ls l es)=sm w l:=by
 intro es
 induction es with
 |nil=>intro l _ _;rfl
 |cons e es ih=>intro l hl he;show sm w (lK ls (sC ls l e) es)=_;rw[ih _ (by rw[V5,hl]) fun e h=>he e (by simp[h]),afE hl (he e af) (Gn g (he e af))]
theorem Vw{w:Let->Int}(hw:qm w)(l:List Pc)(i:Nat)(f:Pc->Pc)(hf:∀p,(f p).l.kind=p.l.kind/\(f p).l.sign=p.l.sign/\(f p).l.over=p.l.over):sm w (l.set i (f (l.getD i ⟨iK,false⟩)))=sm w l:=by
 by_cases h:i<l.length
 .obtain⟨p,hp⟩:=aL h;rw[cP,hp,kL,N3 hp,hw (f p).l p.l (hf p).1 (hf p).2.1 (hf p).2.2];omega
 rw[List.set_eq_of_length_le aa]
theorem Vx{w:Let->Int}(hw:qm w)(l:List Pc)(i:Nat)(r:Int):sm w (mO l i r)=sm w l:=Vw hw l i (fun p=>{p with l:={p.l with aO:=r}}) fun _=>⟨rfl,rfl,rfl⟩
theorem Vv{w:Let->Int}(hw:qm w)(l:List Pc)(i:Nat)(g r:Int):sm w (xF l i g r)=sm w l:=Vw hw l i (fun p=>{p with l:={p.l with gate:=g,aO:=r}}) fun _=>⟨rfl,rfl,rfl⟩
theorem ZT(f:Nat->Int)(k:Nat):∀D:List Nat,D.Nodup->((D.filter fun i=>decide (i<k+1)).map f).sum=((D.filter fun i=>decide (i<k)).map f).sum+if k∈D then f k else 0:=by
 intro D
 induction D with
 |nil=>intro _;rfl
 |cons a D ih=>
  intro hn;obtain⟨ha,hn⟩:=DK.1 hn;have:=ih hn;rcases DL a k with h|h|h
  .have e1:decide (a<k+1)=true:=by simp;omega
   have e2:decide (a<k)=true:=by simp;omega
   have e3:(k∈a::D)↔k∈D:=by simp;omega
   simp only[List.filter_cons,e1,e2,if_true,dE,rB,e3,this];omega
  .subst h;have e1:decide (a<a+1)=true:=af;have e2:decide (a<a)=false:=af;rw[if_neg ha] at this;simp only[List.filter_cons,e1,e2,if_true,dE,rB,this,dU,true_or,iF,if_false];omega
  have e1:decide (a<k+1)=false:=by simp;omega
  have e2:decide (a<k)=false:=by simp;omega
  have e3:(k∈a::D)↔k∈D:=by simp;omega
  simp only[List.filter_cons,e1,e2,iF,if_false,e3,this]
theorem N1{w:Let->Int}{l:List Pc}{drop:Nat->Pc->Bool}{D:List Nat}(hD:D.Nodup)(au:∀i∈D,i<l.length)(hd:∀i p,l[i]?=some p->(drop i p=true↔i∈D)):sm w (se l drop)=sm w l-(D.map fun i=>w (l.getD i ⟨iK,false⟩).l).sum:=by
 have key:∀k,k<=l.length->sm w (uJ l drop k)+((D.filter fun i=>decide (i<k)).map fun i=>w (l.getD i ⟨iK,false⟩).l).sum=sm w (l.take k):=by
  intro k
  induction k with
  |zero=>intro _;have:(D.filter fun i=>decide (i<0))=[]:=List.filter_eq_nil_iff.2 fun i _=>af;rw[this];rfl
  |succ k ih=>
   intro hk;obtain⟨p,hp⟩:=aL (ls:=l) (k:=k) aa;have ih:=ih aa;have mC:(l.getD k ⟨iK,false⟩)=p:=by rw[cP,hp];rfl
   rw[lR,hp,Bb,<- ih,ZT _ _ _ hD];cases Ft:drop k p
   .have:k∉D:=fun h=>by rw[(hd k p hp).2 h] at Ft;cases Ft
    rw[M0 hp Ft,Bb,if_neg this];simp only[Option.toList_some];omega
   have:k∈D:=(hd k p hp).1 Ft;rw[MZ hp Ft,if_pos this,mC];simp only[Option.toList_some,sm,dE,jj,rB,List.sum_nil];omega
 have h:=key l.length (bo _);rw[ke,List.filter_eq_self.2 fun i hi=>by simpa using au i hi] at h;unfold se;omega
theorem adv:(pieces ls).map Pc.l=ls:=by
 have h:=Bn ls;rw[<- h];have e:bN (zF ls)=((zF ls).map bt.p).map Pc.l:=by rw[zH];rfl
 rw[h,<- WC,<- e,h]
theorem N2(w:Let->Int):sm w (pieces ls)=(ls.map w).sum:=by
 conv=>rhs;rw[<- adv (ls:=ls)]
 rw[zH];rfl
theorem ZY(l:List Pc):(pX l).getD 0<=l.length:=by
 unfold pX;cases h:(List.range l.length).find? (Gu l) with
 |none=>exact bc _
 |some i=>have:=iN.1 (Jn h);exact Nat.le_of_lt this
theorem N0(w:Let->Int)(l:List Pc):((pW l).map w).sum=sm w l:=by unfold pW;have h:=ZY l;generalize (pX l).getD 0=f at*;rw[Vd h,zH];show sm w (l.drop f++l.take f)=_;rw[Bb,Int.add_comm,<- Bb,xR]
end
def nC(l:Let):Int:=if l.aG then 1 else 0
def nA(l:Let):Int:=if l.aC then 1 else 0
def gE(l:Let):Int:=if l.aC&&l.over then l.sign else 0
theorem Bj:qm nC:=fun l m h _ _=>by unfold nC Let.aG;rw[h]
theorem Bi:qm nA:=fun l m h _ _=>by unfold nA Let.aC;rw[h]
theorem Bk:qm gE:=fun l m h1 h2 h3=>by unfold gE Let.aC;rw[h1,h2,h3]
theorem ab2{l:Let}(h:l.aG=true):l.aC=false:=by unfold Let.aG at h;unfold Let.aC;simp only[beq_iff_eq] at h;rw[h];rfl
theorem ab1{l:Let}(h:l.aC=true):l.aG=false:=by unfold Let.aC at h;unfold Let.aG;simp only[beq_iff_eq] at h;rw[h];rfl
theorem tP{l:Let}(h:l.aG=true):nC l=1/\nA l=0/\gE l=0:=by have:=ab2 h;simp[nC,nA,gE,h,this]
theorem lO{l:Let}(h:l.aC=true):nC l=0/\nA l=1/\gE l=if l.over then l.sign else 0:=by have:=ab1 h;simp[nC,nA,gE,h,this]
section
variable {F:Nat} {ls:List Let}
theorem cnt1(g:cS F ls){a:Nat}(ha:a<ls.length)(h:BG ls a=some L):∃x y:Let,x.aG=true/\y.aG=true/\ ∀w,qm w->sm w L=sm w (pieces ls)-w x-w y:=by
 have hn:nx ls a<ls.length:=eJ _ aa;have aR:=Gn g ha;have bq:=eI ls;obtain⟨x,hx⟩:=aL ha;obtain⟨y,hy⟩:=aL hn;have px:(pieces ls).getD a ⟨iK,false⟩=⟨x,ko ls a⟩:=by rw[cP,ss hx];rfl
 have py:(pieces ls).getD (nx ls a) ⟨iK,false⟩=⟨y,ko ls (nx ls a)⟩:=by rw[cP,ss hy];rfl
 unfold BG at h;simp only at h;rw[px] at h;rw[show(a+1)%ls.length=nx ls a from rfl,py] at h;split at h
 case isFalse=>cases h
 rename_i hc;simp only[cA] at hc;cases h;refine⟨x,y,hc.1,hc.2.1,fun w hw=>?_⟩;show sm w (List.map _ _)=_;rw[Dp hw (IY _ _ _),N1 (D:=[a,nx ls a]) (by simp[aR]) (by simp only[dU,vO,or_false];rintro i (rfl|rfl)<;>omega) (fun i p _=>af)];simp only[dE,jj,rB,List.sum_nil,px,py];omega
theorem cnt2{a b c:Nat}(h:tY F ls a b c=some L):∃x y:Let,x.aG=true/\y.aG=true/\ ∀w,qm w->sm w L=sm w (pieces ls)+w x+w y:=by
 have key:∀(r1 r2:Int) (d1 d2:Bool),∃x y:Let,x.aG=true/\y.aG=true/\ ∀w,qm w->sm w (cZ (ed (pieces ls) b c 2) [qT b r1 d1,qT b r2 d2] a)=sm w (pieces ls)+w x+w y:=fun r1 r2 d1 d2=>
  ⟨(qT b r1 d1).l,(qT b r2 d2).l,rfl,rfl,fun w hw=>by rw[GF,Dp hw (IY _ _ _)];simp only[sm,dE,jj,rB,List.sum_nil];omega⟩
 unfold tY at h;split at h
 .cases h;exact key _ _ _ _
 split at h
 .cases h;exact key _ _ _ _
 cases h
theorem JL(g:cS F ls){a b:Nat}(ha:a<ls.length)(hb:b<ls.length)(h:BM F ls a b=some L){w:Let->Int}(hw:qm w):sm w L=sm w (pieces ls):=by
 unfold BM at h;split at h
 .cases h;rw[Vy g _ _ (by rw[GD,GD,eI]) (by simp only[dU,vO,or_false];rintro e (rfl|rfl)<;>assumption),Vx hw,Vx hw]
 cases h
theorem JM(g:cS F ls){a b c:Nat}(ha:a<ls.length)(hb:b<ls.length)(hc:c<ls.length)(h:zx F ls a b c=some L){w:Let->Int}:sm w L=sm w (pieces ls):=by
 unfold zx at h;split at h
 .cases h;rw[Vy g _ _ (eI ls) (by simp only[dU,vO,or_false];rintro e (rfl|rfl|rfl)<;>assumption)]
 cases h
theorem JN{a:Nat}(h:Dx F ls a=some L){w:Let->Int}(hw:qm w):sm w L=sm w (pieces ls):=by
 unfold Dx at h;split at h
 .cases h;rw[Vv hw,Dp hw (IY _ _ _)]
 cases h
theorem JK{a:Nat}(h:Dv ls a=some L){w:Let->Int}(hw:qm w):sm w L=sm w (pieces ls):=by
 unfold Dv at h;split at h
 .cases h;rw[Vv hw,Dp hw (IY _ _ _)]
 cases h
theorem GQ(g:cS F ls){i j k:Nat}{x y z:Let}(hx:ls[i]?=some x)(hy:ls[j]?=some y)(hz:ls[k]?=some z)(cx:x.aC=true)(cy:y.aC=true)(cz:z.aC=true)(e:x.id=y.id)(ez:z.id=x.id)(jX:i≠j):k=i\/k=j:=by
 obtain⟨_,hp⟩:=g.ids;by_cases h1:k=i
 .exact .inl h1
 by_cases h2:k=j
 .exact .inr h2
 exfalso;have d1:=(hp i j x y hx hy cx cy e jX).1;have d2:=(hp k i z x hz hx cz cx ez h1).1;have d3:=(hp k j z y hz hy cz cy (ez.trans e) h2).1;revert d1 d2 d3;cases x.over<;>cases y.over<;>cases z.over<;>simp
theorem NY(g:cS F ls){i:Nat}{x:Let}(hx:ls[i]?=some x)(cx:x.aC=true):x.sign=1\/x.sign= -1:=by have:=((Nj cx).1 (g.bad x (ba hx))).2;simp only[bne,Bool.and_eq_false_iff,Bool.not_eq_false',beq_iff_eq] at this;exact this
theorem Qo{ids:List Int}{i:Nat}{p:Pc}(hp:(pieces ls)[i]?=some p):∃z,ls[i]?=some z/\(ug ids i p=true↔z.aC=true/\z.id∈ids):=by
 have hi:i<ls.length:=by rw[<- eI];exact(bn.1 hp).1
 obtain⟨z,hz⟩:=aL hi;rw[ss hz] at hp;cases hp;refine⟨z,hz,?_⟩;unfold ug Let.aC;simp
theorem cnt4(g:cS F ls){a:Nat}(ha:a<ls.length)(h:CN ls a=some L):∃x y:Let,x.aC=true/\y.aC=true/\(gE x+gE y=1\/gE x+gE y= -1)/\ ∀w,qm w->sm w L=sm w (pieces ls)-w x-w y:=by
 have hn:nx ls a<ls.length:=eJ _ aa;have aR:=Gn g ha;have bq:=eI ls;obtain⟨x,hx⟩:=aL ha;obtain⟨y,hy⟩:=aL hn;have px:(pieces ls).getD a ⟨iK,false⟩=⟨x,ko ls a⟩:=by rw[cP,ss hx];rfl
 have py:(pieces ls).getD (nx ls a) ⟨iK,false⟩=⟨y,ko ls (nx ls a)⟩:=by rw[cP,ss hy];rfl
 unfold CN at h;simp only at h;rw[px] at h;rw[show(a+1)%ls.length=nx ls a from rfl,py] at h;split at h
 case isFalse=>cases h
 rename_i hc;simp only[cA] at hc;have cx:x.aC=true:=hc.1;have cy:y.aC=true:=hc.2.1;have e:x.id=y.id:=by simpa using hc.2.2
 cases h;refine⟨x,y,cx,cy,?_,fun w hw=>?_⟩
 .have d:=g.ids.2 _ _ x y hx hy cx cy e aR;have s:=NY g hx cx;rw[(lO cx).2.2,(lO cy).2.2,<- d.2];have d1:=d.1;revert d1;cases x.over<;>cases y.over<;>simp<;>omega
 show sm w (List.map _ _)=_;rw[Dp hw (TZ _),N1 (D:=[a,nx ls a]) (by simp[aR]) (by simp only[dU,vO,or_false];rintro i (rfl|rfl)<;>omega) (fun i p hp=>by
  obtain⟨z,hz,hd⟩:=Qo (ids:=[x.id]) hp;rw[hd];simp only[dU,vO,or_false];constructor
  .rintro ⟨cz,ez⟩
   exact GQ g hx hy hz cx cy cz e ez aR
  rintro (rfl|rfl)
  .rw[hx] at hz;cases hz;exact⟨cx,rfl⟩
  rw[hy] at hz;cases hz;exact⟨cy,e.symm⟩)]
 simp only[dE,jj,rB,List.sum_nil,px,py];omega
theorem cnt6(g:cS F ls){a b:Nat}(ha:a<ls.length)(hb:b<ls.length)(h:CX F ls a b=some L):∃x y u v:Let,x.aC=true/\y.aC=true/\u.aC=true/\v.aC=true/\gE x+gE y+gE u+gE v=0/\ ∀w,qm w->sm w L=sm w (pieces ls)-w x-w y-w u-w v:=by
 have hna:nx ls a<ls.length:=eJ _ aa;have hnb:nx ls b<ls.length:=eJ _ aa;have nea:=Gn g ha;have neb:=Gn g hb;have bq:=eI ls;obtain⟨x,hx⟩:=aL ha;obtain⟨y,hy⟩:=aL hna;obtain⟨u,hu⟩:=aL hb;obtain⟨v,hv⟩:=aL hnb;have px:(pieces ls).getD a ⟨iK,false⟩=⟨x,ko ls a⟩:=by rw[cP,ss hx];rfl
 have py:(pieces ls).getD (nx ls a) ⟨iK,false⟩=⟨y,ko ls (nx ls a)⟩:=by rw[cP,ss hy];rfl
 have pu:(pieces ls).getD b ⟨iK,false⟩=⟨u,ko ls b⟩:=by rw[cP,ss hu];rfl
 have pv:(pieces ls).getD (nx ls b) ⟨iK,false⟩=⟨v,ko ls (nx ls b)⟩:=by rw[cP,ss hv];rfl
 unfold CX jw at h;simp only[pA,px,py,pu,pv] at h;split at h
 case isFalse=>cases h
 rename_i hc;simp only[cA,sG,beq_iff_eq,jU,beq_eq_false_iff_ne] at hc;obtain⟨hbo,aR,Cp,_,_,aaH⟩:=hc;have kinds:x.aC=true/\y.aC=true/\u.aC=true/\v.aC=true/\x.over=y.over/\u.over=v.over/\x.over≠u.over:=by unfold Let.aC;rcases hbo with ⟨⟨a1,a2,a3,a4⟩,⟨b1,b2,b3,b4⟩⟩|⟨⟨a1,a2,a3,a4⟩,⟨b1,b2,b3,b4⟩⟩<;>simp[a1,a2,a3,a4,b1,b2,b3,b4]
 obtain⟨cx,cy,cu,cv,o1,o2,o3⟩:=kinds;have at_ne:∀ {i j:Nat} {l m:Let},ls[i]?=some l->ls[j]?=some m->l.over≠m.over->i≠j:=fun {i j l m} h1 h2 h3 e=>by subst e;rw[h1] at h2;cases h2;exact h3 rfl
 have nab:=at_ne hx hu o3;have nanb:=at_ne hx hv (by rw[<- o2];exact o3);have ynb:=at_ne hy hu (by rw[<- o1];exact o3);have ynv:=at_ne hy hv (by rw[<- o1,<- o2];exact o3);cases h;have huv:u.id≠v.id:=by
  rcases Cp with ⟨h1,h2⟩|⟨h1,h2⟩
  .rw[h1,h2];exact aR
  rw[h1,h2];exact Ne.symm aR
 have hg:=adm g ha hb hx hy hu hv cx cy cu cv aR huv nab aaH;refine⟨x,y,u,v,cx,cy,cu,cv,?_,fun w hw=>?_⟩
 .have sx:=NY g hx cx;have sy:=NY g hy cy;have su:(u.sign=x.sign/\v.sign=y.sign)\/(u.sign=y.sign/\v.sign=x.sign):=by
   rcases Cp with ⟨h1,h2⟩|⟨h1,h2⟩
   .exact .inl ⟨(g.ids.2 _ _ x u hx hu cx cu h1.symm nab).2.symm,(g.ids.2 _ _ y v hy hv cy cv h2.symm ynv).2.symm⟩
   exact .inr ⟨(g.ids.2 _ _ y u hy hu cy cu h1.symm ynb).2.symm,(g.ids.2 _ _ x v hx hv cx cv h2.symm nanb).2.symm⟩
  rw[(lO cx).2.2,(lO cy).2.2,(lO cu).2.2,(lO cv).2.2];have hs:x.sign+y.sign=0:=by unfold gX at hg;rw[<- o1] at hg;rcases sx with e1|e1<;>rcases sy with e2|e2<;>rw[e1,e2] at hg ⊢ <;>revert hg<;>cases x.over<;>simp
  rw[<- o1,<- o2];revert o3;cases x.over<;>cases u.over<;>simp<;>omega
 show sm w (List.map _ _)=_;rw[Dp hw (TZ _),N1 (D:=[a,nx ls a,b,nx ls b]) (by simp[nea,neb,nab,nanb,ynb,ynv]) (by simp only[dU,vO,or_false];rintro i (rfl|rfl|rfl|rfl)<;>omega) (fun i p hp=>by
  obtain⟨z,hz,hd⟩:=Qo (ids:=[x.id,y.id]) hp;rw[hd];simp only[dU,vO,or_false];constructor
  .rintro ⟨cz,ez|ez⟩
   .rcases Cp with ⟨h1,h2⟩|⟨h1,h2⟩
    .have:=GQ g hx hu hz cx cu cz h1.symm ez nab;omega
    have:=GQ g hx hv hz cx cv cz h2.symm ez nanb;omega
   rcases Cp with ⟨h1,h2⟩|⟨h1,h2⟩
   .have:=GQ g hy hv hz cy cv cz h2.symm ez ynv;omega
   have:=GQ g hy hu hz cy cu cz h1.symm ez ynb;omega
  rintro (rfl|rfl|rfl|rfl)
  .rw[hx] at hz;cases hz;exact⟨cx,.inl rfl⟩
  .rw[hy] at hz;cases hz;exact⟨cy,.inr rfl⟩
  .rw[hu] at hz;cases hz;exact⟨cu,Cp.elim (fun h=>.inl h.1) fun h=>.inr h.1⟩
  rw[hv] at hz;cases hz;exact⟨cv,Cp.elim (fun h=>.inr h.2) fun h=>.inl h.2⟩)]
 simp only[dE,jj,rB,List.sum_nil,px,py,pu,pv];omega
theorem cnt7{a b:Nat}{l o:Bool}(h:CZ F ls a b l o=some L):sm nC L=sm nC (pieces ls)/\sm nA L=sm nA (pieces ls)+4/\sm gE L=sm gE (pieces ls):=by
 have key:∀s t,fN ls a b l o s t=some L->sm nC L=sm nC (pieces ls)/\sm nA L=sm nA (pieces ls)+4/\sm gE L=sm gE (pieces ls):=fun s t h=>by
  unfold fN at h;split at h
  .cases h
  simp only[dV] at h;subst h;generalize (if (o==(s==l))=true then (1:Int) else -1)=sg;have e:∀w,sm w (lJ (aA Let.aC ls/2) sg o)=w (qt (aA Let.aC ls/2) 1 sg o).l+w (qt (aA Let.aC ls/2) 2 (-sg) o).l:=fun w=>by simp[sm]
  have e2:∀w,sm w (j7 (aA Let.aC ls/2) sg o s)=w (qt (aA Let.aC ls/2) 1 sg (!o)).l+w (qt (aA Let.aC ls/2) 2 (-sg) (!o)).l:=fun w=>by unfold j7;split<;>simp[sm,Int.add_comm]
  have e3:∀w,sm w (if a<b then cZ (cZ (pieces ls) (j7 (aA Let.aC ls/2) sg o s) b) (lJ (aA Let.aC ls/2) sg o) a else cZ (cZ (pieces ls) (lJ (aA Let.aC ls/2) sg o) a) (j7 (aA Let.aC ls/2) sg o s) b)=sm w (pieces ls)+sm w (lJ (aA Let.aC ls/2) sg o)+sm w (j7 (aA Let.aC ls/2) sg o s):=fun w=>by split<;>simp only[GF]<;>omega
  rw[e3,e3,e3,e,e,e,e2,e2,e2];have c:∀(n k:Nat) (s:Int) (o:Bool),(qt n k s o).l.aC=true:=fun _ _ _ _=>rfl;simp only[(lO (c _ _ _ _)).1,(lO (c _ _ _ _)).2.1,(lO (c _ _ _ _)).2.2];refine⟨aa,aa,?_⟩;cases o<;>simp<;>omega
 unfold CZ at h;split at h
 .exact key _ _ h
 exact key _ _ h
theorem cnt5{a:Nat}{sg:Int}{o:Bool}:sm nC (A2 ls a sg o)=sm nC (pieces ls)/\sm nA (A2 ls a sg o)=sm nA (pieces ls)+2/\sm gE (A2 ls a sg o)=sm gE (pieces ls)+sg:=by unfold A2;rw[GF,GF,GF];cases o<;>simp[sm,nC,nA,gE,Let.aC,Let.aG]<;>omega
def fY(k sg dp dc dt:Int):Prop:=if k=2 then dp=2/\dc=0/\dt=0 else if k=1 then dp= -2/\dc=0/\dt=0 else if k=5 then dp=0/\dc=2/\dt=sg else if k=4 then dp=0/\dc= -2/\(dt=1\/dt= -1) else if k=7 then dp=0/\dc=4/\dt=0 else if k=6 then dp=0/\dc= -4/\dt=0 else dp=0/\dc=0/\dt=0
theorem YD(g:cS F ls){k a b c:Int}{l o:Bool}{sg:Int}(hA:aV F ls k a b c l o sg=true)(h:xv F ls k a.toNat b.toNat c.toNat l o sg=some L):fY k sg (sm nC L-sm nC (pieces ls)) (sm nA L-sm nA (pieces ls)) (sm gE L-sm gE (pieces ls)):=by
 unfold aV at hA;unfold xv at h;unfold fY;by_cases h1:k=1
 .subst h1;simp only[Int.reduceEq,if_true,if_false,or_false,or_self] at hA h ⊢;simp only[cA,jU,beq_iff_eq] at hA;obtain⟨rfl,rfl,rfl,hx,rfl,rfl⟩:=hA;obtain⟨av,rfl,ha⟩:=j5 hx;obtain⟨x,y,cx,cy,hw⟩:=cnt1 g ha h;rw[hw _ Bj,hw _ Bi,hw _ Bk,(tP cx).1,(tP cy).1,(tP cx).2.1,(tP cy).2.1,(tP cx).2.2,(tP cy).2.2];omega
 by_cases h2:k=2
 .subst h2;simp only[Int.reduceEq,if_true,if_false,or_self] at hA h ⊢;obtain⟨x,y,cx,cy,hw⟩:=cnt2 h;rw[hw _ Bj,hw _ Bi,hw _ Bk,(tP cx).1,(tP cy).1,(tP cx).2.1,(tP cy).2.1,(tP cx).2.2,(tP cy).2.2];omega
 by_cases h3:k=3
 .subst h3;simp only[Int.reduceEq,if_true,if_false,or_false,or_self] at hA h ⊢;simp only[cA,jU,beq_iff_eq,decide_eq_true_eq] at hA;obtain⟨rfl,rfl,rfl,hx,rfl,hy,au⟩:=hA;obtain⟨av,rfl,ha⟩:=j5 hx;obtain⟨bv,rfl,hb⟩:=j5 hy;rw[JL g ha hb h Bj,JL g ha hb h Bi,JL g ha hb h Bk];omega
 by_cases h4:k=4
 .subst h4;simp only[Int.reduceEq,if_true,if_false,or_false,or_true,or_self] at hA h ⊢;simp only[cA,jU,beq_iff_eq] at hA;obtain⟨rfl,rfl,rfl,hx,rfl,rfl⟩:=hA;obtain⟨av,rfl,ha⟩:=j5 hx;obtain⟨x,y,cx,cy,hs,hw⟩:=cnt4 g ha h;rw[hw _ Bj,hw _ Bi,hw _ Bk,(lO cx).1,(lO cy).1,(lO cx).2.1,(lO cy).2.1];omega
 by_cases h5:k=5
 .subst h5;simp only[Int.reduceEq,if_true,if_false,or_self,dV] at hA h ⊢;subst h;obtain⟨e1,e2,e3⟩:=cnt5 (ls:=ls) (a:=a.toNat) (sg:=sg) (o:=o);rw[e1,e2,e3];omega
 by_cases h6:k=6
 .subst h6;simp only[Int.reduceEq,if_true,if_false,or_true,or_self] at hA h ⊢;simp only[cA,jU,beq_iff_eq,decide_eq_true_eq] at hA;obtain⟨rfl,rfl,rfl,hx,rfl,hy,au⟩:=hA;obtain⟨av,rfl,ha⟩:=j5 hx;obtain⟨bv,rfl,hb⟩:=j5 hy;obtain⟨x,y,u,v,cx,cy,cu,cv,hs,hw⟩:=cnt6 g ha hb h;rw[hw _ Bj,hw _ Bi,hw _ Bk,(lO cx).1,(lO cy).1,(lO cx).2.1,(lO cy).2.1,(lO cu).1,(lO cv).1,(lO cu).2.1,(lO cv).2.1];omega
 by_cases h7:k=7
 .subst h7;simp only[Int.reduceEq,if_true,if_false,or_self] at hA h ⊢;obtain⟨e1,e2,e3⟩:=cnt7 h;rw[e1,e2,e3];omega
 by_cases h8:k=8
 .subst h8;simp only[Int.reduceEq,if_true,if_false,or_self] at hA h ⊢;simp only[cA,jU,beq_iff_eq,decide_eq_true_eq] at hA;obtain⟨rfl,rfl,rfl,hx,hy,hz,_,_⟩:=hA;obtain⟨av,rfl,ha⟩:=j5 hx;obtain⟨bv,rfl,hb⟩:=j5 hy;obtain⟨cv,rfl,hc⟩:=j5 hz;rw[JM g ha hb hc h,JM g ha hb hc h,JM g ha hb hc h];omega
 by_cases h9:k=9
 .subst h9;simp only[Int.reduceEq,if_true,if_false,or_false,or_true,or_self] at hA h ⊢;rw[JN h Bj,JN h Bi,JN h Bk];omega
 simp only[h1,h2,h3,h4,h5,h6,h7,h8,h9,if_false] at h ⊢;rw[JK h Bj,JK h Bi,JK h Bk];omega
end
theorem afF{f:Int}{ls:List Let}{n:Int}(hn:n<=1000000):aE S 4 [eQ f ls,vi n] (rb (decide ((ls.length:Int)<=n)&&(jN f ls==0))):=by
 by_cases h:(ls.length:Int)<=n
 .have pc:=Yx f ls aa;have hd:decide ((ls.length:Int)<=n)=true:=decide_eq_true h;rw[hd];generalize jN f ls=e at*;refine bd c4 ?_;simp only[go_sem,i4,h,s11,dR pc];all_goals(first|done|exact ay|exact⟨ay,rfl⟩|rfl)
 have hd:decide ((ls.length:Int)<=n)=false:=decide_eq_false h;rw[hd];refine bd c4 ?_;simp only[go_sem,i4,h];all_goals(first|done|exact ay|exact⟨ay,rfl⟩|rfl)
def wr (ls:List Let):Int:=(ls.map gE).sum
theorem vL(n:Int):IntKind.i64.wrap n=(n+9223372036854775808)%18446744073709551616-9223372036854775808:=by simp only[IntKind.wrap,IntKind.bits,IntKind.signed];simp;omega
theorem ahc(a b:Int):IntKind.i64.wrap (IntKind.i64.wrap a+b)=IntKind.i64.wrap (a+b):=by rw[vL,vL,vL];omega
theorem ahd(a b:Int):IntKind.i64.wrap (IntKind.i64.wrap a-IntKind.i64.wrap b)=IntKind.i64.wrap (a-b):=by rw[vL,vL,vL,vL];omega
theorem ahb{ls:List Let}{k:Nat}{x:Let}(h:ls[k]?=some x):wr (ls.take (k+1))=wr (ls.take k)+gE x:=by unfold wr;rw[lR,h];simp
theorem Wz(f:Int)(ls:List Let)(hl:ls.length<=1000000):aE S 10 [eQ f ls] (ri (IntKind.i64.wrap (wr ls))):=by
 refine bd c10 ?_;simp only[go_sem,i10];refine ck (fun k aj blk=>aj 1=.one (.aZ 640000000 1 0)/\blk 640000000=(1,some (.var (oI f ls)))/\aj 4=vi k/\aj 3=vi (IntKind.i64.wrap (wr (ls.take k)))) 0 ls.length (bc _) ?_ ?_
 .simp only[go_sem];first|exact⟨rfl,rfl⟩|exact⟨rfl,rfl,rfl⟩
 rintro k aj blk hk ⟨h1,b0,h4,h3⟩
 by_cases au:k<ls.length
 .obtain⟨x,bx⟩:=aL au;have hi:=iU bx;have aF:((k:Int)<(ls.length:Int)):=aa;have w1:=bj (n:=k) aa;have hs:=ahb bx;cases hc:(x.kind==2) with
  |true=>
   have cx:x.aC=true:=hc;cases ho:x.over with
   |true=>
    have e:gE x=x.sign:=by rw[gE,cx,ho];rfl
    rw[e] at hs;simp only[go_sem,i10_l1,h1,b0,h4,h3,hi,Let.ps,aF,w1,hc,ho,hs,ahc];first|done|exact au|exact⟨au,rfl⟩|exact⟨ay,au⟩|exact⟨ay,au,rfl⟩|trace_state
   |false=>
    have e:gE x=0:=by rw[gE,cx,ho];rfl
    rw[e,Int.add_zero] at hs;simp only[go_sem,i10_l1,h1,b0,h4,h3,hi,Let.ps,aF,w1,hc,ho,hs];first|done|exact au|exact⟨au,rfl⟩|exact⟨ay,au⟩|exact⟨ay,au,rfl⟩|trace_state
  |false=>
   have cx:x.aC=false:=hc;have e:gE x=0:=by rw[gE,cx];rfl
   rw[e,Int.add_zero] at hs;simp only[go_sem,i10_l1,h1,b0,h4,h3,hi,Let.ps,aF,w1,hc,hs];first|done|exact au|exact⟨au,rfl⟩|exact⟨ay,au⟩|exact⟨ay,au,rfl⟩|trace_state
 have:k=ls.length:=aa;subst this;rw[ke] at h3;simp only[go_sem,i10_l1,i10_r2,h1,b0,h4,h3,dT]
section
variable {F:Nat} {ls:List Let}
theorem IW(ms:List cG):((mP ms).all fun e=>e.all PV.scalar)=true:=by rw[im];intro e he;obtain⟨m,_,rfl⟩:=iX.1 he;rfl
theorem WL(g:cS F ls):∃ms,(ms.length<=2000000000/\ ∀m∈ms,zg F ls m)/\aE S 31 [eQ F ls,.one (.p (.sl (nP (kinds 10))))] (.tup [.one (bg fF 7 (mP ms)),.one (.p (.int .i64 0))]):=by obtain⟨ms,cs,lD,ps⟩:=afQ g (nH.2 g.ne);refine⟨ms,lD,?_⟩;have po:=UC g;have lo:S.lone 1984256128=false:=ah;refine bd c31 ?_;simp only[go_sem,i31,s17,cN po fE,s49];refine Sx ps lo fun c d aW gc gd hb=>?_;simp only[go_sem];exact gY gc
theorem OA{f:Int}{ms:List cG}(pr:aE S 31 [eQ f ls,.one (.p (.sl (nP (kinds 10))))] (.tup [.one (bg fF 7 (mP ms)),.one (.p (.int .i64 0))])):aE S 16 [eQ f ls] (.tup [.one (bg fF 7 (mP ms)),.one (.p (.int .i64 0))]):=by
 have lo:S.lone 1024384128=false:=ah;refine bd c16 ?_;simp only[go_sem,i16];refine ck (fun k aj blk=>aj 1=.one (.aZ 1024000000 1 0)/\blk 1024000000=(1,some (.var (oI f ls)))/\aj 5=vi ((k+1:Nat):Int)/\outK k (aj 4) blk) 0 10 (bc _) ?_ ?_
 .simp only[go_sem];exact⟨rfl,.inl ⟨rfl,rfl⟩⟩
 rintro k aj blk hk ⟨h1,hB,h5,ho⟩
 by_cases au:k<10
 .have aF:((k+1:Nat):Int)<=10:=aa;have w1:=bj (n:=k+1) aa;have bx:=acb k;rcases ho with ⟨rfl,h4⟩|⟨aR,g,h4,hC⟩
  .simp only[go_sem,i16_l1,h1,hB,h4,h5,au,aF,w1,fe,fR];exact .inr ⟨af,_,rfl,rfl⟩
  have Au:(nP (kinds k)).length=k:=by simp[kinds]
  have ht:List.take k (nP (kinds k))=nP (kinds k):=fS aa;have hr:(k+1)*8<=140737488355328:=aa;have dd:(kinds k).length=k:=by simp[kinds]
  simp only[go_sem,i16_l1,h1,hB,h4,h5,au,aF,w1,hC,ht,hr,dd,fe,fR];exact .inr ⟨af,g+1,af,by simp only[aP,if_true];rw[bx]⟩
 have:k=10:=aa;subst this;have aF:¬((10+1:Nat):Int)<=10:=ae;rcases ho with ⟨h0,_⟩|⟨_,g,h4,hC⟩
 .cases h0
 have ht:List.take 10 (nP (kinds 10))=nP (kinds 10):=fS (by simp[kinds]);have Au:10<=(List.range 10).length:=af;simp only[go_sem,i16_l1,i16_r2,h1,hB,h4,h5,aF,hC,ht,s31];refine HH pr lo (IW _) rfl fun c aW gc hb=>?_;simp only[go_sem];exact gY gc
def ms0(F:Nat):List cG:=(List.range (F+1)).map fun i=>⟨2,0,(i:Nat),0,false,false,0⟩
theorem ac2(F:Nat):mP (ms0 F)=qo (F+1):=by rw[mP,ms0,zH];rfl
theorem WD(hF:F<=40):aE S 16 [eQ F []] (.tup [.one (bg fF 7 (mP (ms0 F))),.one (.p (.int .i64 0))]):=OA (by rw[ac2];exact WK hF)
theorem WE(g:cS F ls):∃ms,(ms.length<=2000000000/\ ∀m∈ms,zg F ls m)/\aE S 16 [eQ F ls] (.tup [.one (bg fF 7 (mP ms)),.one (.p (.int .i64 0))]):=by obtain⟨ms,h,p⟩:=WL g;exact⟨ms,h,OA p⟩
def zt(m:cG)(is:Bool):RV:=.tup [.agg (m.ps.map .p),.one (.p (.bool is))]
theorem UN{f:Int}{ms:List cG}(lD:ms.length<=2000000000)(hl:ls.length<=24)(pr:aE S 16 [eQ f ls] (.tup [.one (bg fF 7 (mP ms)),.one (.p (.int .i64 0))]))(n:Int):
  ∃m is,(is=true->m∈ms)/\aE S 6 [eQ f ls,vi n] (zt m is):=by
 have lo:S.lone 384064064=false:=ah;have z0:(((0:Nat):Int)==0)=true:=rfl;have aaU:¬((ls.length:Int)>30):=aa;by_cases MA:ms=[]
 .refine⟨⟨0,0,0,0,false,false,0⟩,false,fun h=>(by cases h),?_⟩;unfold zt;refine bd c6 ?_;simp only[go_sem,i6,s16];refine HH pr lo (IW _) rfl fun c aW gc hb=>?_;have b1:=hb 384000000 ae;have b2:=hb 384000064 ae;simp only[go_sem] at b1 b2;subst MA;rcases gc with ⟨e,e2⟩|⟨aR,_⟩
  .cases e2;simp only[go_sem,b2,z0];rfl
  exact absurd rfl aR
 have aR:(mP ms)≠[]:=fun e=>MA (List.map_eq_nil_iff.1 e);have jZ:(mP ms).length=ms.length:=nv ms;have gM:0<ms.length:=nH.2 MA;have mA:((ms.length:Int)==0)=false:=beq_eq_false_iff_ne.2 aa;by_cases Ta:n<0
 .refine⟨⟨0,0,0,0,false,false,0⟩,false,fun h=>(by cases h),?_⟩;unfold zt;refine bd c6 ?_;simp only[go_sem,i6,s16];refine HH pr lo (IW _) rfl fun c aW gc hb=>?_;have b1:=hb 384000000 ae;have b2:=hb 384000064 ae;simp only[go_sem] at b1 b2;rcases gc with ⟨e,_⟩|⟨_,gg,e2,lA⟩
  .exact absurd e aR
  cases e2;rw[jZ];simp only[go_sem,b2,mA,Ta];rfl
 have AL:n.toNat%ms.length<ms.length:=eJ _ gM;obtain⟨m,hm⟩:=aL AL;have gJ:=Gk hm;have MK:n.tmod (ms.length:Int)=((n.toNat%ms.length:Nat):Int):=by obtain⟨k,rfl⟩:=nG (show 0<=n by omega);rw[Int.tmod_eq_emod_of_nonneg aa,oE];rfl
 have aa2:¬((ms.length:Int)=0):=aa;refine⟨m,true,fun _=>ba hm,?_⟩;unfold zt;refine bd c6 ?_;simp only[go_sem,i6,s16];refine HH pr lo (IW _) rfl fun c aW gc hb=>?_;have b1:=hb 384000000 ae;have b2:=hb 384000064 ae;simp only[go_sem] at b1 b2;rcases gc with ⟨e,_⟩|⟨_,gg,e2,lA⟩
 .exact absurd e aR
 cases e2;rw[jZ];simp only[go_sem,b1,b2,lA,mA,Ta,aaU,aa2,MK,AL,gJ,cG.ps];rfl
end
theorem Pz(p:Let->Bool)(w:Let->Int)(hw:∀l,w l=if p l then 1 else 0)(ls:List Let):((aA p ls:Nat):Int)=(ls.map w).sum:=by
 induction ls with
 |nil=>rfl
 |cons l ls ih=>rw[dE,rB,<- ih,hw];unfold aA;cases h:p l<;>simp[h]<;>omega
theorem Py(ls:List Let):((aA Let.aG ls:Nat):Int)=(ls.map nC).sum:=Pz _ _ (fun _=>rfl) ls
theorem Px(ls:List Let):((aA Let.aC ls:Nat):Int)=(ls.map nA).sum:=Pz _ _ (fun _=>rfl) ls
def Ix(k sg dp dc dt:Int):Prop:=if k=2 then dp=2/\dc=0/\dt=0 else if k=1 then dp= -2/\dc=0/\dt=0 else if k=5 then dp=0/\dc=1/\dt=sg else if k=4 then dp=0/\dc= -1/\(dt=1\/dt= -1) else if k=7 then dp=0/\dc=2/\dt=0 else if k=6 then dp=0/\dc= -2/\dt=0 else dp=0/\dc=0/\dt=0
theorem Ux{ls M:List Let}{k sg:Int}(hs:sg=0\/sg=1\/sg= -1)(h:fY k sg ((M.map nC).sum-(ls.map nC).sum) ((M.map nA).sum-(ls.map nA).sum) ((M.map gE).sum-(ls.map gE).sum)):
  Ix k sg (IntKind.i64.wrap (((aA Let.aG M:Nat):Int)-((aA Let.aG ls:Nat):Int))) (IntKind.i64.wrap (((aA Let.aC M/2:Nat):Int)-((aA Let.aC ls/2:Nat):Int))) (IntKind.i64.wrap (IntKind.i64.wrap (wr M)-IntKind.i64.wrap (wr ls))):=by
 rw[ahd,vL,vL,vL];rw[<- Py,<- Py,<- Px,<- Px] at h;have e1:(M.map gE).sum=wr M:=rfl;have e2:(ls.map gE).sum=wr ls:=rfl;rw[e1,e2] at h;generalize aA Let.aG M=p1 at*;generalize aA Let.aG ls=p2 at*;generalize aA Let.aC M=c1 at*;generalize aA Let.aC ls=c2 at*;generalize wr M=t1 at*;generalize wr ls=t2 at*;unfold fY at h;unfold Ix;by_cases k2:k=2
 .rw[if_pos k2] at h ⊢;omega
 rw[if_neg k2] at h ⊢;by_cases k1:k=1
 .rw[if_pos k1] at h ⊢;omega
 rw[if_neg k1] at h ⊢;by_cases k5:k=5
 .rw[if_pos k5] at h ⊢;omega
 rw[if_neg k5] at h ⊢;by_cases k4:k=4
 .rw[if_pos k4] at h ⊢;omega
 rw[if_neg k4] at h ⊢;by_cases k7:k=7
 .rw[if_pos k7] at h ⊢;omega
 rw[if_neg k7] at h ⊢;by_cases k6:k=6
 .rw[if_pos k6] at h ⊢;omega
 rw[if_neg k6] at h ⊢;omega
section
variable {F:Nat} {ls M:List Let} {k a b c:Int} {l o:Bool} {sg:Int}
theorem PX(hk:aE S 5 [] (.one (.p (.bool true)))){n:Int}(hlen:ls.length<=24)(hM:M.length<=1000)(hsm:aE S 4 [eQ F ls,vi 24] (rb true))
  (pp:aE S 6 [eQ F ls,vi n] (zt ⟨k,a,b,c,l,o,sg⟩ true)) (pa:aE S 7 [eQ F ls,fc k a b c l o sg] (rj F M))
  (h:Ix k sg (IntKind.i64.wrap (((aA Let.aG M:Nat):Int)-((aA Let.aG ls:Nat):Int))) (IntKind.i64.wrap (((aA Let.aC M/2:Nat):Int)-((aA Let.aC ls/2:Nat):Int))) (IntKind.i64.wrap (IntKind.i64.wrap (wr M)-IntKind.i64.wrap (wr ls)))):
  aE S 3 [eQ F ls,vi n] (rb true):=by
 have pM:=Nt F M aa;have pL:=Nt F ls aa;have cM:=Kg F M aa;have cL:=Kg F ls aa;have wM:=Wz F M aa;have wL:=Wz F ls aa;have qn:S.lone 192384128=false:=ah;have lo0:S.lone 192192128=false:=ah;generalize IntKind.i64.wrap (wr M)=t1 at*;generalize IntKind.i64.wrap (wr ls)=t2 at*;generalize ((aA Let.aG M:Nat):Int)=p1 at*;generalize ((aA Let.aG ls:Nat):Int)=p2 at*;generalize ((aA Let.aC M/2:Nat):Int)=c1 at*;generalize ((aA Let.aC ls/2:Nat):Int)=c2 at*;generalize nY:IntKind.i64.wrap (p1-p2)=dp at*;generalize hdc:IntKind.i64.wrap (c1-c2)=dc at*;generalize hdt:IntKind.i64.wrap (t1-t2)=dt at*
 have fin:∀ {P:Prop},(∀(h2:(k==2)=true) (e1:dp=2) (e2:dc=0) (e3:dt=0),P)->(∀(h2:(k==2)=false) (h1:(k==1)=true) (e1:dp= -2) (e2:dc=0) (e3:dt=0),P)->(∀(h2:(k==2)=false) (h1:(k==1)=false) (h5:(k==5)=true) (e1:dp=0) (e2:dc=1) (e3:dt=sg),P)->
   (∀(h2:(k==2)=false) (h1:(k==1)=false) (h5:(k==5)=false) (h4:(k==4)=true) (e1:dp=0) (e2:dc= -1) (e3:IntKind.i64.wrap (dt*dt)=1),P)->(∀(h2:(k==2)=false) (h1:(k==1)=false) (h5:(k==5)=false) (h4:(k==4)=false) (h7:(k==7)=true) (e1:dp=0) (e2:dc=2) (e3:dt=0),P)->
   (∀(h2:(k==2)=false) (h1:(k==1)=false) (h5:(k==5)=false) (h4:(k==4)=false) (h7:(k==7)=false) (h6:(k==6)=true) (e1:dp=0) (e2:dc= -2) (e3:dt=0),P)->(∀(h2:(k==2)=false) (h1:(k==1)=false) (h5:(k==5)=false) (h4:(k==4)=false) (h7:(k==7)=false) (h6:(k==6)=false) (e1:dp=0) (e2:dc=0) (e3:dt=0),P)->P:=by
  intro P q2 q1 q5 q4 q7 q6 q0;unfold Ix at h;by_cases k2:k=2
  .rw[if_pos k2] at h;exact q2 (beq_iff_eq.2 k2) h.1 h.2.1 h.2.2
  rw[if_neg k2] at h;have k2:=beq_eq_false_iff_ne.2 k2;by_cases k1:k=1
  .rw[if_pos k1] at h;exact q1 k2 (beq_iff_eq.2 k1) h.1 h.2.1 h.2.2
  rw[if_neg k1] at h;have k1:=beq_eq_false_iff_ne.2 k1;by_cases k5:k=5
  .rw[if_pos k5] at h;exact q5 k2 k1 (beq_iff_eq.2 k5) h.1 h.2.1 h.2.2
  rw[if_neg k5] at h;have k5:=beq_eq_false_iff_ne.2 k5;by_cases k4:k=4
  .rw[if_pos k4] at h;refine q4 k2 k1 k5 (beq_iff_eq.2 k4) h.1 h.2.1 ?_;rcases h.2.2 with rfl|rfl<;>rfl
  rw[if_neg k4] at h;have k4:=beq_eq_false_iff_ne.2 k4;by_cases k7:k=7
  .rw[if_pos k7] at h;exact q7 k2 k1 k5 k4 (beq_iff_eq.2 k7) h.1 h.2.1 h.2.2
  rw[if_neg k7] at h;have k7:=beq_eq_false_iff_ne.2 k7;by_cases k6:k=6
  .rw[if_pos k6] at h;exact q6 k2 k1 k5 k4 k7 (beq_iff_eq.2 k6) h.1 h.2.1 h.2.2
  rw[if_neg k6] at h;exact q0 k2 k1 k5 k4 k7 (beq_eq_false_iff_ne.2 k6) h.1 h.2.1 h.2.2
 have z00:((0:Int)!=0)=false:=rfl;have lp:∀ {blk:aw},land blk [] 192192128 ((zt ⟨k,a,b,c,l,o,sg⟩ true).fx (S.lone 192192128))=some (.tup [fc k a b c l o sg,.one (.p (.bool true))],[]):=by intro blk;rw[lo0];rfl
 refine bd c3 ?_;simp only[go_sem,i3,s4,bY hsm,s6,cN pp lp,s7];refine EN pa qn fun x aW gx hb=>?_;have b0:=hb 192000000 ae;have b5:=hb 192192384 ae;simp only[go_sem] at b0 b5;obtain⟨rd,pC,nn⟩:=gx.N6;have hsB:∀B:aw,B (192384128+1)=aW (192384128+1)->Go.Abs.snap B dD x=some (mJ M,rd):=pC;clear pC gx hb;simp only[Nat.reduceAdd] at hsB;rcases nn with rfl|rfl
 all_goals
  simp only[go_sem,b0,b5,z00,hsB,s8,s9,s10,gT pM,gT pL,gT cM,gT cL,gT wM,gT wL,nY,hdc,hdt];refine⟨ay,?_⟩;refine fin ?_ ?_ ?_ ?_ ?_ ?_ ?_
  .intro h2 e1 e2 e3;simp only[go_sem,h2,e1,e2,e3,s5,bY hk]
  .intro h2 h1 e1 e2 e3;simp only[go_sem,h2,h1,e1,e2,e3,s5,bY hk]
  .intro h2 h1 h5 e1 e2 e3;simp only[go_sem,h2,h1,h5,e1,e2,e3,b5,s5,bY hk]
  .intro h2 h1 h5 h4 e1 e2 e3;simp only[go_sem,h2,h1,h5,h4,e1,e2,e3,s5,bY hk]
  .intro h2 h1 h5 h4 h7 e1 e2 e3;simp only[go_sem,h2,h1,h5,h4,h7,e1,e2,e3,s5,bY hk]
  .intro h2 h1 h5 h4 h7 h6 e1 e2 e3;simp only[go_sem,h2,h1,h5,h4,h7,h6,e1,e2,e3,s5,bY hk]
  intro h2 h1 h5 h4 h7 h6 e1 e2 e3;simp only[go_sem,h2,h1,h5,h4,h7,h6,e1,e2,e3,s5,bY hk]
theorem IQ{e:Int}(he:e≠0)(h:pH e=rj F M):False:=by simp only[pH,rj,RV.tup.injEq,List.cons.injEq,RV.one.injEq,RC.p.injEq,PV.int.injEq] at h;exact he h.2.1.2
theorem PW(hk:aE S 5 [] (.one (.p (.bool true)))){f n:Int}(hsm:aE S 4 [eQ f ls,vi 24] (rb false)):aE S 3 [eQ f ls,vi n] (rb true):=by refine bd c3 ?_;simp only[go_sem,i3,s4,bY hsm,s5,bY hk]
theorem PU(hk:aE S 5 [] (.one (.p (.bool true)))){f n:Int}{m:cG}(hsm:aE S 4 [eQ f ls,vi 24] (rb true))(pp:aE S 6 [eQ f ls,vi n] (zt m false)):aE S 3 [eQ f ls,vi n] (rb true):=by
 have lo0:S.lone 192192128=false:=ah;have lp:∀ {blk:aw},land blk [] 192192128 ((zt m false).fx (S.lone 192192128))=some (.tup [fc m.k m.a m.b m.c m.l m.o m.s,.one (.p (.bool false))],[]):=by intro blk;rw[lo0];rfl
 refine bd c3 ?_;simp only[go_sem,i3,s4,bY hsm,s6,cN pp lp,s5,bY hk]
theorem ack(hk:aE S 5 [] (.one (.p (.bool true))))(f:Int)(ls:List Let)(n:Int):aE S 3 [eQ f ls,vi n] (rb true):=by
 have ps:=afF (f:=f) (ls:=ls) (n:=24) ae;by_cases hl:(ls.length:Int)<=24
 rotate_left
 .rw[decide_eq_false hl,Bool.false_and] at ps;exact PW hk ps
 by_cases hc:jN f ls=0
 rotate_left
 .rw[beq_eq_false_iff_ne.2 hc,Bool.and_false] at ps;exact PW hk ps
 have hsm:(decide ((ls.length:Int)<=24)&&(jN f ls==0))=true:=by rw[decide_eq_true hl,hc];rfl
 rw[hsm] at ps;by_cases aR:ls=[]
 .subst aR;have hF:0<=f/\f<=40:=by
   unfold jN at hc;rw[if_neg ae] at hc;by_cases hf:f<0\/40<f
   .rw[if_pos hf] at hc;cases hc
   omega
  obtain⟨F,rfl⟩:=nG hF.1;have pall:=WD (F:=F) aa;obtain⟨m,is,hm,pp⟩:=UN (by rw[ms0,cq,List.length_range];omega) (ls:=[]) (bc 24) pall n;cases is with
  |false=>exact PU hk ps pp
  |true=>
   have hm:=hm rfl;obtain⟨i,hi,rfl⟩:=iX.1 hm;have hi:=iN.1 hi;have pa:=Xk (F:=F) aa 2 0 (i:Nat) 0 false false 0;have hA:aV F [] 2 0 (i:Nat) 0 false false 0=true:=by unfold aV;simp;omega
   unfold Jv at pa;rw[if_pos hA] at pa;refine PX hk (bc 24) (M:=yf i) (show 2<=1000 by decide) ps pp pa ?_;exact Ux (.inl rfl) (show fY 2 0 2 0 0 by unfold fY;rw[if_pos rfl];exact⟨rfl,rfl,rfl⟩)
 obtain⟨F,rfl,g⟩:=ZX hc aR;obtain⟨ms,aq,pall⟩:=WE g;obtain⟨m,is,hm,pp⟩:=UN aq.1 aa pall n;cases is with
 |false=>exact PU hk ps pp
 |true=>
  obtain⟨_,_,M,hM⟩:=aq.2 m (hm rfl);have pa:=Xl g m.k m.a m.b m.c m.l m.o m.s;obtain⟨k,a,b,c,l,o,sg⟩:=m;simp only at hM pa pp;have hS:sg=0\/sg=1\/sg= -1:=by
   have hA:aV F ls k a b c l o sg=true:=by
    unfold sR at hM;split at hM
    .assumption
    exact(IQ ae hM).elim
   unfold aV at hA;repeat' split at hA
   all_goals first|cases hA;done|(simp only[cA,sG,beq_iff_eq] at hA;omega)
  unfold sR at hM pa;by_cases hA:aV F ls k a b c l o sg=true
  .rw[if_pos hA] at hM pa;cases hL:xv F ls k a.toNat b.toNat c.toNat l o sg with
   |none=>rw[hL] at hM;exact(IQ ae hM).elim
   |some L=>
    rw[hL] at hM pa;unfold rJ at hM pa;simp only at hM pa;split at hM
    .exact(IQ ae hM).elim
    rename_i hh;rw[if_neg hh] at pa;refine PX hk aa (by rw[ZV];have:=Ua hL;omega) ps pp pa (Ux hS ?_);have h:=YD g hA hL;rw[N2,N2,N2] at h;rw[N0,N0,N0];exact h
  rw[if_neg hA] at hM;exact(IQ ae hM).elim
end
end
end Go.Abs
namespace Go.Proofs.YtfgognempokgkaaGreatDoor.fnMoveCounts
open Go.Abs Go.ChangeShapes Go.WideShapes Go.ChangeAt Go.RowKit
theorem SO {P : Program} {N n : Nat} {t : TypeId} {fs : Array Field} {p : List PV} (hu : P.underlying t = some (.struct fs)) (h : ir P N (n + 1) t p) :
    ∃parts : List (List PV), p = parts.flatten ∧ parts.length = fs.toList.length ∧ ∀(i : Nat) (f : Field) (x : List PV), fs.toList[i]?= some f → parts[i]?= some x → ir P N n f.type x := by
  simp only [ir, hu] at h;exact h
theorem acF {es : List (List PV)} (h :∀x ∈ es, ∃l : Let, x = l.ps) :∃ls : List Let, es = ls.map Let.ps := by
  induction es with
  | nil => exact ⟨[], rfl⟩
  | cons e es ih =>obtain ⟨l, rfl⟩ := h e (by simp);obtain ⟨ls, rfl⟩ := ih fun x hx => h x (by simp [hx]);exact ⟨l :: ls, rfl⟩
theorem acE {N n : Nat} {p : List PV} (h : ir S.P N (n + 1 + 1) 51 p) :∃l : Let, p = l.ps := by
  obtain ⟨parts, rfl, hl, hp⟩ := SO Tryz.underlying51 h;rcases parts with _ | ⟨p0, _ | ⟨p1, _ | ⟨p2, _ | ⟨p3, _ | ⟨p4, _ | ⟨p5, _ | ⟨p6, r⟩⟩⟩⟩⟩⟩⟩ <;> first
    | (simp at hl; done)
    | skip
  obtain ⟨k, rfl, _⟩ := Ae Tryz.underlying49 (hp 0 _ _ rfl rfl);obtain ⟨g, rfl, _⟩ := Ae Tryz.underlying3 (hp 1 _ _ rfl rfl);obtain ⟨r, rfl, _⟩ := Ae Tryz.underlying3 (hp 2 _ _ rfl rfl);obtain ⟨i, rfl, _⟩ := Ae Tryz.underlying3 (hp 3 _ _ rfl rfl);obtain ⟨s, rfl, _⟩ := Ae Tryz.underlying3 (hp 4 _ _ rfl rfl);obtain ⟨o, rfl⟩ := aaB Tryz.underlying4 (hp 5 _ _ rfl rfl);exact ⟨⟨k, g, r, i, s, o⟩, rfl⟩
theorem YF {N n : Nat} {p : List PV} (h : ir S.P N (n + 1 + 1 + 1 + 1) 24 p) :∃(k : Int) (ls : List Let), p = [.int .i64 k,.sl (ls.map Let.ps)] := by
  obtain ⟨parts, rfl, hl, hp⟩ := SO Tryz.underlying24 h;rcases parts with _ | ⟨p0, _ | ⟨p1, _ | ⟨p2, r⟩⟩⟩ <;> first
    | (simp at hl; done)
    | skip
  obtain ⟨k, rfl, _⟩ := Ae Tryz.underlying3 (hp 0 _ _ rfl rfl);obtain ⟨es, rfl, _, he⟩ := aaC Tryz.underlying22 (hp 1 _ _ rfl rfl);obtain ⟨ls, rfl⟩ := acF fun x hx => acE (he x hx);exact ⟨k, ls, rfl⟩
theorem law_any (pvss : List (List PV)) (h : GZ S.P maxLen 4 Tryz.f3.params.toList pvss) : aE S 3 (vV S.P Tryz.f3.params.toList pvss) (.one (.p (.bool true))) := by
  have hp : Tryz.f3.params.toList = [24, 3] := by rw [Tryz.params3]
  rw [hp] at h ⊢;rcases pvss with _ | ⟨a0, _ | ⟨a1, _ | ⟨a2, z2⟩⟩⟩
  · exact h.elim
  · exact h.2.elim
  · obtain ⟨f0, ls0, rfl⟩ := YF (n := 0) h.1
    obtain ⟨x1, rfl, _⟩ := Ae (n := 3) Tryz.underlying3 h.2.1;have e3 :∀(f : Int) (a : List Let), vU S.P 24 [.int .i64 f,.sl (a.map Let.ps)] = eQ f a := fun f a => Xp (P := S.P) Tryz.underlying24;have e1 :∀x : Int, vU S.P 3 [.int .i64 x] = vi x := fun x => Xo (P := S.P) Tryz.underlying3 (fun fs h => by cases h);simp only [vV, e3, e1];exact ack ace f0 ls0 x1
  · exact h.2.2.elim
theorem gTab : Tryz.prog.globalNamed Jb = some 0 := by kernel_rfl
theorem aan : (Tryz.prog.globals[0]?).map (·.type) = some 172 := by kernel_rfl
theorem Yt : Tryz.prog.cellsOf 172 = 20 := by kernel_rfl
theorem Yu : Tryz.prog.cellsOf 147 = 1 := by kernel_rfl
/-- what the row's list gives: the table of the powers of ten -/
theorem table {W : World} (h : laidMetH Tryz.prog Rows.moveCountsRow.laid W) : G W := by
  have h1 : laidMet Tryz.prog Rows.moveCountsRow.laid W := h;have h2 := h1.tail.tail;have e : (Rows.laid_internal_strconv_uint64pow10 : DataW Unit) = Lib.tabData .u64 Lib.pow10Tab := by kernel_rfl
  rw [e] at h2;exact Lib.tabIs_of_head (rest := []) gTab aan Tryz.underlying172 Tryz.underlying147 Yu Yt h2
end Go.Proofs.YtfgognempokgkaaGreatDoor.fnMoveCounts
namespace Go.Proofs.YtfgognempokgkaaGreatDoor.fnMoveCounts
open Go.Abs Go.ChangeShapes Go.WideShapes Go.ChangeAt Go.RowKit
theorem own : ownKnob Tryz.prog.godebug = none := by kernel_rfl
theorem YP (H : Type) (enc : TypeId×Value → H) (W : World) (base : Nat) (args : Array Value) (ds gs : List (DataW H)) (before : List MemPlace)
    (hval :∀(j : Nat) t v, Tryz.f3.params[j]?= some t → args[j]?= some v → Value.okWide Tryz.prog W .any base t v)
    (hW : DataW.Whole enc Tryz.prog Tryz.f3.params.toList Rows.moveCountsSpec.vars false W args.toList ds gs before) (hL : laidMetH Tryz.prog Rows.moveCountsRow.laid W) :
    Calls Tryz.prog 3 args W fun e W' =>∃v, e =.returned v ∧ Rows.moveCountsSpec.post enc Tryz.prog Tryz.f3 false true false false W args v W' := by
  have hk :∀t ∈ Tryz.f3.params.toList, ik S.P 4 t = true := by
    rw [Tryz.params3];intro t ht;have e : t = 24 ∨ t = 3 := by simpa using ht
    have k0 : ik S.P 4 24 = true := by kernel_rfl
    have k1 : ik S.P 4 3 = true := by kernel_rfl
    rcases e with e | e
    · exact e ▸ k0
    · exact e ▸ k1
  have hfit :∀d ∈ ds, Fits maxLen d := by obtain ⟨p, q, hA, _⟩ := hW;exact (Wd hk hA).1
  exact acj S_ok (fun w h => aau h) (fn := Tryz.f3) (s := Rows.moveCountsSpec) rfl
    (fun H ds hd => by
      rw [Tryz.params3] at hd
      match ds, hd with
      | [d0, d1], _ => rfl) (tb := 4) (by kernel_rfl) Tryz.underlying4 hk law_any hval hW (table hL) hfit

noncomputable def Ys (d : DataW Unit) : Array Value :=
  match d with
  | .agg l => (l.map fun
    | .lit (.int k z) => Value.int k z
    | _ => undef).toArray
  | _ => #[]
noncomputable def M9 (d : DataW Unit) : Obj → Obj
  | .cells _ t frozen =>.cells (Ys d) t frozen
  | o => o
noncomputable def M8 (os : Os) : World :={ World.holding Tryz.prog os ⟨#[], #[], []⟩ with heap := (((World.holding Tryz.prog os ⟨#[], #[], []⟩).heap.modify 2 (M9 Rows.laid_math_bits_deBruijn32tab)).modify 3 (M9 Rows.laid_math_bits_deBruijn64tab)).modify 0 (M9 Rows.laid_internal_strconv_uint64pow10) }
theorem acf (os : Os) : laidMet Tryz.prog Rows.moveCountsRow.laid ((M8 os).forCall (fun _ _ => 0) ⟨#[], #[Value.agg #[.int .i64 0,.slice none 0 0],.int .i64 0], []⟩).memory :=laidMet_of_run' 8 (by kernel_rfl) (by kernel_rfl)
theorem reads (os : Os) {H : Type} (enc : TypeId×Value → H) :∃places, DataW.whole enc Tryz.prog ((M8 os).forCall (fun _ _ => 0) ⟨#[], #[Value.agg #[.int .i64 0,.slice none 0 0],.int .i64 0], []⟩).memory Tryz.f3.params.toList Rows.moveCountsSpec.vars false #[Value.agg #[.int .i64 0,.slice none 0 0],.int .i64 0].toList 8 = some ([.agg [.lit (.int .i64 0),.nil],.lit (.int .i64 0)], [], places) :=
  ⟨[], by kernel_rfl⟩

theorem lifted (os : Os) (started : os.Started) (H : Type) (enc : TypeId×Value → H) (F : Stop.Interp) :
    ReturnsInHanded {} Tryz.checked os 3 .any ((OpenSpec.ofChange Rows.moveCountsSpec).preRow enc Tryz.prog Tryz.f3 Rows.moveCountsRow.domain false Rows.moveCountsRow.laid) (((OpenSpec.ofChange Rows.moveCountsSpec).at F).post enc Tryz.prog Tryz.f3 false true false false) := by
  obtain ⟨places, hx⟩ := reads os enc;refine returnsInHanded_of_row (C := Tryz.checked) (s := (OpenSpec.ofChange Rows.moveCountsSpec)) own started (by kernel_rfl) Tryz.func3
    (witness_row_at (enc := enc) (C := Tryz.checked) false (M8 os) #[Value.agg #[.int .i64 0,.slice none 0 0],.int .i64 0] rfl (by kernel_rfl) (by kernel_rfl) (by kernel_rfl)
      (OpenSpec.preRow_of_cond 8 hx (by kernel_rfl) (fun k hk => by cases hk) (by kernel_rfl) (acf os))) ?_
  intro W base args ds gs before hval hW _ _ _ hL _ _;exact YP H enc W base args ds gs before hval hW hL
end Go.Proofs.YtfgognempokgkaaGreatDoor.fnMoveCounts
namespace Go.Proofs.YtfgognempokgkaaGreatDoor.fnMoveCounts
open Go.Abs Go.ChangeShapes Go.WideShapes Go.ChangeAt Go.RowKit
theorem said : Rows.MoveCountsSaid :=
  OpenClaim.holds_of_cond 3 Tryz.f3 rfl rfl rfl rfl rfl rfl rfl ⟨rfl, rfl, rfl, rfl, rfl⟩ rfl rfl rfl rfl rfl (by kernel_rfl) Tryz.func3 closed
    (of_decide_eq_true (by kernel_rfl)) (by unfold Func.isWrapper; first | (rw [if_pos (by decide +kernel)]; kernel_rfl) | (rw [if_neg (by decide +kernel)]; exact ⟨rfl, rfl⟩))
    (fun os started H enc _ F => by rw [OpenClaim.pre_eq_preRow]; exact lifted os started H enc F)

theorem plain (f : FuncId) (fn : Func) (hf : Tryz.pinned.checked.prog.funcNamed Rows.moveCountsRow.func = some f) (hfn : Tryz.pinned.checked.prog.funcs[f]?= some fn) :
    false = Tryz.pinned.checked.prog.looks [] ∧ ∀(j : Nat) t, fn.params[j]?= some t → Tryz.pinned.checked.prog.wantsStandIn t = false := by
  obtain rfl : f = 3 := Option.some.inj ((show Tryz.prog.funcNamed Rows.moveCountsRow.func = some 3 by kernel_rfl).symm.trans hf) |>.symm
  obtain rfl : fn = Tryz.f3 := (Option.some.inj (Tryz.func3.symm.trans hfn)).symm;refine ⟨by kernel_rfl, ?_⟩
  · intro j t ht
    rw [Tryz.params3] at ht;have e : t = 24 ∨ t = 3 := by simpa using Array.mem_of_getElem? ht
    have k0 : Tryz.prog.wantsStandIn 24 = false := by kernel_rfl
    have k1 : Tryz.prog.wantsStandIn 3 = false := by kernel_rfl
    rcases e with e | e
    · exact e ▸ k0
    · exact e ▸ k1

theorem ag6 : Rows.moveCountsRow.wfByText (OpenSpec.ofChange Rows.moveCountsSpec) = true := by kernel_rfl
theorem mainIs : Tryz.pinned.checked.prog.mainIs = some ((true, "7fbc0cd3d29b6dd0c1efce6f3aa78c76a715d78e9df757199231b590063ad84f").1, (true, "7fbc0cd3d29b6dd0c1efce6f3aa78c76a715d78e9df757199231b590063ad84f").2.toList) := by kernel_rfl
theorem card : Rows.MoveCountsCardSaid :=Claim7.holds_tied_plain_at .later [] _ _ _ _ said (fun _ h => by cases h) ag6 (fun _ h => by cases h) moveCounts_row_tie rfl ⟨rfl, rfl⟩ mainIs rfl plain goes
end Go.Proofs.YtfgognempokgkaaGreatDoor.fnMoveCounts
