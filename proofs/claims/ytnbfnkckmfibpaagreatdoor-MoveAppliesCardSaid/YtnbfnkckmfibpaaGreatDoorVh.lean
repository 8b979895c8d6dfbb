/-
  Which triangles are possible.
-/
import Derived.Test.YtnbfnkckmfibpaaGreatDoorVg
import Derived.Test.YtnbfnkckmfibpaaGreatDoorVb
set_option linter.unusedSimpArgs false
set_option linter.unusedVariables false
set_option linter.unusedSectionVars false
set_option maxRecDepth 100000
set_option maxHeartbeats 16000000
namespace Go.Abs
section
variable {F:Nat} {ls:List ae}
def kO(l:List Int)(x:Int):List Int:=if x∈l then l else l++[x]
def Li(ls:List ae)(l:List Int)(e:Nat):List Int:=kO (kO l (lA ls e).id) (lA ls (nx ls e)).id
def DK(ls:List ae)(es:List Nat):List Nat:=es.flatMap fun e=>[e,nx ls e]
def xL(ls:List ae)(es:List Nat):List Int:=es.map (PJ ls)
def pF(ls:List ae)(es:List Nat):List Int:=es.foldl (Li ls) []
def JI(ls:List ae)(es:List Nat)(j:Nat):Bool:=match es[j]? with|some e=>xB ls e&&(!decide (e∈DK ls (es.take j))&& !decide (nx ls e∈DK ls (es.take j)))|none=>true
def MY(F:Nat)(ls:List ae)(es:List Nat):Bool:=(List.range es.length).all (JI ls es)&&(((pF ls es).length==3)&&(decide ((2:Int)∈xL ls es)&&(decide ((0:Int)∈xL ls es)&&jZ F ls 0 es)))
theorem zF(es:List Nat):(DK ls es).length=2*es.length:=by
 unfold DK
 induction es with
 |nil=>rfl
 |cons a r ih=>rw[List.flatMap_cons,aay,ih,aar];simp;omega
theorem Of(l:List Int)(e:Nat):(Li ls l e).length<=l.length+2:=by
 unfold Li kO;repeat' split
 all_goals simp
theorem oy(es:List Nat):(pF ls es).length<=2*es.length:=by
 unfold pF;have: ∀ (es:List Nat) (l:List Int),(es.foldl (Li ls) l).length<=l.length+2*es.length:=by
  intro es
  induction es with
  |nil=>intro l;simp
  |cons a r ih=>intro l;have h1:=ih (Li ls l a);have h2:=Of (ls:=ls) l a;simp only[abN,aar];omega
 have:=this es []
 simpa using this
theorem JG(g:bj F ls){av bv cv:Nat}(ha:av<ls.length)(hb:bv<ls.length)(hc:cv<ls.length):aH S 97 [kZ F ls,vi av,vi bv,vi cv] (rb (MY F ls [av,bv,cv])):=by
 have hlen:=g.len;have UL: ∀ e∈[av,bv,cv],e<ls.length:=fun e h=>by
  simp at h;rcases h with rfl|rfl|rfl<;>assumption
 have po:=EI g 0 [av,bv,cv] UL (by simp);have c1:((0:Nat):Int)=0:=rfl;rw[c1] at po;have hn3:nP [av,bv,cv]=[[.int .i64 av],[.int .i64 bv],[.int .i64 cv]]:=rfl;generalize hE:[av,bv,cv]=es at*;have TS:es.length=3:=by rw[<- hE];rfl
 refine aG c97 ?_;simp only[go_sem,i97];refine be (fun j env Tc=>env 4= .one (.Tn 6208000000 1 0)/\env 9= .one (.hsl 6208064192 1 1 0 3)/\env 13=vi j/\Tc 6208000000=(1,some (.var (Ps F ls)))/\Tc 6208064192=(1,some (.arr 3 1 (nP es)))/\(∀ i,i<j->JI ls es i=true)/\
  ∃ c10 c11 c12,∃ s11,env 10= .one c10/\env 11= .one c11/\env 12= .one c12/\(s11=6208832256\/s11=6208960256)/\grown 6208640768 3 1 (nP (DK ls (es.take j))) (.one c10) Tc/\grown s11 3 1 (iP (pF ls (es.take j))) (.one c11) Tc/\grown 6208704512 3 1 (iP (xL ls (es.take j))) (.one c12) Tc) 0 3 (aah _) ?_ ?_
 ·simp only[go_sem];exact⟨rfl,by rw[hn3],fun i hi=>absurd hi (abl i),_,_,_,6208832256,rfl,rfl,rfl, .inl rfl,grown.nil,grown.nil,grown.nil⟩
 ·rintro j env Tc hj ⟨h4,h9,UT,b0,b9,Tj,c10,c11,c12,s11,TJ,Ui,U4,VT,g10,g11,g12⟩
  have hjl:(es.take j).length<=3:=by rw[aaB];omega
  by_cases Ti:j<3
  ·have Tk:((j:Int)<3):=by omega
   obtain⟨e,he⟩:=ao (ls:=es) (k:=j) (by omega);have Vo:=UL e (aaf he);have hnp:=cN he;have w1:=am (n:=j) (by omega);have pc:=oR (F:=F) Vo (by omega);have pe:=nO (F:=F) Vo (by omega);have pl:=N3 (F:=F) Vo (by omega);have p1:=rn (DK ls (es.take j)) e (by rw[zF];omega);have p2:=rn (DK ls (es.take j)) (nx ls e) (by rw[zF];omega);obtain⟨r10,adI,ad2⟩:=g10.By;have hOe:JI ls es j=(xB ls e&&(!decide (e∈DK ls (es.take j))&& !decide (nx ls e∈DK ls (es.take j)))):=by unfold JI;rw[he]
   have TW:JI ls es j=false->MY F ls es=false:=fun h=>by
    have:(List.range es.length).all (JI ls es)=false:=by
     cases hh:(List.range es.length).all (JI ls es) with
     |false=>rfl
     |true=>rw[aaJ.1 hh j (aaE.2 (by omega))] at h;cases h
    unfold MY;rw[this];rfl
   cases cr:xB ls e with
   |false=>
    rw[cr] at hOe;rw[TW hOe];rw[cr] at pc;simp only[go_sem,i97_l1,h4,h9,UT,b0,b9,Ti,Tk,hnp,s95,aY pc (fk _ _ _)];first|done|exact au|exact⟨au,rfl⟩|exact⟨au,au,rfl⟩
   |true=>
    rw[cr] at hOe pc;cases m1:decide (e∈DK ls (es.take j)) with
    |true=>
     rw[m1] at hOe p1;rw[TW hOe];simp only[go_sem,i97_l1,h4,h9,TJ,UT,b0,b9,Ti,Tk,hnp,adI,s95,aY pc (fk _ _ _),s57,aw p1];refine⟨au,?_⟩;rcases ad2 with rfl|rfl<;>exact au
    |false=>
     rw[m1] at hOe p1;cases m2:decide (nx ls e∈DK ls (es.take j)) with
     |true=>
      rw[m2] at hOe p2;rw[TW hOe];simp only[go_sem,i97_l1,h4,h9,TJ,UT,b0,b9,Ti,Tk,hnp,adI,s95,aY pc (fk _ _ _),s57,aw p1,aw p2,s22,bg pe];refine⟨au,?_⟩;rcases ad2 with rfl|rfl<;>exact au
     |false=>
      rw[m2] at hOe p2;simp only[go_sem,i97_l1,h4,h9,TJ,UT,b0,b9,Ti,Tk,hnp,adI,s95,aY pc (fk _ _ _),s57,aw p1,aw p2,s22,bg pe];refine⟨au,?_,?_⟩
      ·rcases ad2 with rfl|rfl<;>exact au
      have n1:s11≠6208640768:=by rcases VT with rfl|rfl<;>decide
      have n2:s11≠6208704512:=by rcases VT with rfl|rfl<;>decide
      have n3:s11≠6208448640:=by rcases VT with rfl|rfl<;>decide
      have n4:s11≠6208448704:=by rcases VT with rfl|rfl<;>decide
      have n5:s11≠6208640704:=by rcases VT with rfl|rfl<;>decide
      have n6:s11≠6208704448:=by rcases VT with rfl|rfl<;>decide
      refine fi (xs:=[[.int .i64 (e:Nat)],[.int .i64 ((e+1)%ls.length:Nat)]]) (g10.of_eq (by simp only[go_sem])) (by simp only[bh,af,if_true];rfl) (.inl rfl) (by simp only[vB,zF,aar,aav];omega) fun d10 Tq r w ai2 Tw hw=> ?_
      have q0:=Tw 6208000000 (by decide) (by decide);have q9:=Tw 6208064192 (by decide) (by decide);have q14:=Tw 6208448640 (by decide) (by decide);have q15:=Tw 6208448704 (by decide) (by decide);have q12:=Tw 6208704512 (by decide) (by decide);have Yz:=Tw s11 n1 n1;simp only[go_sem,b0,b9,n3,n4,n5] at q0 q9 q14 q15 q12 Yz;have ai6:=g12.of_eq q12;have ai8:=g11.of_eq Yz;simp only[go_sem,h4,h9,U4,UT,q0,q9,Ti,hnp,s130,bg pl];refine⟨?_,?_⟩
      ·rcases hw with ⟨rfl,rfl⟩|⟨rfl,rfl⟩|⟨rfl,rfl⟩<;>kernel_rfl
      refine fi (xs:=[[.int .i64 (PJ ls e)]]) (ai6.of_eq (aj (by decide))) (by simp only[bh,af,if_true];rfl) (.inl rfl) (by simp[xL];omega) fun d12 Tp r2 w2 aez Tv Uw=> ?_
      have abp:=ai2.of_eq ((Tv 6208640768 (by decide) (by decide)).trans (aj (by decide)));have p0:=Tv 6208000000 (by decide) (by decide);have p9:=Tv 6208064192 (by decide) (by decide);have p14:=Tv 6208448640 (by decide) (by decide);have p15:=Tv 6208448704 (by decide) (by decide);have p11:=Tv s11 n2 n2;simp only[go_sem,q0,q9,q14,q15,n6] at p0 p9 p14 p15 p11;have XQ:=ai8.of_eq p11;have hMe:nP (DK ls (es.take (j+1)))=nP (DK ls (es.take j))++[[.int .i64 (e:Nat)],[.int .i64 ((e+1)%ls.length:Nat)]]:=by
       rw[aaX,he,DK,DK];simp
      have hVe:iP (xL ls (es.take (j+1)))=iP (xL ls (es.take j))++[[.int .i64 (PJ ls e)]]:=by
       rw[aaX,he,xL,xL];simp
      have hIe:pF ls (es.take (j+1))=kO (kO (pF ls (es.take j)) (lA ls e).id) (lA ls (nx ls e)).id:=by
       rw[aaX,he];simp[pF,ads,Li]
      have ab7: ∀ i,i<j+1->JI ls es i=true:=fun i hi=>by
       rcases aaW.1 hi with h|rfl
       ·exact Tj i h
       ·rw[hOe];rfl
      simp only[go_sem,Ui,p14];refine⟨?_,?_⟩
      ·rcases Uw with ⟨rfl,rfl⟩|⟨rfl,rfl⟩|⟨rfl,rfl⟩<;>kernel_rfl
      have m0:6208000000≠s11:=by rcases VT with rfl|rfl<;>decide
      have m9:6208064192≠s11:=by rcases VT with rfl|rfl<;>decide
      have m3:s11≠6208832192:=by rcases VT with rfl|rfl<;>decide
      have m4:s11≠6208960192:=by rcases VT with rfl|rfl<;>decide
      have m14:6208448640≠s11:=n3.symm;have m15:6208448704≠s11:=n4.symm;have ph1:=yH (pF ls (es.take j)) (lA ls e).id (by have:=oy (ls:=ls) (es.take j);omega);obtain⟨r11,afc,_⟩:=XQ.By;cases hx:decide ((lA ls e).id∈pF ls (es.take j)) with
      |true=>
       rw[hx] at ph1;simp only[go_sem,Ui,p15,afc,s57,aa ph1];have hIx:kO (pF ls (es.take j)) (lA ls e).id=pF ls (es.take j):=by rw[kO,if_pos (of_decide_eq_true hx)]
       have Xq:=yH (pF ls (es.take j)) (lA ls (nx ls e)).id (by have:=oy (ls:=ls) (es.take j);omega);obtain⟨r11b,sn11b,_⟩:=XQ.By;cases hy:decide ((lA ls (nx ls e)).id∈pF ls (es.take j)) with
       |true=>
        rw[hy] at Xq;have hI:pF ls (es.take (j+1))=pF ls (es.take j):=by rw[hIe,hIx,kO,if_pos (of_decide_eq_true hy)]
        simp only[go_sem,h4,h9,UT,Ui,p0,p9,aa Xq,w1,Ti];exact⟨ab7,d10,c11,d12,s11,rfl,rfl,rfl,VT,by rw[hMe];exact abp,by rw[hI];exact XQ,by rw[hVe];exact aez⟩
       |false=>
        rw[hy] at Xq;have hI:iP (pF ls (es.take (j+1)))=iP (pF ls (es.take j))++[[.int .i64 (lA ls (nx ls e)).id]]:=by rw[hIe,hIx,kO,if_neg (of_decide_eq_false hy)];simp
        simp only[go_sem,Ui,p15,aa Xq];refine gk (xs:=[[.int .i64 (lA ls (nx ls e)).id]]) (XQ.of_eq (aj (m4))) (by simp only[bh,af,if_true];rfl) (.inl rfl) (by have:=oy (ls:=ls) (es.take j);simp only[fO,aar,aav];omega) fun e11 ajf ge hb9=> ?_
        have z0:=hb9 6208000000 (by decide) m0;have z9:=hb9 6208064192 (by decide) m9;simp only[go_sem,p0,p9] at z0 z9;have aey:=abp.of_eq ((hb9 6208640768 (by decide) n1.symm).trans (aj (by decide)));have aex:=aez.of_eq ((hb9 6208704512 (by decide) n2.symm).trans (aj (by decide)));simp only[go_sem,h4,h9,UT,z0,z9,w1,Ti];exact⟨ab7,d10,e11,d12,6208960256,rfl,rfl,rfl, .inr rfl,by rw[hMe];exact aey,by rw[hI];exact ge,by rw[hVe];exact aex⟩
      |false=>
       rw[hx] at ph1;simp only[go_sem,Ui,p14,afc,s57,aa ph1];have hIx:kO (pF ls (es.take j)) (lA ls e).id=pF ls (es.take j)++[(lA ls e).id]:=by rw[kO,if_neg (of_decide_eq_false hx)]
       refine gk (xs:=[[.int .i64 (lA ls e).id]]) (XQ.of_eq (aj m3)) (by simp only[bh,af,if_true];rfl) (.inl rfl) (by have:=oy (ls:=ls) (es.take j);simp only[fO,aar,aav];omega) fun c11b ajg ga hb8=> ?_
       have y0:=hb8 6208000000 (by decide) m0;have y9:=hb8 6208064192 (by decide) m9;have y14:=hb8 6208448640 (by decide) m14;have y15:=hb8 6208448704 (by decide) m15;simp only[go_sem,p0,p9,p14,p15] at y0 y9 y14 y15;have agi:=abp.of_eq ((hb8 6208640768 (by decide) n1.symm).trans (aj (by decide)));have agh:=aez.of_eq ((hb8 6208704512 (by decide) n2.symm).trans (aj (by decide)));have ga':grown 6208832256 3 1 (iP (pF ls (es.take j)++[(lA ls e).id])) (.one c11b) ajg:=by rw[iP,abQ];exact ga
       have Xq:=yH (pF ls (es.take j)++[(lA ls e).id]) (lA ls (nx ls e)).id (by have:=oy (ls:=ls) (es.take j);simp only[aay,aar,aav];omega);obtain⟨r11b,sn11b,_⟩:=ga'.By;cases hy:decide ((lA ls (nx ls e)).id∈pF ls (es.take j)++[(lA ls e).id]) with
       |true=>
        rw[hy] at Xq;have hI:pF ls (es.take (j+1))=pF ls (es.take j)++[(lA ls e).id]:=by rw[hIe,hIx,kO,if_pos (of_decide_eq_true hy)]
        simp only[go_sem,h4,h9,UT,y0,y9,y15,sn11b,s57,aa Xq,w1,Ti];exact⟨ab7,d10,c11b,d12,6208832256,rfl,rfl,rfl, .inl rfl,by rw[hMe];exact agi,by rw[hI];exact ga',by rw[hVe];exact agh⟩
       |false=>
        rw[hy] at Xq;have hI:iP (pF ls (es.take (j+1)))=iP (pF ls (es.take j)++[(lA ls e).id])++[[.int .i64 (lA ls (nx ls e)).id]]:=by rw[hIe,hIx,kO,if_neg (of_decide_eq_false hy)];simp
        simp only[go_sem,y15,sn11b,s57,aa Xq];refine gk (xs:=[[.int .i64 (lA ls (nx ls e)).id]]) (ga'.of_eq (aj (by decide))) (by simp only[bh,af,if_true];rfl) (.inl rfl) (by have:=oy (ls:=ls) (es.take j);simp only[fO,aay,aar,aav];omega) fun e11 ajf ge hb9=> ?_
        have z0:=hb9 6208000000 (by decide) (by decide);have z9:=hb9 6208064192 (by decide) (by decide);simp only[go_sem,y0,y9] at z0 z9;have aey:=agi.of_eq ((hb9 6208640768 (by decide) (by decide)).trans (aj (by decide)));have aex:=agh.of_eq ((hb9 6208704512 (by decide) (by decide)).trans (aj (by decide)));simp only[go_sem,h4,h9,UT,z0,z9,w1,Ti];exact⟨ab7,d10,e11,d12,6208960256,rfl,rfl,rfl, .inr rfl,by rw[hMe];exact aey,by rw[hI];exact ge,by rw[hVe];exact aex⟩
  ·have:j=3:=by omega
   subst this;have ht:es.take 3=es:=by rw[<- hE];rfl
   rw[ht] at g10 g11 g12;have Ty:(List.range es.length).all (JI ls es)=true:=by
    rw[aaJ];intro i hi;exact Tj i (by have:=aaE.1 hi;omega)
   have hBv:MY F ls es=((((pF ls es).length:Int)==3)&&(decide ((2:Int)∈xL ls es)&&(decide ((0:Int)∈xL ls es)&&jZ F ls 0 es))):=by
    unfold MY;rw[Ty,mj];rfl
   rw[hBv];have h33: ¬ (((3:Nat):Int)<3):=by decide
   have Xq:=yH (xL ls es) 2 (by simp[xL];omega);have ph0:=yH (xL ls es) 0 (by simp[xL];omega);obtain⟨r12,abS,_⟩:=g12.By;have h3e:3<=es.length:=by omega
   have ht3:List.take 3 (nP es)=nP es:=aau (by rw[vB];omega);rcases g11 with ⟨e11,q⟩|⟨_,gg,q,bb⟩
   ·cases q
    have e0:pF ls es=[]:=by simpa using e11
    rw[e0];simp only[go_sem,i97_l1,i97_r2,Ui,UT,h33,show((((0:Nat):Int))==3)=false from rfl];try rfl
   cases q
   cases q1:(((pF ls es).length:Int)==3) with
   |false=>
    simp only[go_sem,i97_l1,i97_r2,Ui,UT,h33,fO,q1];try rfl
   |true=>
    cases q2:decide ((2:Int)∈xL ls es) with
    |false=>
     rw[q2] at Xq;simp only[go_sem,i97_l1,i97_r2,Ui,U4,UT,h33,fO,abS,q1,s57,aa Xq];try rfl
    |true=>
     rw[q2] at Xq;cases q3:decide ((0:Int)∈xL ls es) with
     |false=>
      rw[q3] at ph0;simp only[go_sem,i97_l1,i97_r2,Ui,U4,UT,h33,fO,abS,q1,s57,aa Xq,aa ph0];try rfl
     |true=>
      rw[q3] at ph0;simp only[go_sem,i97_l1,i97_r2,h4,h9,Ui,U4,UT,b0,b9,h33,fO,abS,ht3,h3e,q1,s57,aa Xq,aa ph0,s129,aa po];try rfl
end
end Go.Abs
