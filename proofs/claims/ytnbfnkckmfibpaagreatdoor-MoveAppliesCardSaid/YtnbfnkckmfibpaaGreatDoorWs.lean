/-
  Two more kinds of moves.
-/
import Derived.Test.YtnbfnkckmfibpaaGreatDoorWq
set_option linter.unusedSimpArgs false
set_option linter.unusedVariables false
set_option linter.unusedSectionVars false
set_option maxRecDepth 100000
set_option maxHeartbeats 16000000
namespace Go.Abs
section
variable{F:Nat}{ls:List ae}
def sy(l:List Pc)(drop:Nat->Pc->Bool)(i:Nat):Option Pc:=match l[i]? with|some p=>if drop i p then none else some p|none=>none
def nC(l:List Pc)(drop:Nat->Pc->Bool)(k:Nat):List Pc:=(List.range k).filterMap (sy l drop)
def iB(l:List Pc)(drop:Nat->Pc->Bool):List Pc:=nC l drop l.length
theorem vK{l:List Pc}{drop:Nat->Pc->Bool}{k:Nat}{p:Pc}(h:l[k]? =some p)(hd:drop k p=true):nC l drop (k+1)=nC l drop k:=by
 simp[nC,abE,List.filterMap_append,sy,h,hd]
theorem vJ{l:List Pc}{drop:Nat->Pc->Bool}{k:Nat}{p:Pc}(h:l[k]? =some p)(hd:drop k p=false):nC l drop (k+1)=nC l drop k++[p]:=by
 simp[nC,abE,List.filterMap_append,sy,h,hd]
theorem jR(l:List Pc)(drop:Nat->Pc->Bool)(k:Nat):(nC l drop k).length<=k:=by
 have:=List.length_filterMap_le (sy l drop) (List.range k);rwa[List.length_range] at this
theorem mE(g:bj F ls){e:Nat}(he:e<ls.length):aH S 112 [.one (.p (ew F ls)),vi e] (vc (.int .i64 e) (.int .i64 ((e+1)%ls.length:Nat))):=by
 have hlen:=g.len;have TD:=aF ls;have w1:=am (n:=e) (by omega);have e1:=dq (e+1) ls.length;have hz: ¬ ((ls.length:Int)=0):=by omega
 refine aG c112 ?_;simp only[go_sem,i112,w1,e1,TD,hz];exact⟨au,rfl⟩
theorem uF(l:List Pc)(hl:l.length<=1000000){f:Nat}{x y:PV}(hn:x.norm=x/\y.norm=y)(T4:S.Tf f=false)(drop:Nat->Pc->Bool)(hd: ∀ (k:Nat) (p:Pc),l[k]? =some p->aH S f [vi k, .agg (p.ps.map .p), .one (.p x), .one (.p y)] (rb (drop k p))):
  aH S 113 [.one (.p (.sl (dz l))), .one (.p (.fn f [] [x,y]))] (.one (aq fK 7 (dz (iB l drop)))):=by
 obtain⟨UY,UH⟩:=hn;refine aG c113 ?_;simp only[go_sem,i113];refine be (fun k env Tc=>env 1= .one (.p (.fn f [] [x,y]))/\env 8= .one (.p (.sl (dz l)))/\env 9=vi l.length/\env 10=vi k/\ ∃ c,env 5= .one c/\grown 7232384192 fK 7 (dz (nC l drop k)) (.one c) Tc) 0 l.length (aah _) ?_ ?_
 ·simp only[go_sem];first|exact⟨rfl,_,rfl, .inl ⟨rfl,rfl⟩⟩|exact⟨_,rfl, .inl ⟨rfl,rfl⟩⟩|exact⟨rfl,rfl,_,rfl, .inl ⟨rfl,rfl⟩⟩
 ·rintro k env Tc hk ⟨h1,h8,h9,TJ,c,h5,gc⟩
  by_cases Ti:k<l.length
  ·have Tk:((k:Int)<(l.length:Int)):=by omega
   obtain⟨p,hp⟩:=ao Ti;have T1:=bR hp;have w1:=am (n:=k) (by omega);have pd:=hd k p hp;have T7:=jR l drop k;simp only[Pc.ps,aas,aaG] at pd;cases hb:drop k p with
   |true=>
    rw[hb] at pd;have hs:=vK hp hb;simp only[go_sem,i113_l1,h1,h5,h8,h9,TJ,Ti,Tk,T1,Pc.ps,UY,UH,T4,aa pd,w1];refine⟨c,rfl,?_⟩;rw[hs];exact gc.of_eq (by simp only[af,Nat.reduceEqDiff,if_false])
   |false=>
    rw[hb] at pd;have hs:=vJ hp hb;simp only[go_sem,i113_l1,h1,h5,h8,h9,TJ,Tk,T1,Pc.ps,UY,UH,T4,aa pd];refine gk (site:=7232384192) (id:=7232384192) (bytes:=56) (xs:=[p.ps]) (rd:=[7232384128]) (gc.of_eq (by simp only[af,Nat.reduceEqDiff,if_false])) (by simp[bh,af,Pc.ps]) (.inl rfl) (by simp only[aak,aar,aav];omega) fun c' Tq hc hbk=> ?_
    simp only[go_sem,h1,h8,h9,TJ,Ti,w1];refine⟨c',rfl,?_⟩;rw[hs,ui];exact hc
  ·have:k=l.length:=by omega
   subst this;simp only[go_sem,i113_l1,i113_r2,h5,h9,TJ,aN];exact iV gc
theorem DS(l:List Pc)(hl:l.length<=1000000){f:Nat}{x:PV}(hn:x.norm=x)(T4:S.Tf f=false)(drop:Nat->Pc->Bool)(hd: ∀ (k:Nat) (p:Pc),l[k]? =some p->aH S f [vi k, .agg (p.ps.map .p), .one (.p x)] (rb (drop k p))):
  aH S 113 [.one (.p (.sl (dz l))), .one (.p (.fn f [] [x]))] (.one (aq fK 7 (dz (iB l drop)))):=by
 have UY:=hn;refine aG c113 ?_;simp only[go_sem,i113];refine be (fun k env Tc=>env 1= .one (.p (.fn f [] [x]))/\env 8= .one (.p (.sl (dz l)))/\env 9=vi l.length/\env 10=vi k/\ ∃ c,env 5= .one c/\grown 7232384192 fK 7 (dz (nC l drop k)) (.one c) Tc) 0 l.length (aah _) ?_ ?_
 ·simp only[go_sem];first|exact⟨rfl,_,rfl, .inl ⟨rfl,rfl⟩⟩|exact⟨_,rfl, .inl ⟨rfl,rfl⟩⟩|exact⟨rfl,rfl,_,rfl, .inl ⟨rfl,rfl⟩⟩
 ·rintro k env Tc hk ⟨h1,h8,h9,TJ,c,h5,gc⟩
  by_cases Ti:k<l.length
  ·have Tk:((k:Int)<(l.length:Int)):=by omega
   obtain⟨p,hp⟩:=ao Ti;have T1:=bR hp;have w1:=am (n:=k) (by omega);have pd:=hd k p hp;have T7:=jR l drop k;simp only[Pc.ps,aas,aaG] at pd;cases hb:drop k p with
   |true=>
    rw[hb] at pd;have hs:=vK hp hb;simp only[go_sem,i113_l1,h1,h5,h8,h9,TJ,Ti,Tk,T1,Pc.ps,UY,T4,aa pd,w1];refine⟨c,rfl,?_⟩;rw[hs];exact gc.of_eq (by simp only[af,Nat.reduceEqDiff,if_false])
   |false=>
    rw[hb] at pd;have hs:=vJ hp hb;simp only[go_sem,i113_l1,h1,h5,h8,h9,TJ,Tk,T1,Pc.ps,UY,T4,aa pd];refine gk (site:=7232384192) (id:=7232384192) (bytes:=56) (xs:=[p.ps]) (rd:=[7232384128]) (gc.of_eq (by simp only[af,Nat.reduceEqDiff,if_false])) (by simp[bh,af,Pc.ps]) (.inl rfl) (by simp only[aak,aar,aav];omega) fun c' Tq hc hbk=> ?_
    simp only[go_sem,h1,h8,h9,TJ,Ti,w1];refine⟨c',rfl,?_⟩;rw[hs,ui];exact hc
  ·have:k=l.length:=by omega
   subst this;simp only[go_sem,i113_l1,i113_r2,h5,h9,TJ,aN];exact iV gc
theorem GS(k i j:Nat)(p:Pc):aH S 114 [vi k, .agg (p.ps.map .p), .one (.p (.box [.int .i64 i])), .one (.p (.box [.int .i64 j]))] (rb (decide (k=i)||decide (k=j))):=by
 refine aG c114 ?_;by_cases h1:k=i
 ·have e1:((k:Int)==(i:Int))=true:=by simp[h1]
  rw[show(decide (k=i)||decide (k=j))=true by simp[h1]];simp only[go_sem,i114,Pc.ps,e1]
 ·have e1:((k:Int)==(i:Int))=false:=by simp;omega
  by_cases h2:k=j
  ·have e2:((k:Int)==(j:Int))=true:=by simp[h2]
   rw[show(decide (k=i)||decide (k=j))=true by simp[h2]];simp only[go_sem,i114,Pc.ps,e1,e2]
  ·have e2:((k:Int)==(j:Int))=false:=by simp;omega
   rw[show(decide (k=i)||decide (k=j))=false by simp[h1,h2]];simp only[go_sem,i114,Pc.ps,e1,e2]
def DM(a b:Int):Int:=if a<b then b else a
def KJ(a b:Int):Int:=if b<a then b else a
def RW(ls:List ae)(av:Nat):Option (List Pc):=
 let p:=(pieces ls).getD av ⟨hH,false⟩
 let q:=(pieces ls).getD ((av+1)%ls.length) ⟨hH,false⟩
 if (p.l.kind==1)&&((q.l.kind==1)&&((p.l.gate==q.l.gate)&&((DM p.l.Th q.l.Th - KJ p.l.Th q.l.Th==1)&& !(decide (aD ae.bq ls<=2)&&decide (0<aD ae.aJ ls/2)))))
 then some (aU (iB (pieces ls) fun k _=>decide (k=av)||decide (k=(av+1)%ls.length)) p.l.gate (DM p.l.Th q.l.Th) (-2)) else none
theorem sv{l:List Pc}{drop:Nat->Pc->Bool}{p:Pc}(h:p∈iB l drop):p∈l:=by
 obtain⟨i,_,hi⟩:=List.mem_filterMap.1 h;unfold sy at hi;cases hl:l[i]? with
 |none=>rw[hl] at hi;cases hi
 |some q=>
  rw[hl] at hi;simp only at hi;split at hi
  ·cases hi
  ·cases hi;exact aaf hl
theorem IZ(g:bj F ls){av:Nat}(ha:av<ls.length){k b c:Int}{l o:Bool}{sg:Int}:
  aH S 75 [.one (.p (ew F ls)),dL k av b c l o sg] (kR (RW ls av)):=by
 have hlen:=g.len;have TD:=aF ls;have pe:=mE g ha;have hm:=aax (av+1) (show 0<ls.length by omega);have VU:=gK g;obtain⟨p,hp⟩:=ao (ls:=pieces ls) (k:=av) (by omega);obtain⟨q,hq⟩:=ao (ls:=pieces ls) (k:=(av+1)%ls.length) (by omega);obtain⟨p1,p2⟩:=VU p (aaf hp);obtain⟨q1,q2⟩:=VU q (aaf hq);have Ut:=bR hp;have Wj:=bR hq;have T4:S.Tf 115=true:=by kernel_rfl
 have lo:S.lone 4800320320=false:=by kernel_rfl
 have UD:=g.cr;unfold RW;simp only[aap,hp,hq,aaS];refine aG c75 ?_;cases c1:(p.l.kind==1) with
 |false=>
  have n1:(p.l.kind !=1)=true:=by simp[bne,c1]
  simp only[go_sem,i75,s112,ai pe ak,Ut,Wj,Pc.ps,n1];exact⟨au,rfl⟩
 |true=>
 have n1:(p.l.kind !=1)=false:=by simp[bne,c1]
 cases c2:(q.l.kind==1) with
 |false=>
  have n2:(q.l.kind !=1)=true:=by simp[bne,c2]
  simp only[go_sem,i75,s112,ai pe ak,Ut,Wj,Pc.ps,n1,n2];exact⟨au,rfl⟩
 |true=>
 have n2:(q.l.kind !=1)=false:=by simp[bne,c2]
 cases c3:(p.l.gate==q.l.gate) with
 |false=>
  have n3:(p.l.gate !=q.l.gate)=true:=by simp[bne,c3]
  simp only[go_sem,i75,s112,ai pe ak,Ut,Wj,Pc.ps,n1,n2,n3];exact⟨au,rfl⟩
 |true=>
 have n3:(p.l.gate !=q.l.gate)=false:=by simp[bne,c3]
 have YE:(if q.l.Th>p.l.Th then q.l.Th else p.l.Th)=DM p.l.Th q.l.Th:=rfl;have hmn:(if q.l.Th<p.l.Th then q.l.Th else p.l.Th)=KJ p.l.Th q.l.Th:=rfl;have hmxb: -1000000<=DM p.l.Th q.l.Th/\DM p.l.Th q.l.Th<=1000000:=by unfold DM;split<;>omega
 have hmnb: -1000000<=KJ p.l.Th q.l.Th/\KJ p.l.Th q.l.Th<=1000000:=by unfold KJ;split<;>omega
 have wd:=dd (x:=DM p.l.Th q.l.Th - KJ p.l.Th q.l.Th) (by omega) (by omega);generalize DM p.l.Th q.l.Th=mx at*;generalize KJ p.l.Th q.l.Th=mn at*;cases c4:(mx - mn==1) with
 |false=>
  have n4:(mx - mn !=1)=true:=by simp[bne,c4]
  simp only[go_sem,i75,s112,ai pe ak,Ut,Wj,Pc.ps,n1,n2,n3,YE,hmn,wd,n4];exact⟨au,rfl⟩
 |true=>
 have n4:(mx - mn !=1)=false:=by simp[bne,c4]
 have good: ∀ (X:Prop),X->X:=fun _ h=>h
 by_cases c5:aD ae.bq ls<=2
 ·have n5:((aD ae.bq ls:Int)<=2):=by omega
  by_cases c6:0<aD ae.aJ ls/2
  ·have n6:((0:Int)<((aD ae.aJ ls/2:Nat):Int)):=by omega
   rw[decide_eq_true c5,decide_eq_true c6];simp only[go_sem,i75,s112,ai pe ak,Ut,Wj,Pc.ps,n1,n2,n3,YE,hmn,wd,n4,n5,n6];exact⟨au,rfl⟩
  ·have n6: ¬ ((0:Int)<((aD ae.aJ ls/2:Nat):Int)):=by omega
   rw[decide_eq_true c5,decide_eq_false c6];simp only[go_sem,i75,s112,ai pe ak,Ut,Wj,Pc.ps,n1,n2,n3,YE,hmn,wd,n4,n5,n6,s113];refine⟨au,?_⟩;refine fQ (uF (pieces ls) (by omega) ⟨rfl,rfl⟩ s114 (fun k _=>decide (k=av)||decide (k=(av+1)%ls.length)) (fun k p _=>GS k av ((av+1)%ls.length) p)) lo (.inr (ap (cJ _))) fun cc Tq gc hb=> ?_
   have b8:=hb 4800128896 (by decide);have b9:=hb 4800128960 (by decide);simp only[go_sem] at b8 b9;simp only[go_sem,b8,b9,YE,T4];refine lL (l:=iB (pieces ls) fun k _=>decide (k=av)||decide (k=(av+1)%ls.length)) (aa5 (jR _ _ _) (by omega)) (by decide) (fun x hx=>VU x (sv hx)) gc fun Tp YM Tv=> ?_
   simp only[go_sem];exact aR YM
 ·have n5: ¬ ((aD ae.bq ls:Int)<=2):=by omega
  rw[decide_eq_false c5];simp only[go_sem,i75,s112,ai pe ak,Ut,Wj,Pc.ps,n1,n2,n3,YE,hmn,wd,n4,n5,s113];refine⟨au,?_⟩;refine fQ (uF (pieces ls) (by omega) ⟨rfl,rfl⟩ s114 (fun k _=>decide (k=av)||decide (k=(av+1)%ls.length)) (fun k p _=>GS k av ((av+1)%ls.length) p)) lo (.inr (ap (cJ _))) fun cc Tq gc hb=> ?_
  have b8:=hb 4800128896 (by decide);have b9:=hb 4800128960 (by decide);simp only[go_sem] at b8 b9;simp only[go_sem,b8,b9,YE,T4];refine lL (l:=iB (pieces ls) fun k _=>decide (k=av)||decide (k=(av+1)%ls.length)) (aa5 (jR _ _ _) (by omega)) (by decide) (fun x hx=>VU x (sv hx)) gc fun Tp YM Tv=> ?_
  simp only[go_sem];exact aR YM
abbrev iP(o:List Int):List (List PV):=o.map fun n=>[PV.int .i64 n]
theorem nH{o:List Int}{k:Nat}{v:Int}(h:o[k]? =some v):(iP o)[k]? =some [.int .i64 v]:=by simp[h]
def Lf(o:List Int)(x:Int)(i:Nat):Bool:=match o[i]? with|some y=>y==x|none=>false
theorem Ld(o:List Int)(x:Int)(hl:o.length<=1000000):aH S 160 [.one (.p (.sl (iP o))),vi x] (ri (match (List.range o.length).find? (Lf o x) with|some k=>(k:Int)|none=> -1)):=by
 refine aG c160 ?_;simp only[go_sem,i160];refine be (fun k env Tc=>env 0= .one (.p (.sl (iP o)))/\env 1=vi x/\env 7=vi o.length/\env 8=vi k/\ ∀ j,j<k->Lf o x j=false) 0 o.length (aah _) ?_ ?_
 ·simp only[go_sem];exact⟨rfl,fun j hj=>absurd hj (abl j)⟩
 ·rintro k env Tc hk ⟨h0,h1,h7,h8,hn⟩
  by_cases Ti:k<o.length
  ·have Tk:((k:Int)<(o.length:Int)):=by omega
   obtain⟨y,hy⟩:=ao Ti;have T1:=nH hy;have w1:=am (n:=k) (by omega);have XI:Lf o x k=(y==x):=by simp[Lf,hy]
   cases hb:(y==x) with
   |true=>
    have YJ:(x==y)=true:=by have:=beq_iff_eq.1 hb;simp[this]
    rw[hb] at XI;have hf:=fh (p:=Lf o x) Ti hn XI;simp only[go_sem,i160_l1,h0,h1,h7,h8,Tk,T1,YJ,hf];first|done|exact au|rfl
   |false=>
    have YJ:(x==y)=false:=by
     have: ¬ y=x:=by simpa using hb
     simp;exact fun h=>this h.symm
    rw[hb] at XI;have hn': ∀ j,j<k+1->Lf o x j=false:=fun j hj=>by
     rcases aaW.1 hj with h|rfl
     ·exact hn j h
     ·exact XI
    simp only[go_sem,i160_l1,h0,h1,h7,h8,Ti,Tk,T1,YJ,w1];first|exact hn'|exact⟨au,hn'⟩
  ·have:k=o.length:=by omega
   subst this;have hf:=eD (p:=Lf o x) hn;simp only[go_sem,i160_l1,i160_r2,h7,h8,aN,hf]
theorem Dg(o:List Int)(x:Int)(hl:o.length<=1000000):aH S 149 [.one (.p (.sl (iP o))),vi x] (rb (o.contains x)):=by
 have pi:=Ld o x hl;refine aG c149 ?_;cases hm:o.contains x with
 |true=>
  have hm':x∈o:=by simpa using hm
  obtain⟨k,hk⟩:=aaC hm';have T7:=(aag.1 hk).1;cases hf:(List.range o.length).find? (Lf o x) with
  |none=>
   have:=adr.1 hf k (aaE.2 T7);simp[Lf,hk] at this
  |some j=>
   rw[hf] at pi;have Va:(0:Int)<=(j:Int):=by omega
   simp only[go_sem,i149,s160,aS pi,Va]
 |false=>
  have hm':x∉o:=by simpa using hm
  cases hf:(List.range o.length).find? (Lf o x) with
  |some j=>
   have h1:=List.find?_some hf;unfold Lf at h1;cases ho:o[j]? with
   |none=>rw[ho] at h1;cases h1
   |some y=>
    rw[ho] at h1;have:y=x:=by simpa using h1
    subst this;exact absurd (aaf ho) hm'
  |none=>
   rw[hf] at pi;have Va: ¬ (0:Int)<= -1:=by decide
   simp only[go_sem,i149,s160,aS pi,Va]
def kx(ids:List Int)(_:Nat)(p:Pc):Bool:=(p.l.kind==2)&&ids.contains p.l.id
theorem Oz(ids:List Int)(hl:ids.length<=1000000)(k:Nat)(p:Pc):aH S 148 [vi k, .agg (p.ps.map .p), .one (.p (.box [.sl (iP ids)]))] (rb (kx ids k p)):=by
 have pc:=Dg ids p.l.id hl;refine aG c148 ?_;unfold kx;cases h:(p.l.kind==2) with
 |true=>simp only[go_sem,i148,Pc.ps,h,s149,aa pc]
 |false=>simp only[go_sem,i148,Pc.ps,h]
def gx(ids:List Int)(k:Nat)(p:Pc):Pc:={p with l:={p.l with id:=p.l.id - ((ids.take k).countP (fun i=>decide (i<p.l.id)):Nat)}}
def oY(ids:List Int)(p:Pc):Pc:=if p.l.kind==2 then gx ids ids.length p else p
abbrev tI(l:List Pc)(ids:List Int):List Pc:=(iB l (kx ids)).map (oY ids)
abbrev oZ(ids:List Int)(l:List Pc)(k:Nat):List Pc:=(l.take k).map (oY ids)++l.drop k
theorem Gw{ids:List Int}{l:List Pc}{k:Nat}{p:Pc}(h:l[k]? =some p):(oZ ids l k)[k]? =some p:=by
 have hk:=(aag.1 h).1;rw[oZ,acn (by rw[aak,aaB];omega),aak,aaB,ab8 (by omega),Nat.sub_self,act];exact h
theorem KS(ids:List Int)(l:List Pc)(k:Nat):(oZ ids l k).length=l.length:=by
 rw[oZ,aay,aak,aaB,abY];omega
theorem KR{ids:List Int}{l:List Pc}{k:Nat}{p:Pc}(h:l[k]? =some p):(oZ ids l k).set k (oY ids p)=oZ ids l (k+1):=by
 have hk:=(aag.1 h).1;have hdr:l.drop k=p::l.drop (k+1):=by
  obtain⟨hh,rfl⟩:=aag.1 h;exact adF hh
 have e1:((l.take k).map (oY ids)).length=k:=by rw[aak,aaB];omega
 rw[oZ,List.set_append_right _ _ (by omega),e1,Nat.sub_self,hdr,List.set_cons_zero,oZ,aaX,h];simp
theorem iz(o:List Pc)(k:Nat)(p:Pc):(dz o).set k p.ps=dz (o.set k p):=by simp[abU]
theorem yW(l:List Pc)(ids:List Int)(hl:l.length<=1000000)(hi:ids.length<=1000)(hb: ∀ p∈l,-1000000<=p.l.id/\p.l.id<=1000000):
  aH S 121 [.one (.p (.sl (dz l))), .one (.p (.sl (iP ids)))] (.one (aq fK 7 (dz (tI l ids)))):=by
 have pw:=DS l hl (f:=148) (x:= .box [.sl (iP ids)]) rfl s148 (kx ids) (fun k p _=>Oz ids (by omega) k p);have lo:S.lone 7744064128=false:=by kernel_rfl
 have VA: ∀ p∈iB l (kx ids),-1000000<=p.l.id/\p.l.id<=1000000:=fun p hp=>hb p (sv hp)
 have T7:(iB l (kx ids)).length<=1000000:=aa5 (jR _ _ _) hl;refine aG c121 ?_;simp only[go_sem,i121,s113];refine fQ pw lo (.inr (ap (cJ _))) fun cc Ue gc UF=> ?_
 have z3:=UF 7744000000 (by decide);simp only[go_sem] at z3;unfold tI;generalize iB l (kx ids)=m at gc VA T7;rcases gc with ⟨e,e2⟩|⟨TA,gg,e2,hC⟩
 ·cases e2
  have:m=[]:=by simpa using e
  subst this;have hz: ¬ (((0:Nat):Int)<((0:Nat):Int)):=by omega
  simp only[go_sem];refine be (fun k env Tc=>k=0/\env 5= .one (.p .nils)/\env 14=vi ((0:Nat):Int)/\env 15=vi ((0:Nat):Int)) 0 0 (aal _) ?_ ?_
  ·simp only[go_sem];exact rfl
  ·rintro k env Tc _ ⟨rfl,h5,Wp,Ww⟩
   simp only[go_sem,i121_l3,i121_r4,h5,Wp,Ww,hz];rfl
 ·cases e2
  simp only[go_sem];refine be (fun k env Tc=>env 3= .one (.Tn 7744000000 1 0)/\Tc 7744000000=(1,some (.var [.p (.sl (iP ids))]))/\env 5= .one (.hsl 7744064128 gg 7 0 m.length)/\env 13= .one (.hsl 7744064128 gg 7 0 m.length)/\env 14=vi m.length/\env 15=vi k/\Tc 7744064128=(gg,some (.arr fK 7 (dz (oZ ids m k))))) 0 m.length (aah _) ?_ ?_
  ·simp only[go_sem,z3,hC];refine⟨rfl,?_⟩;simp[oZ]
  ·rintro k env Tc hk ⟨h3,bI,h5,UT,Wp,Ww,bO⟩
   by_cases Ti:k<m.length
   ·have Tk:((k:Int)<(m.length:Int)):=by omega
    obtain⟨p,hp⟩:=ao Ti;have hpa:=bR (Gw (ids:=ids) hp);have w1:=am (n:=k) (by omega);have hmk:=KS ids m k;have T5:=KR (ids:=ids) hp;have hlk:k<(oZ ids m k).length:=by omega
    cases c1:(p.l.kind==2) with
    |false=>
     have n1:(p.l.kind !=2)=true:=by simp[bne,c1]
     have Vt:oZ ids m (k+1)=oZ ids m k:=by
      rw[<- T5];have e:oY ids p=p:=by unfold oY;rw[c1];rfl
      rw[e];obtain⟨hh,he⟩:=aag.1 (Gw (ids:=ids) hp);rw[<- he,List.set_getElem_self]
     simp only[go_sem,i121_l3,i121_r2,h3,bI,h5,UT,Wp,Ww,bO,Ti,Tk,hpa,Pc.ps,n1,w1,Vt]
    |true=>
     have n1:(p.l.kind !=2)=false:=by simp[bne,c1]
     have Ts:=VA p (aaf hp);have U1:oY ids p=gx ids ids.length p:=by unfold oY;rw[c1];rfl
     rw[U1] at T5;generalize oZ ids m k=q at hpa hmk T5 hlk bO;have q0:q.set k (gx ids 0 p)=q:=by
      have:gx ids 0 p=p:=by unfold gx;simp
      rw[this];have h1:q[k]? =some p:=by
       have h2:(dz q)[k]? =some p.ps:=hpa;rw[aaA] at h2;cases hq:q[k]? with
       |none=>rw[hq] at h2;cases h2
       |some x=>
        rw[hq] at h2;simp[Pc.ps] at h2;obtain⟨⟨a,b,c,d,e,f⟩,g⟩:=x;obtain⟨⟨a',b',c',d',e',f'⟩,g'⟩:=p;simp at h2;obtain⟨rfl,rfl,rfl,rfl,rfl,rfl,rfl⟩:=h2;rfl
      obtain⟨hh,he⟩:=aag.1 h1;rw[<- he,List.set_getElem_self]
     simp only[go_sem,i121_l3,h3,bI,UT,Wp,Ww,bO,Ti,Tk,hpa,Pc.ps,n1];refine be (fun j Tz Tp=>Tz 3= .one (.Tn 7744000000 1 0)/\Tp 7744000000=(1,some (.var [.p (.sl (iP ids))]))/\Tz 5= .one (.hsl 7744064128 gg 7 0 m.length)/\Tz 13= .one (.hsl 7744064128 gg 7 0 m.length)/\Tz 14=vi m.length/\Tz 15=vi k/\Tz 6=vi k/\Tz 24= .one (.p (.sl (iP ids)))/\Tz 25=vi ids.length/\Tz 26=vi j/\
      (∃ g7,Tz 7= .one (.Tn 7744256192 g7 0)/\Tp 7744256192=(g7,some (.var (p.ps.map .p))))/\Tp 7744064128=(gg,some (.arr fK 7 (dz (q.set k (gx ids j p)))))) 0 ids.length (aah _) ?_ ?_
     ·simp only[go_sem,h3,bI,h5,UT,Wp,Ww,bO,q0];first|exact⟨rfl,_,⟨rfl,rfl⟩,rfl⟩|exact⟨rfl,⟨_,rfl,rfl⟩⟩|exact⟨_,rfl,rfl⟩|exact⟨⟨_,rfl,rfl⟩,rfl⟩|exact⟨rfl,⟨_,rfl,rfl⟩,rfl⟩|trace_state
     ·rintro j Tz Tp hj ⟨p3,cI,p5,p13,p14,p15,p6,p24,p25,p26,⟨g7,p7,c7⟩,cO⟩
      by_cases hlj:j<ids.length
      ·have acd:((j:Int)<(ids.length:Int)):=by omega
       obtain⟨d,hd⟩:=ao hlj;have hdp:=nH hd;have w2:=am (n:=j) (by omega);have YI:(ids.take (j+1)).countP (fun i=>decide (i<p.l.id))=(ids.take j).countP (fun i=>decide (i<p.l.id))+if d<p.l.id then 1 else 0:=by
        rw[aaX,hd,List.countP_append];simp[abV,List.countP_nil]
       have Uk:(ids.take j).countP (fun i=>decide (i<p.l.id))<=j:=aa5 List.countP_le_length (by rw[aaB];omega);have hqa:(dz (q.set k (gx ids j p)))[k]? =some (gx ids j p).ps:=bR (by rw[aa3,if_pos rfl,if_pos (by omega)]);have hql:k<(q.set k (gx ids j p)).length:=by rw[aaD];omega
       by_cases hg:d<p.l.id
       ·have e1:(gx ids j p).l.id - 1=(gx ids (j+1) p).l.id:=by
         unfold gx;simp only;rw[YI,if_pos hg];omega
        have w3:IntKind.i64.wrap ((gx ids j p).l.id - 1)=(gx ids (j+1) p).l.id:=by
         rw[<- e1];exact dd (by unfold gx;simp only;omega) (by unfold gx;simp only;omega)
        have TT:((gx ids (j+1) p).ps)=[.int .i64 (gx ids j p).l.kind, .int .i64 (gx ids j p).l.gate, .int .i64 (gx ids j p).l.Th, .int .i64 (gx ids (j+1) p).l.id, .int .i64 (gx ids j p).l.sign, .bool (gx ids j p).l.over, .bool (gx ids j p).d]:=rfl;have adk:(dz (q.set k (gx ids j p))).set k (gx ids (j+1) p).ps=dz (q.set k (gx ids (j+1) p)):=by rw[iz,List.set_set]
        rw[TT] at adk;generalize gx ids j p=x at*;simp only[go_sem,i121_l1,p3,cI,p5,p13,p14,p15,p6,p24,p25,p26,p7,c7,cO,Ti,hlj,acd,hdp,hg,hqa,Pc.ps,w2,w3,adk];exact⟨g7,rfl,rfl⟩
       ·have e1:gx ids (j+1) p=gx ids j p:=by unfold gx;rw[YI,if_neg hg];simp
        simp only[go_sem,i121_l1,p3,cI,p5,p13,p14,p15,p6,p24,p25,p26,p7,c7,cO,hlj,acd,hdp,hg,Pc.ps,w2,e1];exact⟨g7,rfl,rfl⟩
      ·have:j=ids.length:=by omega
       subst this;rw[T5] at cO;simp only[go_sem,i121_l1,i121_r2,p3,cI,p5,p13,p14,p15,p26,p25,cO,aN,w1,Ti]
   ·have:k=m.length:=by omega
    subst this;have e1:oZ ids m m.length=m.map (oY ids):=by rw[oZ,aa7,List.drop_length,abO]
    rw[e1] at bO;simp only[go_sem,i121_l3,i121_r4,h5,Wp,Ww,aN];have YW:m.map (oY ids)≠[]:=by simpa using TA
    exact iV (.inr ⟨by simpa using YW,gg,by simp,bO⟩)
theorem bj.ids(g:bj F ls):PL ls/\qO ls:=by
 have hc:=g.ok.cr;unfold ed at hc;simp only[aan] at hc;exact Bb.1 fun k hk=>aaJ.1 hc.1.2 k (aaE.2 hk)
theorem vq{p:Pc}(h:p∈pieces ls): ∃ (i:Nat) (l:ae),ls[i]? =some l/\p=⟨l,DO ls i⟩:=by
 obtain⟨i,hi⟩:=aaC h;have Vj:i<ls.length:=by rw[<- aF];exact(aag.1 hi).1
 obtain⟨l,hl⟩:=ao Vj;rw[eB hl] at hi;cases hi
 exact⟨i,l,hl,rfl⟩
theorem vN(g:bj F ls): ∀ p∈pieces ls,-1000000<=p.l.id/\p.l.id<=1000000:=by
 intro p hp;obtain⟨i,l,hl,rfl⟩:=vq hp;have hm:=aaf hl;rcases g.ok.kinds l hm with h|h
 ·have:=(jk (f:=(F:Int)) h).1 (g.bad l hm);simp only[this.1.1.2];omega
 ·have h1:=g.ids.1 l hm h;have:=g.cr;simp only;omega
def QS(ls:List ae)(av:Nat):Option (List Pc):=
 let p:=(pieces ls).getD av ⟨hH,false⟩
 let q:=(pieces ls).getD ((av+1)%ls.length) ⟨hH,false⟩
 if (p.l.kind==2)&&((q.l.kind==2)&&(p.l.id==q.l.id)) then some (tI (pieces ls) [p.l.id]) else none
theorem Ii(g:bj F ls){av:Nat}(ha:av<ls.length){k b c:Int}{l o:Bool}{sg:Int}:
  aH S 78 [.one (.p (ew F ls)),dL k av b c l o sg] (kR (QS ls av)):=by
 have hlen:=g.len;have TD:=aF ls;have pe:=mE g ha;have hm:=aax (av+1) (show 0<ls.length by omega);obtain⟨p,hp⟩:=ao (ls:=pieces ls) (k:=av) (by omega);obtain⟨q,hq⟩:=ao (ls:=pieces ls) (k:=(av+1)%ls.length) (by omega);have Ut:=bR hp;have Wj:=bR hq;have lo:S.lone 4992256896=false:=by kernel_rfl
 unfold QS;simp only[aap,hp,hq,aaS];refine aG c78 ?_;cases c1:(p.l.kind==2) with
 |false=>
  have n1:(p.l.kind !=2)=true:=by simp[bne,c1]
  simp only[go_sem,i78,s112,ai pe ak,Ut,Pc.ps,n1];exact⟨au,rfl⟩
 |true=>
 have n1:(p.l.kind !=2)=false:=by simp[bne,c1]
 cases c2:(q.l.kind==2) with
 |false=>
  have n2:(q.l.kind !=2)=true:=by simp[bne,c2]
  simp only[go_sem,i78,s112,ai pe ak,Ut,Wj,Pc.ps,n1,n2];exact⟨au,rfl⟩
 |true=>
 have n2:(q.l.kind !=2)=false:=by simp[bne,c2]
 cases c3:(p.l.id==q.l.id) with
 |false=>
  have n3:(p.l.id !=q.l.id)=true:=by simp[bne,c3]
  simp only[go_sem,i78,s112,ai pe ak,Ut,Wj,Pc.ps,n1,n2,n3];exact⟨au,rfl⟩
 |true=>
 have n3:(p.l.id !=q.l.id)=false:=by simp[bne,c3]
 have pd:=yW (pieces ls) [p.l.id] (by omega) (by simp) (vN g);simp only[go_sem,i78,s112,ai pe ak,Ut,Wj,Pc.ps,n1,n2,n3,s121];refine⟨au,?_⟩;refine dJ pd lo (.inr (ap (cJ _))) fun cc Tq w gc hb hw=> ?_
 simp only[go_sem];refine⟨?_,aR gc⟩;rcases hw with rfl|rfl<;>kernel_rfl
end
end Go.Abs
