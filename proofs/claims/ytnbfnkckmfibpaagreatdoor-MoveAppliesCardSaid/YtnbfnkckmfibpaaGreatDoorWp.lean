/-
  How letters are edited.
-/
import Derived.Test.YtnbfnkckmfibpaaGreatDoorWo
set_option linter.unusedSimpArgs false
set_option linter.unusedVariables false
set_option linter.unusedSectionVars false
set_option maxRecDepth 100000
set_option maxHeartbeats 16000000
namespace Go.Abs
theorem dd{x:Int}(h1: -9223372036854775808<=x)(h2:x<=9223372036854775807):IntKind.i64.wrap x=x:=by
 have e:(2 ^ IntKind.i64.bits:Int)=18446744073709551616:=by decide
 have e2:(2 ^ (IntKind.i64.bits - 1):Int)=9223372036854775808:=by decide
 unfold IntKind.wrap;simp only[e,e2];by_cases h:0<=x
 ·have h3:x%18446744073709551616=x:=by omega
  rw[h3];have h4: ¬ x≥9223372036854775808:=by omega
  simp[h4]
 ·have h3:x%18446744073709551616=x+18446744073709551616:=by omega
  rw[h3];have h4:x+18446744073709551616≥9223372036854775808:=by omega
  have h5:IntKind.i64.signed=true:=rfl;simp[h4,h5]
theorem qx(l:List Pc):gI 7 (dz l)=true:=by simp[gI,Pc.ps]
theorem cJ(l:List Pc):((dz l).all fun e=>e.all PV.scalar)=true:=by simp[Pc.ps,PV.scalar]
theorem kI(l:List Pc): ∀ e∈dz l,e.length=7/\ ∀ v∈e,v.norm=v:=fun e he=>by
 obtain⟨a,_,rfl⟩:=aaF.1 he;exact⟨rfl,fun v hv=>by simp[Pc.ps] at hv;rcases hv with rfl|rfl|rfl|rfl|rfl|rfl|rfl<;>rfl⟩
abbrev bz(l x:List Pc)(k:Nat):List Pc:=l.take (k+1)++x++l.drop (k+1)
theorem ui(a b:List Pc):dz (a++b)=dz a++dz b:=by simp
theorem aM(l x:List Pc)(k:Nat)(hk:k<l.length)(hl:l.length<=1000000)(hx:x.length<=1000000):
  aH S 118 [.one (.p (.sl (dz l))),vi k, .one (.p (.sl (dz x)))] (.one (aq fK 7 (dz (bz l x k)))):=by
 have w1:=am (n:=k) (by omega);have TH:k+1<=l.length:=by omega
 have hs:((dz l).all fun e=>e.length==7)=true:=qx l;have ht:List.take (k+1) (dz l)=dz (l.take (k+1)):=by simp[List.map_take]
 have hd:List.take (l.length - (k+1)) (List.drop (k+1) (dz l))=dz (l.drop (k+1)):=by rw[aau (by simp)];simp[List.map_drop]
 refine aG c118 ?_;simp only[go_sem,i118,w1,TH,hs,ht];refine gk (id:=7552064256) (site:=7552064256) (bytes:=56) grown.nil (xs:=dz (l.take (k+1))) (rd:=[]) rfl (.inr (qx _)) (by simp;omega) fun c1 Tq g1 Tw=> ?_
 simp only[go_sem];refine gk (id:=7552064256) (site:=7552128128) (bytes:=56) g1 (xs:=dz x) (rd:=[]) rfl (.inr (qx _)) (by simp;omega) fun c2 Tp g2 Tv=> ?_
 simp only[go_sem,w1,TH,hs,hd];refine gk (id:=7552128128) (site:=7552192320) (bytes:=56) g2 (xs:=dz (l.drop (k+1))) (rd:=[]) rfl (.inr (qx _)) (by simp;omega) fun c3 Ub g3 Uz=> ?_
 simp only[go_sem];rw[abK,<- ui,<- ui] at g3;exact iV g3
theorem OR(p:Pc)(t:List Pc)(hl:(p::t).length<=1000000):aH S 117 [.one (.p (.sl (dz (p::t))))] (.one (aq fK 7 (dz (p::t)))):=by
 have hs:((dz (p::t)).all fun e=>e.length==7)=true:=qx (p::t);have hr:(0+(dz (p::t)).length)*56<=room:=by unfold room;rw[aak];omega
 refine aG c117 ?_;obtain⟨e0,es,hq⟩: ∃ e0 es,dz (p::t)=e0::es:=⟨_,_,rfl⟩;rw[hq] at hs hr ⊢;have TA:e0::es≠[]:=by simp
 have hgr:aq fK 7 (e0::es)= .own fK 7 (e0::es):=if_neg TA;rw[hgr];unfold room at hr;simp only[abC,aar] at hr;simp only[abR] at hs;simp only[go_sem,i117,ac];simp only[hs,hr,not_true_eq_false,if_true,if_false];simp only[go_sem];exact lC fL rfl
def ue(g ab b:Int)(p:Pc):Pc:=if (p.l.kind==1)&&((p.l.gate==g)&&decide (ab<p.l.Th)) then {p with l:={p.l with Th:=p.l.Th+b}} else p
abbrev aU(l:List Pc)(g ab b:Int):List Pc:=l.map (ue g ab b)
def Kc(id:Nat)(es:List (List PV))(c:C)(Tc:aB)(v:V)(Td:aB):Prop:=v= .tup []/\grown id fK 7 es (.one c) Td/\Kept (· =id) Tc Td
theorem Nn{al:Al}{Tc:aB}{id:Nat}{l:List Pc}{c:C}{g ab b:Int}(o:l=[]\/al.ok id=true)(hl:l.length<=1000000)(hb: -100<=b/\b<=100)(hr: ∀ p∈l,-1000000<=p.l.Th/\p.l.Th<=1000000)(h:grown id fK 7 (dz l) (.one c) Tc):
  ∃ v Td,pz S 115 [.one c,vi g,vi ab,vi b] al Tc v Td/\Kc id (dz (aU l g ab b)) c Tc v Td:=by
 refine eY c115 (aaN rfl) ?_;rcases h with ⟨h1,h2⟩|⟨TA,gg,h2,hC⟩
 ·cases h2
  have WI:l=[]:=by simpa using h1
  subst WI;have hz: ¬ (((0:Nat):Int)<((0:Nat):Int)):=by omega
  simp only[go_sem,i115];refine be (fun k env Td=>k=0/\env 10=vi ((0:Nat):Int)/\env 11=vi ((0:Nat):Int)/\Td=Tc) 0 0 (aal _) ?_ ?_
  ·simp only[go_sem];exact rfl
  ·rintro k env Td _ ⟨rfl,TJ,Ui,rfl⟩
   simp only[go_sem,i115_l1,TJ,Ui,hz];exact⟨rfl, .inl ⟨rfl,rfl⟩,fun _ _=>rfl⟩
 ·cases h2
  have o:=o.resolve_left (by simpa using TA);simp only[go_sem,i115];refine be (fun k env Td=>env 0= .one (.hsl id gg 7 0 l.length)/\env 1=vi g/\env 2=vi ab/\env 3=vi b/\env 10=vi l.length/\env 11=vi k/\Td id=(gg,some (.arr fK 7 (dz ((aU (l.take k) g ab b)++l.drop k))))/\Kept (· =id) Tc Td) 0 l.length (aah _) ?_ ?_
  ·simp only[go_sem,hC];refine⟨?_,?_⟩
   ·simp[]
   ·exact Kept.refl _ _
  ·rintro k env Td hk ⟨h0,h1,h2,h3,TJ,Ui,hF,TL⟩
   by_cases Ti:k<l.length
   ·have Tk:((k:Int)<(l.length:Int)):=by omega
    obtain⟨p,hp⟩:=ao Ti;have w1:=am (n:=k) (by omega);obtain⟨r1,r2⟩:=hr p (aaf hp);have wr:=dd (x:=p.l.Th+b) (by omega) (by omega);have hdr:l.drop k=p::l.drop (k+1):=by
     obtain⟨hh,rfl⟩:=aag.1 hp;exact adF hh
    have hlen:((aU (l.take k) g ab b)++l.drop k).length=l.length:=by simp[aU];omega
    have VB:((aU (l.take k) g ab b)++l.drop k)[k]? =some p:=by
     rw[acn (by simp[aU];omega)];have:k - (aU (l.take k) g ab b).length=0:=by simp[aU];omega
     rw[this,hdr];rfl
    have T5:((aU (l.take k) g ab b)++l.drop k).set k (ue g ab b p)=(aU (l.take (k+1)) g ab b)++l.drop (k+1):=by
     have e1:(aU (l.take k) g ab b).length=k:=by simp[aU];omega
     rw[List.set_append_right _ _ (by omega),e1,Nat.sub_self,hdr,List.set_cons_zero,aaX,hp];simp[aU]
    have T1:=bR VB;have Vv:dz (((aU (l.take k) g ab b)++l.drop k).set k (ue g ab b p))=(dz ((aU (l.take k) g ab b)++l.drop k)).set k (ue g ab b p).ps:=by simp[dz,abU]
    rw[T5] at Vv;have Vt:ue g ab b p=p->dz ((aU (l.take k) g ab b)++l.drop k)=dz ((aU (l.take (k+1)) g ab b)++l.drop (k+1)):=fun e=>by
     rw[Vv,e];obtain⟨hh,he⟩:=aag.1 T1;rw[<- he,List.set_getElem_self]
    generalize (aU (l.take k) g ab b)++l.drop k=m at hF VB T1 Vv Vt hlen;have Vi:k<(dz m).length:=by rw[aak];omega
    cases c1:(p.l.kind==1) with
    |false=>
     have e:=Vt (by unfold ue;rw[c1];rfl);simp only[go_sem,i115_l1,h0,h1,h2,h3,TJ,Ui,hF,T1,Pc.ps,Ti,Tk,c1,w1,o];exact⟨by rw[e],TL⟩
    |true=>
     cases c2:(p.l.gate==g) with
     |false=>
      have e:=Vt (by unfold ue;rw[c1,c2];rfl);simp only[go_sem,i115_l1,h0,h1,h2,h3,TJ,Ui,hF,T1,Pc.ps,Ti,Tk,c1,c2,w1,o];exact⟨by rw[e],TL⟩
     |true=>
      by_cases c3:ab<p.l.Th
      ·have e:(ue g ab b p).ps=[.int .i64 p.l.kind, .int .i64 p.l.gate, .int .i64 (p.l.Th+b), .int .i64 p.l.id, .int .i64 p.l.sign, .bool p.l.over, .bool p.d]:=by unfold ue;rw[c1,c2,decide_eq_true c3];rfl
       rw[e] at Vv;simp only[go_sem,i115_l1,h0,h1,h2,h3,TJ,Ui,hF,T1,Pc.ps,Ti,Tk,c1,c2,c3,w1,wr,o];refine⟨?_,?_⟩
       ·first|rw[Vv]|(rw[Vv];rfl)
       ·exact TL.fD rfl _
      ·have e:=Vt (by unfold ue;rw[c1,c2,decide_eq_false c3];rfl);simp only[go_sem,i115_l1,h0,h1,h2,h3,TJ,Ui,hF,T1,Pc.ps,Ti,Tk,c1,c2,c3,w1,o];exact⟨by rw[e],TL⟩
   ·have:k=l.length:=by omega
    subst this;simp only[go_sem,i115_l1,TJ,Ui,aN];refine⟨rfl,?_,TL⟩;rw[aa7,List.drop_length,abO] at hF;exact .inr ⟨by simpa using TA,gg,by simp[aU],hF⟩
def Sc(p:Pc):Bool:=(p.l.kind==1)&&p.d
def Sq(l:List Pc)(i:Nat):Bool:=match l[i]? with|some p=>Sc p|none=>false
theorem QI{l:List Pc}{i:Nat}{p:Pc}(h:l[i]? =some p):Sq l i=Sc p:=by simp[Sq,h]
def iX(l:List Pc):Option Nat:=(List.range l.length).find? (Sq l)
theorem OB(p:Pc):aH S 85 [.agg (p.ps.map .p)] (rb (Sc p)):=by
 refine aG c85 ?_;unfold Sc;cases h:(p.l.kind==1) with
 |true=>simp only[go_sem,i85,Pc.ps,h]
 |false=>simp only[go_sem,i85,Pc.ps,h]
theorem Oc(l:List Pc)(hl:l.length<=1000000):aH S 84 [.one (.p (.sl (dz l))), .one (.p (.fn 85 [] []))] (ri (match iX l with|some k=>(k:Int)|none=> -1)):=by
 refine aG c84 ?_;simp only[go_sem,i84];refine be (fun k env Tc=>env 0= .one (.p (.sl (dz l)))/\env 1= .one (.p (.fn 85 [] []))/\env 7=vi l.length/\env 8=vi k/\ ∀ j,j<k->Sq l j=false) 0 l.length (aah _) ?_ ?_
 ·simp only[go_sem];exact⟨rfl,fun j hj=>absurd hj (abl j)⟩
 ·rintro k env Tc hk ⟨h0,h1,h7,h8,hn⟩
  by_cases Ti:k<l.length
  ·have Tk:((k:Int)<(l.length:Int)):=by omega
   obtain⟨p,hp⟩:=ao Ti;have T1:=bR hp;have w1:=am (n:=k) (by omega);have pd:=OB p;have XI:=QI hp;cases hb:Sc p with
   |true=>
    rw[hb] at pd XI;have hf:iX l=some k:=fh Ti hn XI;simp only[Pc.ps,aas,aaG] at pd;simp only[go_sem,i84_l1,h0,h1,h7,h8,Tk,T1,Pc.ps,s85,aa pd,hf]
   |false=>
    rw[hb] at pd XI;simp only[Pc.ps,aas,aaG] at pd;simp only[go_sem,i84_l1,h0,h1,h7,h8,Ti,Tk,T1,Pc.ps,s85,aa pd,w1];intro j hj;rcases aaW.1 hj with h|rfl
    ·exact hn j h
    ·exact XI
  ·have:k=l.length:=by omega
   subst this;have hf:iX l=none:=eD hn;simp only[go_sem,i84_l1,i84_r2,h7,h8,aN,hf]
abbrev eH:Nat:=55
def qD(l:List Pc)(agl k:Nat):List ae:=(List.range k).map fun i=>(l.getD ((agl+i)%l.length) ⟨hH,false⟩).l
theorem HR{l:List Pc}{f k:Nat}{p:Pc}(h:l[(f+k)%l.length]? =some p):qD l f (k+1)=qD l f k++[p.l]:=by
 simp[qD,abE,aap,h]
def qc(l:List Pc):List ae:=qD l ((iX l).getD 0) l.length
abbrev bn(o:List ae):List (List PV):=o.map ae.ps
theorem kh{s1 t1 z1:Nat}{es:List (List PV)}{c:C}{x:PV}{Tc:aB}(h:grown s1 t1 z1 es (.one c) Tc):en Tc (.agg [.p x,c])=some (.agg [.p x,aq t1 z1 es]):=by
 obtain⟨c',o,hc,h2,h3⟩:=h.eo;cases hc
 rcases h3 with rfl|rfl<;>simp[en,et,cb,dg,h2,(show Go.Abs.eo Tc (.p x)=some (.p x,[],[]) from rfl),apart,eZ,cX]
theorem wg(F:Nat)(l:List Pc)(hl:l.length<=1000000)(x1 x2 x3 x4 x5 x6:PV):aH S 52 [.one (.p (.box [.int .i64 F,x1,x2,x3,x4,x5,x6])), .one (.p (.sl (dz l)))] (.agg [.p (.int .i64 F),aq eH 6 (bn (qc l))]):=by
 have px:=Oc l hl;have hfd: ∃ f,(iX l).getD 0=f/\(l≠[]->f<l.length):=by
  refine⟨_,rfl,fun TA=> ?_⟩;cases h:iX l with
  |none=>exact abn.2 TA
  |some k=>exact aaE.1 (adt h)
 obtain⟨f,hf,WM⟩:=hfd;have YE:((iX l=none/\f=0)\/iX l=some f):=by
  cases h:iX l with
  |none=>rw[h] at hf;exact .inl ⟨rfl,hf.symm⟩
  |some k=>rw[h] at hf;exact .inr (congrArg some hf)
 unfold qc;rw[hf];have main: ∀ (env:Env) (Tc:aB),env 1= .one (.p (.sl (dz l)))->env 4= .one (.Tn 3328000000 1 0)->env 5= .one (.Tn 3328064320 1 0)->env 6=vi f->env 17=vi l.length->env 18=vi ((0:Nat):Int)->Tc 3328000000=(1,some (.var [.p (.int .i64 0), .p .nils]))->Tc 3328064320=(1,some (.var [.p (.int .i64 F), .p .nils]))->
   W S .all (.loop i52_l1) (ey 0 (lu S .all i52_r2 (pj .all [(4,some (some 2))] fun v Tc=>en Tc v=some (.agg [.p (.int .i64 F),aq eH 6 (bn (qD l f l.length))])))) env Tc:=by
  intro env Tc e1 e4 e5 e6 e17 e18 b0 bO;refine be (fun k env Tc=>env 1= .one (.p (.sl (dz l)))/\env 4= .one (.Tn 3328000000 1 0)/\env 5= .one (.Tn 3328064320 1 0)/\env 6=vi f/\env 17=vi l.length/\env 18=vi k/\Tc 3328000000=(1,some (.var [.p (.int .i64 0), .p .nils]))/\ ∃ c,Tc 3328064320=(1,some (.var [.p (.int .i64 F),c]))/\grown 3328384832 eH 6 (bn (qD l f k)) (.one c) Tc) 0 l.length (aah _) ⟨e1,e4,e5,e6,e17,e18,b0, .p .nils,bO, .inl ⟨rfl,rfl⟩⟩ ?_;rintro k env Tc hk ⟨h1,h4,h5,h6,Y8,Xu,b0,c,bO,gc⟩
  by_cases Ti:k<l.length
  ·have Tk:((k:Int)<(l.length:Int)):=by omega
   have TA:l≠[]:=abn.1 (by omega);have WM:=WM TA;have w1:=am (n:=k) (by omega);have w2:=wrap_add (a:=f) (b:=k) (by omega);have e2:=dq (f+k) l.length;have hm:=aax (f+k) (show 0<l.length by omega);obtain⟨p,hp⟩:=ao hm;have T1:=bR hp;have hz: ¬ ((l.length:Int)=0):=by omega
   have hr:=HR hp;have hle:(qD l f k).length=k:=by simp[qD]
   simp only[go_sem,i52_l1,h1,h5,h6,Y8,Xu,bO,Tk,w2,e2,hz,T1,Pc.ps];refine fi (site:=3328384832) (id:=3328384832) (bytes:=48) (xs:=[p.l.ps]) (rd:=[3328384768]) (gc.of_eq (aj (by decide))) (by simp[bh,af,ae.ps]) (.inl rfl) (by simp only[aak,hle,aar,aav];omega) fun c' Tq r u hc hb hru=> ?_
   have bO1:=(hb 3328064320 (by decide) (by decide)).trans ((aj (by decide)).trans bO);have b01:=(hb 3328000000 (by decide) (by decide)).trans ((aj (by decide)).trans b0);simp only[go_sem,h1,h4,h5,h6,Y8,Xu,bO1,b01,Ti,w1];refine⟨?_,c',rfl,?_⟩
   ·rcases hru with ⟨rfl,rfl⟩|⟨rfl,rfl⟩|⟨rfl,rfl⟩<;>kernel_rfl
   ·rw[hr,bn,abQ];exact hc.of_eq (aj (by decide))
  ·have:k=l.length:=by omega
   subst this;simp only[go_sem,i52_l1,i52_r2,h4,h5,Y8,Xu,bO,b0,aN];exact kh (gc.of_eq (aj (by decide)))
 refine aG c52 ?_;rcases YE with ⟨hn,rfl⟩|hs
 ·rw[hn] at px;have aaY: ¬ ((0:Int)< -1):=by decide
  simp only[go_sem,i52,s84,aS px];exact main _ _ (by simp only[go_sem]) (by simp only[go_sem]) (by simp only[go_sem]) (by simp only[go_sem];rfl) (by simp only[go_sem]) (by simp only[go_sem];rfl) (by simp only[go_sem]) (by simp only[go_sem])
 ·rw[hs] at px;simp only[go_sem,i52,s84,aS px];exact main _ _ (by simp only[go_sem]) (by simp only[go_sem]) (by simp only[go_sem]) (by simp only[go_sem];split<;>(first|rfl|(congr 1;simp;omega))) (by simp only[go_sem]) (by simp only[go_sem];rfl) (by simp only[go_sem]) (by simp only[go_sem])
theorem Gz:aH S 50 [] (.agg [.p .TR, .p (.fn 75 [] []), .p (.fn 76 [] []), .p (.fn 77 [] []), .p (.fn 78 [] []), .p (.fn 79 [] []), .p (.fn 80 [] []), .p (.fn 81 [] []), .p (.fn 82 [] []), .p (.fn 83 [] []), .p (.fn 83 [] [])]):=by
 refine aG c50 ?_;simp only[go_sem,i50];rfl
def cE(k:Int):Int × Int:=if k=2 then (2,0) else if k=5 then (2,1) else if k=7 then (4,2) else (0,0)
theorem GF(k:Int):aH S 51 [vi k] (.tup [.one (.p (.int .i64 (cE k).1)), .one (.p (.int .i64 (cE k).2))]):=by
 refine aG c51 ?_;unfold cE;by_cases h2:k=2
 ·subst h2;simp only[go_sem,i51];rfl
 by_cases h5:k=5
 ·subst h5;simp only[go_sem,i51];rfl
 by_cases h7:k=7
 ·subst h7;simp only[go_sem,i51];rfl
 rw[if_neg h2,if_neg h5,if_neg h7];have e2:(k==2)=false:=by simpa using h2
 have e5:(k==5)=false:=by simpa using h5
 have e7:(k==7)=false:=by simpa using h7
 simp only[go_sem,i51,e2,e5,e7];rfl
theorem ou(F:Nat)(x:Nat)(sg:Int)(ov:Bool)(x1 x2 x3 x4 x6:PV)(k:Nat)(hx:x<=1000000)(hk:k<=10):aH S 122 [.one (.p (.box [.int .i64 F,x1,x2,x3,x4, .int .i64 x,x6])),vi k,vi sg,vb ov] (.agg [.p (.int .i64 2), .p (.int .i64 0), .p (.int .i64 0), .p (.int .i64 ((x+k:Nat):Int)), .p (.int .i64 sg), .p (.bool ov), .p (.bool false)]):=by
 have w:=wrap_add (a:=x) (b:=k) (by omega);refine aG c122 ?_;simp only[go_sem,i122,w];rfl
def Jb(o:List (Nat × Nat))(p:Nat × Nat)(i:Nat):Bool:=o[i]? ==some p
theorem BZ(o:List (Nat × Nat))(p:Nat × Nat)(hl:o.length<=1000000):aH S 145 [.one (.p (.sl (fv o))), .agg [.p (.int .i64 p.1), .p (.int .i64 p.2)]] (ri (match (List.range o.length).find? (Jb o p) with|some k=>(k:Int)|none=> -1)):=by
 refine aG c145 ?_;simp only[go_sem,i145];refine be (fun k env Tc=>env 0= .one (.p (.sl (fv o)))/\env 3= .one (.Tn 9280000000 1 0)/\Tc 9280000000=(1,some (.var [.p (.int .i64 p.1), .p (.int .i64 p.2)]))/\env 7=vi o.length/\env 8=vi k/\ ∀ j,j<k->Jb o p j=false) 0 o.length (aah _) ?_ ?_
 ·simp only[go_sem];exact⟨rfl,fun j hj=>absurd hj (abl j)⟩
 ·rintro k env Tc hk ⟨h0,h3,b0,h7,h8,hn⟩
  by_cases Ti:k<o.length
  ·have Tk:((k:Int)<(o.length:Int)):=by omega
   obtain⟨q,hp⟩:=ao Ti;have T1:=ED hp;have w1:=am (n:=k) (by omega);have XI:Jb o p k=decide (q=p):=by
    simp only[Jb,hp];by_cases h:q=p<;>simp[h]
   by_cases hb:q=p
   ·subst hb;have hf:=fh (p:=Jb o q) Ti hn (by rw[XI];simp);simp only[go_sem,i145_l1,h0,h3,b0,h7,h8,Tk,T1,hf,mC,CX];exact au
   ·have hpf:Jb o p k=false:=by rw[XI];exact decide_eq_false hb
    have TA:((p.1:Int)==(q.1:Int))=false\/(((p.1:Int)==(q.1:Int))=true/\((p.2:Int)==(q.2:Int))=false):=by
     by_cases h1:q.1=p.1
     ·refine .inr ⟨by simp[h1],?_⟩;have:q.2≠p.2:=fun h2=>hb (Prod.ext h1 h2)
      simp;omega
     ·left;simp;omega
    have hn': ∀ j,j<k+1->Jb o p j=false:=fun j hj=>by
     rcases aaW.1 hj with h|rfl
     ·exact hn j h
     ·exact hpf
    rcases TA with e1|⟨e1,e2⟩
    ·simp only[go_sem,i145_l1,h0,h3,b0,h7,h8,Ti,Tk,T1,w1,mC,CX,e1];exact⟨au,hn'⟩
    ·simp only[go_sem,i145_l1,h0,h3,b0,h7,h8,Ti,Tk,T1,w1,mC,CX,e1,e2];exact⟨au,hn'⟩
  ·have:k=o.length:=by omega
   subst this;have hf:=eD (p:=Jb o p) hn;simp only[go_sem,i145_l1,i145_r2,h7,h8,aN,hf]
theorem Df(o:List (Nat × Nat))(p:Nat × Nat)(hl:o.length<=1000000):aH S 116 [.one (.p (.sl (fv o))), .agg [.p (.int .i64 p.1), .p (.int .i64 p.2)]] (rb (decide (p∈o))):=by
 have pi:=BZ o p hl;refine aG c116 ?_;by_cases hm:p∈o
 ·obtain⟨k,hk⟩:=aaC hm;have T7:=(aag.1 hk).1;cases hf:(List.range o.length).find? (Jb o p) with
  |none=>
   have:=adr.1 hf k (aaE.2 T7);simp[Jb,hk] at this
  |some j=>
   rw[hf] at pi;have Va:(0:Int)<=(j:Int):=by omega
   simp only[go_sem,i116,s145,aS pi,Va,hm]
 ·cases hf:(List.range o.length).find? (Jb o p) with
  |some j=>
   have h1:=List.find?_some hf;simp only[Jb,beq_iff_eq] at h1;exact absurd (aaf h1) hm
  |none=>
   rw[hf] at pi;have Va: ¬ (0:Int)<= -1:=by decide
   simp only[go_sem,i116,s145,aS pi,Va,hm]
end Go.Abs
