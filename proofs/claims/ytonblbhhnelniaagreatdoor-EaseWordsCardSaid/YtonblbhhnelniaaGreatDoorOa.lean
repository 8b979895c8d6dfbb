/-
  What the words of line do; words of codes under moves.
-/
import Derived.Test.YtonblbhhnelniaaGreatDoorRd
import Derived.Test.YtonblbhhnelniaaGreatDoorNa
set_option linter.all false
set_option maxRecDepth 100000
set_option maxHeartbeats 16000000
namespace Go.Abs
section
variable{off:Nat}
abbrev aA(w:List Int):PV:=.sl (iP w)
structure Cl (w:List Int):Prop where
 even:w.length%2=0
 len:w.length<=400
 gate:∀g∈w,0<=g/\g<=40
theorem auQ{g:Int}(h:0<=g/\g<=40):aI S 67 [vi g] (rb false):=by have h1:¬g<0:=aa;have h2:¬g>40:=aa;refine aY c67 ?_;simp only[go_sem,i67,h1,h2]
theorem anM(o:List Int)(hl:o.length<=1000000){f:Nat}(iw:S.shared f=false)(hd:∀v∈o,aI S f [vi v] (rb false)):
  aI S 89 [.one (.p (aA o)),.one (.p (.fn f [] []))] (ri (-1)):=by
 refine aY c89 ?_;simp only[go_sem,i89];refine cV (fun k ak aj=>ak 0=.one (.p (aA o))/\ak 1=.one (.p (.fn f [] []))/\ak 7=vi o.length/\ak 8=vi k) 0 o.length (bd _) ?_ ?_
 .simp only[go_sem];rfl
 rintro k ak aj hk ⟨h0,h1,h7,h8⟩
 by_cases aw:k<o.length
 .have aL:((k:Int)<(o.length:Int)):=aa;obtain⟨v,hv⟩:=aK aw;have fJ:=mK hv;have w1:=cK (n:=k) aa;have pd:=hd v (aU hv);simp only[go_sem,i89_l1,h0,h1,h7,h8,aw,aL,fJ,iw,cS pd,w1]
 have:k=o.length:=aa;subst this;simp only[go_sem,i89_l1,i89_r2,h7,h8,eK]
theorem ajO(o:List Int)(hl:o.length<=1000000){f:Nat}(iw:S.shared f=false)(hd:∀v∈o,aI S f [vi v] (rb false)):
  aI S 66 [.one (.p (aA o)),.one (.p (.fn f [] []))] (rb false):=by
 have pi:=anM o hl iw hd;refine aY c66 ?_;have nN:¬(0:Int)<= -1:=ae;simp only[go_sem,i66,s89,eH pi,nN]
theorem ahr{w:List Int}(h:Cl w):aI S 40 [.one (.p (aA w))] (rb true):=by
 have pc:=ajO w (by have:=h.len;omega) s67 fun v hv=>auQ (h.gate v hv);have h1:((w.length:Int).tmod 2)=0:=by rw[Int.tmod_eq_emod_of_nonneg aa];have:=h.even;omega
 have h2:(w.length:Int)<=400:=by have:=h.len;omega
 have h0:((0:Int)==0)=true:=rfl;have lY:¬((2:Int)=0):=ae;refine aY c40 ?_;simp only[go_sem,i40,h1,h2,h0,lY,s66,cS pc]
theorem auZ{ws:List (List Int)}{k:Nat}{w:List Int}(h:ws[k]?=some w):(ws.map fun w=>[aA w])[k]?=some [aA w]:=by simp[h]
theorem ajw(ws:List (List Int))(hl:ws.length<=1000)(h:∀w∈ws,Cl w):aI S 22 [.one (.p (.sl (ws.map fun w=>[aA w])))] (ri 0):=by
 refine aY c22 ?_;simp only[go_sem,i22];refine cV (fun k ak aj=>ak 5=.one (.p (.sl (ws.map fun w=>[aA w])))/\ak 6=vi ws.length/\ak 7=vi k) 0 ws.length (bd _) ?_ ?_
 .simp only[go_sem];rfl
 rintro k ak aj hk ⟨h5,h6,h7⟩
 by_cases aw:k<ws.length
 .have aL:((k:Int)<(ws.length:Int)):=aa;obtain⟨w,hw⟩:=aK aw;have fJ:=auZ hw;have w1:=cK (n:=k) aa;have hg:=h w (aU hw);have h2:¬(w.length:Int)>400:=by have:=hg.len;omega
  have pw:=ahr hg;simp only[go_sem,i22_l1,h5,h6,h7,aw,aL,fJ,h2,s40,cS pw,w1]
 have:k=ws.length:=aa;subst this;simp only[go_sem,i22_l1,i22_r2,h6,h7,eK]
theorem alo{k:Int}(h:0<=k/\k<=40):aI S 72 [vi k] (rb true):=by have h1:k≥0:=h.1;have h2:k<=40:=h.2;refine aY c72 ?_;simp only[go_sem,i72,h1,h2]
theorem apg{w:List Int}(aF:w≠[])(hl:w.length<=1000000){b:Int}(h:∀g∈w,g<=b):∃r,(∃m,m<=b/\r=ri m)/\aI S 73 [.one (.p (aA w))] r:=by
 have fA:=gV.2 aF;have h1:¬(w.length:Int)<1:=aa;obtain⟨x,hx⟩:=aK fA;have nU:=mK hx;refine Fp rfl c73 (gY rfl) ?_;simp only[go_sem,i73,h1,nU];refine cV (fun k ak aj=>ak 0=.one (.p (aA w))/\ak 4=vi k/\ ∃m,m<=b/\ak 3=vi m) 1 w.length fA ?_ ?_
 .simp only[go_sem];exact⟨rfl,x,h x (aU hx),rfl⟩
 rintro k ak aj hk ⟨h0,h4,m,hm,h3⟩
 by_cases aw:k<w.length
 .have aL:((k:Int)<(w.length:Int)):=aa;obtain⟨y,hy⟩:=aK aw;have fJ:=mK hy;have w1:=cK (n:=k) aa;have hyb:=h y (aU hy);simp only[go_sem,i73_l1,h0,h3,h4,aw,aL,fJ,w1];exact⟨_,by split<;>assumption,rfl⟩
 have:k=w.length:=aa;subst this;simp only[go_sem,i73_l1,i73_r2,h0,h3,h4,eK];exact⟨_,⟨m,hm,rfl⟩,rfl⟩
theorem aul{k:Int}(hk:0<=k/\k<=40){w:List Int}(h:Cl w)(hg:∀g∈w,g<=k):aI S 45 [vi k,.one (.p (aA w))] (rb true):=by
 have pf:=alo hk;have pw:=ahr h;have hl:=h.len;by_cases aF:w=[]
 .have hz:((w.length:Int)==0)=true:=by rw[aF];rfl
  refine aY c45 ?_;simp only[go_sem,i45,s72,cS pf,s40,cS pw,hz]
 obtain⟨r,⟨m,hm,rfl⟩,pm⟩:=apg aF aa hg;have hz:((w.length:Int)==0)=false:=beq_eq_false_iff_ne.2 (by have:=gV.2 aF;omega);refine aY c45 ?_;simp only[go_sem,i45,s72,cS pf,s40,cS pw,hz,s73,eH pm,hm]
theorem aju{k:Int}(hk:0<=k/\k<=40){w:List Int}(h:Cl w)(hg:∀g∈w,g<=k):aI S 25 [vi k,.one (.p (aA w))] (ri 0):=by
 have pv:=aul hk h hg;have h2:¬(w.length:Int)>400:=by have:=h.len;omega
 refine aY c25 ?_;simp only[go_sem,i25,h2,s45,cS pv]
abbrev dlT:Nat:=122
abbrev pE:Nat:=3
def vV(x:DL):List PV:=[.int .i64 x.1,.bool x.2]
abbrev mX(s:List DL):List (List PV):=s.map vV
theorem dlP_len(s:List DL):(mX s).length=s.length:=af
def zT(site off:Nat)(s:List DL)(c:C)(aj:aq):Prop:=c=.p .nils/\s=[]\/ ∃g es,c=.hsl site g 2 off s.length/\aj site=(g,some (.arr dlT 2 es))/\(es.drop off).take s.length=mX s/\off+s.length<=es.length
theorem zT.of_eq{site:Nat}{s:List DL}{c:C}{aj ao:aq}(h:zT site off s c aj)(e:ao site=aj site):zT site off s c ao:=by
 rcases h with h|⟨g,es,h1,h2,h3,h4⟩
 .exact .inl h
 exact .inr ⟨g,es,h1,e.trans h2,h3,h4⟩
theorem Nz{s:List DL}{es:List (List PV)}{k:Nat}{x:DL}(h3:(es.drop off).take s.length=mX s)(h:s[k]?=some x):es[off+k]?=some (vV x):=by
 have h1:(mX s)[k]?=some (vV x):=by rw[fR,h];rfl
 rw[<- h3,jt] at h1;split at h1
 .rw[r9] at h1;exact h1
 cases h1
theorem WY{s:List DL}{es:List (List PV)}(h3:(es.drop off).take s.length=mX s)(n k:Nat)(hk:n+k<=s.length):(es.drop (off+n)).take k=mX ((s.drop n).take k):=by
 have:((es.drop off).take s.length).drop n=mX (s.drop n):=by rw[h3];exact(List.map_drop ..).symm
 rw[List.drop_take,List.drop_drop] at this;rw[show mX ((s.drop n).take k)=(mX (s.drop n)).take k from Hj ..,<- this,Ho,xe aa]
theorem aon{s:List DL}(h:s≠[]):∃x,s[s.length-1]?=some x/\s.getLast?=some x:=by refine⟨s.getLast h,?_,List.getLast?_eq_some_getLast h⟩;rw[nG (by have:=gV.2 h;omega)];rw[List.getLast_eq_getElem]
theorem tdl(k:Nat):((k:Int).tmod 2)=((k%2:Nat):Int):=by rw[Int.tmod_eq_emod_of_nonneg aa];omega
theorem afx(k:Nat):fN true k=(((k%2:Nat):Int)==0):=by
 unfold fN;by_cases h:k%2=0
 .rw[if_pos h,h];rfl
 rw[if_neg h];have:((k%2:Nat):Int)≠0:=aa;rw[beq_eq_false_iff_ne.2 this];rfl
theorem aka{Q:dy}{ak:Env}{aj:aq}{os all:List bl}{tr:List bR}{d:Option Nat}{site ty z bytes id g off len:Nat}{es xs:List (List PV)}{x:V}{rd:List Nat}(hC:aj id=(g,some (.arr ty z es)))(hx:ez aj x=some (xs,rd,[]))(hz:kD x=some z\/gC z xs=true)(hr:(len+xs.length)*bytes<=140737488355328)
  (ho:0<off) (hl:0<len) (aF:0<xs.length) (hfit:off+len<=es.length)
  (hK:RD S .all all os Q (put ak d (.one (.p (.sl ((es.drop off).take len++xs))))) (dB aj id (g,none)) (tr++[⟨id::rd,[id],[]⟩])):dP S .all (fj aj site ty z bytes (.one (.hsl id g z off len)) x) d all os Q ak aj tr:=by
 obtain⟨o,rfl⟩:∃o,off=o+1:=⟨off-1,aa⟩;have l7:¬¬(kD x=some z\/gC z xs=true):=fun h=>h hz;have hc:g=g/\ty=ty/\z=z/\o+1+len<=es.length/\(len+xs.length)*bytes<=room/\([]:List Nat).contains id=false/\0<len/\0<xs.length:=⟨rfl,rfl,rfl,hfit,hr,rfl,hl,aF⟩;have:fj aj site ty z bytes (.one (.hsl id g z (o+1) len)) x=.done (.one (.p (.sl ((es.drop (o+1)).take len++xs)))) ([]++[(id,(g,none))]) (id::rd++[]):=by simp only[fj,hx,if_neg l7,qd,rL,hC];rw[if_pos ⟨trivial,trivial,trivial,hfit,hr,rfl,hl,aF⟩]
 rw[this];simp only[fp,jR];rw[HX];exact hK
theorem abA{Q:dy}{ak:Env}{aj:aq}{os:List bl}{d:Option Nat}{site:Nat}{s:List DL}{y:DL}{c:C}{x:V}{rd:List Nat}(hs:zT site 0 s c aj)(hx:ez aj x=some ([vV y],rd,[]))(hz:kD x=some 2\/gC 2 [vV y]=true)(hl:s.length<=1000000)
  (hK:∀(c':C) ao,zT site 0 (s++[y]) c' ao->(∀i,i≠site->ao i=aj i)->RN S .all os Q (put ak d (.one c')) ao):gP S .all (fj aj site dlT 2 16 (.one c) x) d os Q ak aj:=by
 have l7:¬¬(kD x=some 2\/gC 2 [vV y]=true):=fun h=>h hz;rcases hs with ⟨rfl,rfl⟩|⟨g,es,rfl,hb,h3,h4⟩
 .have:fj aj site dlT 2 16 (.one (.p .nils)) x=.done (.one (.hsl site ((aj site).1+1) 2 0 1)) ([]++[(site,((aj site).1+1,some (.arr dlT 2 [vV y])))]) (site::rd++[]):=by
   simp only[fj,hx,if_neg l7,qd,rL];rfl
  rw[this,FV];refine hK _ _ (.inr ⟨(aj site).1+1,[vV y],rfl,sZ,rfl,aX _⟩) fun i hi=>aP hi
 have:fj aj site dlT 2 16 (.one (.hsl site g 2 0 s.length)) x=.done (.one (.hsl site ((aj site).1+1) 2 0 (s.length+1))) ([]++[(site,(g,none)),(site,((aj site).1+1,some (.arr dlT 2 (es.take s.length++[vV y]))))]) (site::site::rd++[]):=by simp only[fj,hx,if_neg l7,qd,rL,hb];rw[if_pos ⟨trivial,trivial,trivial,aa,by simp only[cq,dN,room];omega,rfl⟩];rfl
 rw[this,FV];have Aq:es.take s.length=mX s:=h3;refine hK _ _ (.inr ⟨(aj site).1+1,mX s++[vV y],by rw[dX];rfl,?_,?_,af⟩) fun i hi=>?_
 .rw[Aq];exact sZ
 .show(mX s++[vV y]).take (s++[y]).length=mX (s++[y]);rw[fS af];simp
 exact(aP hi).trans (aP hi)
theorem Xa(l:List DL):(rB l).length<=l.length:=by
 suffices h:∀(l s:List DL),(l.foldl tZ s).length<=s.length+l.length by
  have:=h l []
  simpa [rB] using this
 intro l
 induction l with
 |nil=>intro s;simp
 |cons x l ih=>
  intro s;have h1:=ih (tZ s x);have h2:(tZ s x).length<=s.length+1:=by
   unfold tZ;split
   .rw[vG];omega
   simp
  rw[zZ,cq];omega
theorem aua:∀(n m:Nat) (s:List DL),s.length<=n->s.length<=m->nC n s=nC m s:=by
 intro n
 induction n with
 |zero=>intro m s h _;obtain rfl:=uL.1 (Nat.le_zero.1 h);cases m<;>rfl
 |succ n ih=>
  intro m s h1 h2;cases s with
  |nil=>cases m<;>rfl
  |cons x t=>
   cases m with
   |zero=>simp at h2
   |succ m=>simp only[cq] at h1 h2;show(if (t.getLast?.map fun y=>y.1)=some x.1 then nC n t.dropLast else x::t)=(if (t.getLast?.map fun y=>y.1)=some x.1 then nC m t.dropLast else x::t);rw[ih m t.dropLast (by rw[vG];omega) (by rw[vG];omega)]
abbrev WR(r:List DL):V->aq->Prop:=fun v aj=>iA aj v=some (.one (aR pE 1 (iP (r.map (·.1)))))
theorem WT{s:List DL}{c:C}{DS:Env}{kI:aq}(hl:s.length<=400)(j8:(∃off,zT 2624512448 off s c kI)\/c=.p (.sl (mX s)))(e3:DS 83=.one c)(e4:DS 84=vi s.length)(e5:DS 85=vi (0:Nat))(e7:DS 7=.one (.p .nils)):
  W S .all (.loop i41_l3) (nJ 4 (zU S .all i41_r4 (lE .all [(2,none)] (WR s)))) DS kI:=by
 refine cV (fun k ak aj=>ak 83=.one c/\ak 84=vi s.length/\ak 85=vi k/\((∃off,zT 2624512448 off s c aj)\/c=.p (.sl (mX s)))/\ ∃d,ak 7=.one d/\grown 2625152256 pE 1 (iP ((s.take k).map (·.1))) (.one d) aj) 0 s.length (bd _) ?_ ?_
 .exact⟨e3,e4,e5,j8,.p .nils,e7,grown.nil⟩
 rintro k ak aj hk ⟨h83,Lv,Lw,hs,d,h7,gd⟩
 by_cases aw:k<s.length
 .have aL:((k:Int)<(s.length:Int)):=aa;obtain⟨x,hx⟩:=aK aw;have w1:=cK (n:=k) aa;have lH:(s.take (k+1)).map (·.1)=(s.take k).map (·.1)++[x.1]:=by rw[kn,hx];simp
  have dO:(iP ((s.take k).map (·.1))).length=k:=by simp;omega
  have nU:(mX s)[k]?=some [.int .i64 x.1,.bool x.2]:=by rw[fR,hx];rfl
  have AT:=hs;rcases hs with ⟨off,⟨_,e⟩|⟨gg,es,rfl,hb,h5,h6⟩⟩|rfl
  .subst e;simp at aw
  .have hJ:es[off+k]?=some [.int .i64 x.1,.bool x.2]:=Nz h5 hx;simp only[go_sem,i41_l3,h83,Lv,Lw,h7,hb,aw,aL,hJ];refine qN (site:=2625152256) (id:=2625152256) (xs:=[[.int .i64 x.1]]) (rd:=[2625152192]) (gd.of_eq (by simp only[aM,Nat.reduceEqDiff,if_false])) (by simp[ez,aM]) (.inl rfl) (by rw[dO];simp;omega) fun d' bG Ll cU=>?_;have aV:=cU 2624512448 ae ae;simp only[aM,Nat.reduceEqDiff,if_false] at aV;simp only[go_sem,h83,Lv,Lw,w1];refine⟨aw,⟨off,.inr ⟨gg,es,rfl,aV.trans hb,h5,h6⟩⟩,d',rfl,?_⟩;rw[lH]
   simpa using Ll
  simp only[go_sem,i41_l3,h83,Lv,Lw,h7,aL,nU];refine qN (site:=2625152256) (id:=2625152256) (xs:=[[.int .i64 x.1]]) (rd:=[2625152192]) (gd.of_eq (by simp only[aM,Nat.reduceEqDiff,if_false])) (by simp[ez,aM]) (.inl rfl) (by rw[dO];simp;omega) fun d' bG Ll cU=>?_;simp only[go_sem,h83,Lv,Lw,w1];refine⟨aw,d',rfl,?_⟩;rw[lH]
  simpa using Ll
 have:k=s.length:=aa;subst this;rw[jh] at gd;simp only[go_sem,i41_l3,i41_r4,Lv,Lw,h7,eK];exact tE gd
theorem afL{s:List DL}{c:C}{ak:Env}{aj:aq}(hl:s.length<=400)(he:s.length%2=0)(h3:ak 3=.one c)(hs:zT 2624512448 off s c aj):W S .all i41_r5 (lE .all [(2,none)] (WR (GS s))) ak aj:=by
 cases s with
 |nil=>
  have z0:¬(((0:Nat):Int)>0):=ae;have AT:=hs;rcases hs with ⟨rfl,_⟩|⟨gg,es,rfl,hb,h5,h6⟩
  all_goals
   simp only[dN] at*;simp only[go_sem,i41_r5,h3,z0];refine WT (s:=[]) (bd _) (.inl ⟨off,AT⟩) ?_ ?_ ?_ ?_;all_goals(simp only[go_sem];first|done|rfl)
 |cons x t=>
  rcases hs with ⟨_,e⟩|⟨gg,es,rfl,hb,h5,h6⟩
  .cases e
  rw[cq] at hl he h6;have I1:1<=t.length:=aa;have LG:es[off]?=some [.int .i64 x.1,.bool x.2]:=Nz h5 (k:=0) rfl;have kx:(((t.length+1:Nat)):Int)>0:=aa;have AR:0<t.length+1:=aa;cases hd:x.2 with
  |true=>
   have hr:GS (x::t)=x::t:=by show(if x.2 then _ else _)=_;rw[hd];rfl
   rw[hr];simp only[go_sem,i41_r5,h3,hb,kx,AR,LG,hd,se];refine WT (s:=x::t) (by rw[cq];exact hl) (.inl ⟨off,.inr ⟨gg,es,rfl,hb,h5,by rw[cq];exact h6⟩⟩) ?_ ?_ ?_ ?_;all_goals(simp only[go_sem];first|done|rfl)
  |false=>
   have hr:GS (x::t)=t++[x]:=by show(if x.2 then _ else _)=_;rw[hd];rfl
   rw[hr];simp only[go_sem,i41_r5,h3,hb,kx,AR,LG,hd,se];have ML:=WY h5 1 t.length (by rw[cq];omega);have hv:(es.drop (off+1)).take (t.length+1-1)++[[PV.int .i64 x.1,PV.bool false]]=mX (t++[x]):=by rw[Nat.add_sub_cancel,ML];show mX (t.take t.length)++_=_;rw[jh,show mX (t++[x])=mX t++mX [x] from km ..];show mX t++_=mX t++[[PV.int .i64 x.1,PV.bool x.2]];rw[hd]
   refine aka (off:=off+1) (rd:=[2624832320]) ((aP ae).trans hb) (xs:=[[.int .i64 x.1,.bool false]]) (by simp[ez,aM]) (.inl rfl) (by simp only[cq,dN];omega) aa aa (Nat.lt_succ_self 0) aa ?_;rw[hv];simp only[go_sem,h3];refine⟨aH,WT (s:=t++[x]) (by simp;omega) (.inr rfl) ?_ ?_ ?_ ?_⟩;all_goals(simp only[go_sem];first|done|rfl)
theorem arx{s0:List DL}{c0:C}{DS:Env}{kI:aq}(hl:s0.length<=400)(he:s0.length%2=0)(Iv:DS 3=.one c0)(j8:zT 2624512448 0 s0 c0 kI):W S .all i41_r6 (lE .all [(2,none)] (WR (GS (nC s0.length s0)))) DS kI:=by
 simp only[go_sem,i41_r6];refine cV (fun k ak aj=>∃s c,ak 3=.one c/\zT 2624512448 k s c aj/\s.length+2*k=s0.length/\nC s.length s=nC s0.length s0) 0 s0.length (bd _) ?_ ?_
 .exact⟨s0,c0,Iv,j8,rfl,rfl⟩
 rintro k ak aj hk ⟨s,c,h3,hs,hsl,EA⟩
 cases s with
 |nil=>
  have z0:¬(((0:Nat):Int)>1):=ae;have ht:nC s0.length s0=[]:=EA.symm;have fin:=fun ak aj h=>afL (s:=[]) (c:=c) (ak:=ak) (aj:=aj) (off:=k) (bd _) rfl h;have AT:=hs;rcases hs with ⟨rfl,_⟩|⟨gg,es,rfl,hb,h5,h6⟩
  all_goals
   simp only[dN] at*;simp only[go_sem,i41_l2,h3,z0];refine⟨aH,?_⟩;rw[ht];exact fin _ _ (by simp only[go_sem,h3]) AT
 |cons x t=>
  rcases hs with ⟨_,e⟩|⟨gg,es,rfl,hb,h5,h6⟩
  .cases e
  have I1:t≠[]:=fun e=>by subst e;simp at hsl;omega
  have vf:=gV.2 I1;obtain⟨y,hy1,hy2⟩:=aon I1;rw[cq] at hsl h6;have ys:(x::t)[t.length]?=some y:=by rw[List.getElem?_cons,if_neg aa];exact hy1
  have LG:es[k]?=some [.int .i64 x.1,.bool x.2]:=Nz h5 (k:=0) rfl;have ab2:es[k+t.length]?=some [.int .i64 y.1,.bool y.2]:=Nz h5 ys;have kx:(((t.length+1:Nat)):Int)>1:=aa;have hw:IntKind.i64.wrap (((t.length+1:Nat):Int)-1)=((t.length:Nat):Int):=by have:=wrap_small (n:=t.length) aa;rw[<- this];congr 1;omega
  have AR:0<t.length+1:=aa;have iv:t.length<t.length+1:=aa;have h1l:1<=t.length:=vf;have hle:t.length<=t.length+1:=aa;by_cases e:x.1=y.1
  .have e':(x.1==y.1)=true:=beq_iff_eq.2 e;have qT:k<s0.length:=aa;have aV:nC t.dropLast.length t.dropLast=nC s0.length s0:=by
    rw[<- EA];show _=(if (t.getLast?.map fun y=>y.1)=some x.1 then nC t.length t.dropLast else x::t);rw[hy2,jZ,e,if_pos rfl];exact aua _ _ _ (aX _) (by rw[vG];omega)
   simp only[go_sem,i41_l2,h3,hb,kx,hw,AR,iv,LG,ab2,e',h1l,hle,se];refine⟨aH,qT,t.dropLast,_,rfl,.inr ⟨gg,es,by rw[vG],hb,?_,by rw[vG];omega⟩,by rw[vG];omega,aV⟩;have:=WY h5 1 (t.length-1) (by rw[cq];omega);rw[vG,List.dropLast_eq_take];exact this
  have e':(x.1==y.1)=false:=beq_eq_false_iff_ne.2 e;have aV:nC s0.length s0=x::t:=by rw[<- EA];show(if (t.getLast?.map fun y=>y.1)=some x.1 then nC t.length t.dropLast else x::t)=_;rw[hy2,jZ,if_neg (fun h=>e (qF h).symm)]
  simp only[go_sem,i41_l2,h3,hb,kx,hw,AR,iv,LG,ab2,e',se];refine⟨aH,?_⟩;rw[aV];exact afL (s:=x::t) (off:=k) (by rw[cq];omega) (by rw[cq];omega) (by simp only[go_sem,h3]) (.inr ⟨gg,es,rfl,hb,h5,h6⟩)
section
variable {w:List Int}
theorem arz(hw:w.length<=400)(he:w.length%2=0):aI S 41 [.one (.p (aA w))] (.one (aR pE 1 (iP ((rm w).map (·.1))))):=by
 refine aY c41 ?_;simp only[go_sem,i41];refine cV (fun k ak aj=>ak 10=.one (.p (aA w))/\ak 11=vi w.length/\ak 12=vi k/\ ∃c,ak 3=.one c/\zT 2624512448 0 (rB ((cJ true w).take k)) c aj) 0 w.length (bd _) ?_ ?_
 .simp only[go_sem];exact⟨rfl,.p .nils,rfl,.inl ⟨rfl,rfl⟩⟩
 rintro k ak aj hk ⟨dF,dK,gA,c,h3,hs⟩
 by_cases aw:k<w.length
 .have aL:((k:Int)<(w.length:Int)):=aa;obtain⟨g,hg⟩:=aK aw;have Mj:=mK hg;have w1:=cK (n:=k) aa;have lY:¬((2:Int)=0):=ae;have cE:rB ((cJ true w).take (k+1))=tZ (rB ((cJ true w).take k)) (g,fN true k):=by
   rw[kn,aib hg];exact agJ _ _
  have hsl:(rB ((cJ true w).take k)).length<=k:=ll (Xa _) (by rw[eQ];omega);generalize rB ((cJ true w).take k)=s at cE hs hsl;rcases List.eq_nil_or_concat s with rfl|⟨s0,y,j8⟩
  .have hp:tZ [] (g,fN true k)=[]++[(g,fN true k)]:=rfl;have z0:¬(((0:Nat):Int)>0):=ae;have AT:=hs;rcases hs with ⟨rfl,_⟩|⟨gg,es,rfl,hb,h5,h6⟩
   all_goals
    simp only[dN] at*;simp only[go_sem,i41_l1,h3,dF,dK,gA,aL,Mj,z0,lY,tdl];refine abA (s:=[]) (y:=(g,fN true k)) (rd:=[2624512384]) (AT.of_eq (aP ae)) (by simp[ez,aM,vV,afx]) (.inl rfl) (bd _) fun c' bG gQ cU=>?_;simp only[go_sem,dF,dK,gA,w1];refine⟨aw,c',rfl,?_⟩;rw[cE,hp];exact gQ
  rw[List.concat_eq_append] at j8;have aF:s≠[]:=by rw[j8];simp
  have fA:=gV.2 aF;have jx:s[s.length-1]?=some y:=by rw[j8];simp
  have mH:s.getLast?=some y:=by rw[j8];simp
  have AT:=hs;rcases hs with ⟨_,e⟩|⟨gg,es,rfl,hb,h5,h6⟩
  .exact absurd e aF
  have kx:((s.length:Nat):Int)>0:=aa;have hw:IntKind.i64.wrap ((s.length:Int)-1)=((s.length-1:Nat):Int):=by have:=wrap_small (n:=s.length-1) aa;rw[<- this];congr 1;omega
  have iv:s.length-1<s.length:=aa;have hle:s.length-1<=s.length:=aa;have hJ:es[s.length-1]?=some [.int .i64 y.1,.bool y.2]:=by have:=Nz h5 jx;rw[iD] at this;exact this
  by_cases e:y.1=g
  .have e':(y.1==g)=true:=beq_iff_eq.2 e;have hp:tZ s (g,fN true k)=s.dropLast:=by
    unfold tZ;rw[mH,jZ,e,if_pos rfl]
   simp only[go_sem,i41_l1,h3,dF,dK,gA,hb,aw,aL,Mj,kx,hw,iv,hJ,e',hle,w1];refine⟨_,rfl,?_⟩;rw[cE,hp];refine .inr ⟨gg,es,by rw[vG],hb,?_,by rw[vG];omega⟩;have:=WY h5 0 (s.length-1) aa;rw[vG,List.dropLast_eq_take];exact this
  have e':(y.1==g)=false:=beq_eq_false_iff_ne.2 e;have hp:tZ s (g,fN true k)=s++[(g,fN true k)]:=by unfold tZ;rw[mH,jZ,if_neg (fun h=>e (qF h))]
  simp only[go_sem,i41_l1,h3,dF,dK,gA,hb,aL,Mj,kx,hw,iv,hJ,e',lY,tdl];refine abA (s:=s) (y:=(g,fN true k)) (rd:=[2624512384]) (AT.of_eq (aP ae)) (by simp[ez,aM,vV,afx]) (.inl rfl) aa fun c' bG gQ cU=>?_;simp only[go_sem,dF,dK,gA,w1];refine⟨aw,c',rfl,?_⟩;rw[cE,hp];exact gQ
 have:k=w.length:=aa;subst this;rw[fS (by rw[yM];exact aX _)] at hs;have hl:=Xa (cJ true w);rw[yM] at hl;obtain⟨gs,g1,_,g3⟩:=agP _ w rfl;have dL:(rB (cJ true w)).length%2=0:=by rw[g1,yM];omega
 simp only[go_sem,i41_l1,dK,gA,eK];exact arx aa dL (by simp only[go_sem,h3]) hs
end
theorem afT{w:List Int}{a k:Nat}(ha:a<=w.length)(hk:k<w.length):(fU w a)[k]?=w[(a+k)%w.length]? :=by
 unfold fU;by_cases h1:k<w.length-a
 .rw[pS (by rw[iC];exact h1),r9,gD aa]
 rw[mQ (by rw[iC];omega),iC,jt,if_pos aa];congr 1;rw[show a+k=w.length+(k-(w.length-a)) by omega,Nat.add_mod_left,gD aa]
theorem YY{A B:List Int}{i:Nat}{x y:Int}(h1:A[i]?=some x)(h2:B[i]?=some y):gE (A.drop i) (B.drop i)=if x=y then gE (A.drop (i+1)) (B.drop (i+1)) else x-y:=by obtain⟨a1,rfl⟩:=aS.1 h1;obtain⟨a2,rfl⟩:=aS.1 h2;rw[zY a1,zY a2];rfl
theorem auY{x y:Int}(hx:0<=x/\x<=40)(hy:0<=y/\y<=40):IntKind.i64.wrap (x-y)=x-y:=by simp only[IntKind.wrap,IntKind.bits,IntKind.signed];simp;omega
theorem szI(o:List Int):gC 1 (iP o)=true:=by simp[gC]
section
variable {w:List Int}
theorem aoy(aF:w≠[])(hl:w.length<=400)(hg:∀g∈w,0<=g/\g<=40){a b:Nat}(ha:a<=w.length)(hb:b<=w.length):aI S 68 [vi (a:Nat),vi (b:Nat),.one (.p (.box [.int .i64 w.length])),.one (.p (.box [aA w]))] (ri (gE (fU w a) (fU w b))):=by
 have fA:=gV.2 aF;have hz:¬((w.length:Int)=0):=aa;refine aY c68 ?_;simp only[go_sem,i68];refine cV (fun k ak aj=>ak 0=vi (a:Nat)/\ak 1=vi (b:Nat)/\ak 2=.one (.p (.box [.int .i64 w.length]))/\ak 3=.one (.p (.box [aA w]))/\ak 10=vi w.length/\ak 11=vi k/\gE (fU w a) (fU w b)=gE ((fU w a).drop k) ((fU w b).drop k)) 0 w.length (bd _) ?_ ?_
 .simp only[go_sem];rfl
 rintro k ak aj hk ⟨h0,h1,h2,h3,dF,dK,hc⟩
 by_cases aw:k<w.length
 .have aL:((k:Int)<(w.length:Int)):=aa;have w1:=cK (n:=k) aa;have wa:=wrap_add (a:=a) (b:=k) aa;have wb:=wrap_add (a:=b) (b:=k) aa;have ta:=yC (a+k) w.length;have tb:=yC (b+k) w.length;have ma:=dQ (a+k) fA;have mb:=dQ (b+k) fA;obtain⟨x,hx⟩:=aK ma;obtain⟨y,hy⟩:=aK mb;have nU:=mK hx;have hyp:=mK hy;have wy:=hg x (aU hx);have u6:=hg y (aU hy);have hd:=YY ((afT ha aw).trans hx) ((afT hb aw).trans hy);have wd:=auY wy u6;by_cases e:x=y
  .have e':(x !=y)=false:=by simp[e]
   rw[if_pos e] at hd;simp only[go_sem,i68_l1,h0,h1,h2,h3,dF,dK,aw,aL,wa,wb,hz,ta,tb,nU,hyp,e',w1];exact⟨aH,hc.trans hd⟩
  have e':(x !=y)=true:=by simpa using e
  rw[if_neg e] at hd;have hr:=hc.trans hd;simp only[go_sem,i68_l1,h0,h1,h2,h3,dF,dK,aL,wa,wb,hz,ta,tb,nU,hyp,e',wd,hr];exact aH
 have:k=w.length:=aa;subst this;have hr:gE (fU w a) (fU w b)=0:=by rw[hc,NS (by rw[wT];exact aX _)];rfl
 simp only[go_sem,i68_l1,i68_r2,dF,dK,eK,hr]
theorem aoR(w:List Int){j:Nat}(h:¬2*(j+1)<w.length):∀d,jL w (j+d)=jL w j:=by
 intro d
 induction d with
 |zero=>rfl
 |succ d ih=>show jL w (j+d+1)=_;rw[jL,if_neg (fun hh=>h aa),ih]
theorem adZ(aF:w≠[])(hl:w.length<=400)(hg:∀g∈w,0<=g/\g<=40):aI S 42 [.one (.p (aA w))] (.one (aR pE 1 (iP (fD w)))):=by
 have fA:=gV.2 aF;refine aY c42 ?_;simp only[go_sem,i42];refine cV (fun j ak aj=>ak 1=.one (.bk 2688000000 1 0)/\ak 3=.one (.bk 2688064128 1 0)/\ak 5=.one (.hfn 68 [] [.bk 2688064128 1 0,.bk 2688000000 1 0])/\aj 2688000000=(1,some (.var [.p (aA w)]))/\aj 2688064128=(1,some (.var [.p (.int .i64 w.length)]))/\ak 4=vi (jL w j)/\ak 6=vi ((2*(j+1):Nat):Int)) 0 (w.length/2) (bd _) ?_ ?_
 .simp only[go_sem];exact⟨rfl,rfl⟩
 rintro j ak aj hj ⟨h1,h3,h5,b0,b1,h4,h6⟩
 obtain⟨f1,f2⟩:=ad7 w j;have rR:jL w j<=w.length:=aa;by_cases aw:2*(j+1)<w.length
 .have aL:(((2*(j+1):Nat):Int)<(w.length:Int)):=aa;have pc:=aoy aF hl hg (a:=2*(j+1)) (b:=jL w j) aa rR;have w2:IntKind.i64.wrap (((2*(j+1):Nat):Int)+2)=((2*(j+1+1):Nat):Int):=by
   have:=wrap_small (n:=2*(j+1+1)) aa;rw[<- this];congr 1
  have cE:jL w (j+1)=if gE (fU w (2*(j+1))) (fU w (jL w j))<0 then 2*(j+1) else jL w j:=by
   rw[jL];by_cases h:gE (fU w (2*(j+1))) (fU w (jL w j))<0
   .rw[if_pos ⟨aw,h⟩,if_pos h]
   rw[if_neg (fun hh=>h hh.2),if_neg h]
  by_cases h:gE (fU w (2*(j+1))) (fU w (jL w j))<0
  .rw[if_pos h] at cE;simp only[go_sem,i42_l1,h1,h3,h4,h5,h6,b0,b1,aL,s68,eH pc,h,w2,cE];omega
  rw[if_neg h] at cE;simp only[go_sem,i42_l1,h1,h3,h4,h5,h6,b0,b1,aL,s68,eH pc,h,w2,cE];omega
 have aL:¬(((2*(j+1):Nat):Int)<(w.length:Int)):=aa;have he:fD w=fU w (jL w j):=by unfold fD;obtain⟨d,hd⟩:∃d,w.length/2=j+d:=⟨w.length/2-j,aa⟩;rw[hd,aoR w aw]
 rw[he];have CN:gC 1 (iP w)=true:=szI w;have hnf:¬¬jL w j<=w.length:=fun h=>h rR;have hff:jL w j<w.length:=aa;generalize jL w j=f at*;have e1:(iP w).drop f=iP (w.drop f):=(List.map_drop ..).symm;have e2:((iP w).drop f).take (w.length-f)=iP (w.drop f):=by rw[e1,fS af]
 have e3:((iP w).drop 0).take (f-0)=iP (w.take f):=by rw[Nat.sub_zero,List.drop_zero];exact(Hj ..).symm
 have h0f:¬¬0<=f:=fun h=>h (bd _);simp only[go_sem,i42_l1,i42_r2,h1,h3,h4,h6,b0,b1,aL,hnf,CN,e2];refine xz (site:=2688576192) (id:=2688576192) (z:=1) (ty:=pE) (bytes:=8) (xs:=iP (w.drop f)) (rd:=[]) grown.nil rfl (.inr (szI _)) (by simp;omega) fun c' bG r1 u1 gc cU ky=>?_;have b0':=(cU 2688000000 ae ae).trans b0;have h0f':¬¬(0:Nat)<=f:=fun h=>h (bd _);simp only[go_sem,h1,h4,b0',rR,CN];have e4:(iP w).take f=iP (w.take f):=(Hj ..).symm;rw[e4];refine xz (site:=2688576448) (id:=2688576192) (z:=1) (ty:=pE) (bytes:=8) (xs:=iP (w.take f)) (rd:=[]) gc rfl (.inr (szI _)) (by simp;omega) fun c2 aZ r2 u2 rO aV sN=>?_;simp only[go_sem];refine⟨?_,?_⟩
 .rcases ky with ⟨rfl,rfl⟩|⟨rfl,rfl⟩|⟨rfl,rfl⟩<;>rcases sN with ⟨rfl,rfl⟩|⟨rfl,rfl⟩|⟨rfl,rfl⟩<;>kernel_rfl
 have e5:iP (fU w f)=[]++iP (w.drop f)++iP (w.take f):=by rw[fp];exact km ..
 rw[e5];exact tE rO
end
theorem ajB{w:List Int}(aF:w≠[])(hl:w.length<=1000000):aI S 69 [.one (.p (aA w))] (.one (aR pE 1 (iP w))):=by
 have hs:=szI w;have hr:(0+(iP w).length)*8<=room:=by unfold room;rw[cF];omega
 obtain⟨e0,es,hq⟩:∃e0 es,iP w=e0::es:=by
  cases w with
  |nil=>exact absurd rfl aF
  |cons g t=>exact⟨_,_,rfl⟩
 unfold aA;rw[hq] at hs hr ⊢;refine aY c69 ?_;have aF:e0::es≠[]:=af;have qj:aR pE 1 (e0::es)=.own pE 1 (e0::es):=if_neg aF;rw[qj];unfold room at hr;simp only[iD,cq] at hr;simp only[gC,lk] at hs;simp only[go_sem,i69,fj,gC];simp only[hs,hr,not_true_eq_false,if_true,if_false];simp only[go_sem];exact Nl sZ rfl
theorem apJ(w:List Int):∀e∈iP w,e.length=1/\ ∀v∈e,v.norm=v:=by intro e he;obtain⟨g,_,rfl⟩:=dq.1 he;exact⟨rfl,fun v hv=>by rw[mR.1 hv];rfl⟩
theorem GX(w:List Int):((iP w).all fun e=>e.all PV.scalar)=true:=by rw[jf];intro e he;obtain⟨m,_,rfl⟩:=dq.1 he;rfl
theorem arM{w:List Int}(aF:w≠[])(hl:w.length<=1000000):aI S 43 [.one (.p (aA w))] (.one (aR pE 1 (iP w.reverse))):=by have pc:=ajB aF hl;have lo:S.lone 2752064064=false:=ah;refine aY c43 ?_;simp only[go_sem,i43,s69];refine lW pc lo (.inl rfl) fun c bG gc hb=>?_;simp only[go_sem,s70];refine abK (f:=70) (es:=iP w) (ty:=pE) (z:=1) (fun o h=>afS o (by simpa using hl) (apJ w) h) gc fun aZ rO aV=>?_;simp only[go_sem];have e:iP w.reverse=(iP w).reverse:=List.map_reverse ..;rw[e];exact tE rO
def yz(z:Int):Int:=if z<0 then -1 else if z=0 then 0 else 1
theorem aeF(x:Int):aI S 90 [vi x] (rb false):=by have h:(x !=x)=false:=af;refine aY c90 ?_;simp only[go_sem,i90,h]
theorem ajF(x y:Int):aI S 71 [vi x,vi y] (ri (yz (x-y))):=by
 have p1:=aeF x;have p2:=aeF y;unfold yz;refine aY c71 ?_;by_cases h1:x<y
 .have sF:x-y<0:=aa;simp only[go_sem,i71,s90,cS p1,cS p2,h1,sF]
 have sF:¬x-y<0:=aa;by_cases h2:x>y
 .have mz:¬x-y=0:=aa;simp only[go_sem,i71,s90,cS p1,cS p2,h1,sF,h2,mz]
 have mz:x-y=0:=aa;simp only[go_sem,i71,s90,cS p1,cS p2,h1,h2,mz]
theorem ajM{a b:List Int}(he:a.length=b.length)(hl:a.length<=1000000):aI S 44 [.one (.p (aA a)),.one (.p (aA b))] (ri (yz (gE a b))):=by
 refine aY c44 ?_;simp only[go_sem,i44];refine cV (fun k ak aj=>ak 0=.one (.p (aA a))/\ak 1=.one (.p (aA b))/\ak 9=.one (.p (aA a))/\ak 10=vi a.length/\ak 11=vi k/\gE a b=gE (a.drop k) (b.drop k)) 0 a.length (bd _) ?_ ?_
 .simp only[go_sem];rfl
 rintro k ak aj hk ⟨h0,h1,h9,dF,dK,hc⟩
 by_cases aw:k<a.length
 .have aL:((k:Int)<(a.length:Int)):=aa;have amZ:k<b.length:=aa;have nN:¬(k:Int)≥(b.length:Int):=aa;have w1:=cK (n:=k) aa;obtain⟨x,hx⟩:=aK aw;obtain⟨y,hy⟩:=aK amZ;have nU:=mK hx;have hyp:=mK hy;have hd:=YY hx hy;have pc:=ajF x y;by_cases e:x=y
  .rw[if_pos e] at hd;have e0:yz (x-y)=0:=by rw[e,Int.sub_self];rfl
   rw[e0] at pc;have z0:((0:Int)!=0)=false:=rfl;simp only[go_sem,i44_l1,h0,h1,h9,dF,dK,aw,aL,nN,nU,hyp,s71,eH pc,z0,w1];exact hc.trans hd
  rw[if_neg e] at hd;have hr:gE a b=x-y:=hc.trans hd;have z0:(yz (x-y)!=0)=true:=by
   have:yz (x-y)≠0:=by
    unfold yz;split
    .decide
    rw[if_neg aa];decide
   simpa using this
  simp only[go_sem,i44_l1,h1,h9,dF,dK,aL,nN,nU,hyp,s71,eH pc,z0,hr]
 have:k=a.length:=aa;subst this;have hr:gE a b=0:=by rw[hc,Hg];rfl
 have nN:¬(a.length:Int)<(b.length:Int):=aa;have s0:yz 0=0:=rfl;simp only[go_sem,i44_l1,i44_r2,h0,h1,dF,dK,eK,nN,hr,s0]
theorem akR{a:List Int}(hl:a.length<=1000000):aI S 23 [.one (.p (aA a)),.one (.p (aA a))] (rb true):=by
 have hn:((a.length:Int)!=(a.length:Int))=false:=af;refine aY c23 ?_;simp only[go_sem,i23,hn];refine cV (fun k ak aj=>ak 0=.one (.p (aA a))/\ak 1=.one (.p (aA a))/\ak 12=vi a.length/\ak 13=vi k) 0 a.length (bd _) ?_ ?_
 .simp only[go_sem];rfl
 rintro k ak aj hk ⟨h0,h1,gA,qf⟩
 by_cases aw:k<a.length
 .have aL:((k:Int)<(a.length:Int)):=aa;have w1:=cK (n:=k) aa;obtain⟨x,hx⟩:=aK aw;have nU:=mK hx;have MU:(x !=x)=false:=af;simp only[go_sem,i23_l1,h0,h1,gA,qf,aw,aL,nU,MU,w1];exact aH
 have:k=a.length:=aa;subst this;simp only[go_sem,i23_l1,i23_r2,gA,qf,eK]
theorem atA(l:List DL):∀x∈rB l,x∈l:=by
 suffices h:∀(l s:List DL),∀x∈l.foldl tZ s,x∈s\/x∈l by
  intro x hx;rcases h l [] x hx with h|h
  .cases h
  exact h
 intro l
 induction l with
 |nil=>intro s x hx;exact .inl hx
 |cons y l ih=>
  intro s x hx;rcases ih _ x hx with h|h
  .unfold tZ at h;split at h
   .exact .inl ((List.dropLast_sublist _).subset h)
   rcases eF.1 h with h|h
   .exact .inl h
   exact .inr (by rw[mR.1 h];exact Hl ..)
  exact .inr (w6 _ h)
theorem at6:∀(n:Nat) (s:List DL),(nC n s).length<=s.length/\ ∀x∈nC n s,x∈s:=by
 intro n
 induction n with
 |zero=>intro s;exact⟨aX _,fun x h=>h⟩
 |succ n ih=>
  intro s;cases s with
  |nil=>exact⟨aX _,fun x h=>h⟩
  |cons y t=>
   show(if (t.getLast?.map fun y=>y.1)=some y.1 then nC n t.dropLast else y::t).length<=_/\ ∀x∈(if (t.getLast?.map fun y=>y.1)=some y.1 then nC n t.dropLast else y::t),_;split
   .obtain⟨h1,h2⟩:=ih t.dropLast;rw[vG] at h1;exact⟨by rw[cq];omega,fun x hx=>w6 _ ((List.dropLast_sublist _).subset (h2 x hx))⟩
   exact⟨aX _,fun x h=>h⟩
theorem arQ(s:List DL):(GS s).length=s.length/\ ∀x∈GS s,x∈s:=by
 cases s with
 |nil=>exact⟨rfl,fun x h=>h⟩
 |cons y t=>
  show(if y.2 then y::t else t++[y]).length=_/\ ∀x∈(if y.2 then y::t else t++[y]),_;split
  .exact⟨rfl,fun x h=>h⟩
  refine⟨af,fun x hx=>?_⟩;rcases eF.1 hx with h|h
  .exact w6 _ h
  rw[mR.1 h];exact Hl ..
theorem afH(w:List Int):((rm w).map (·.1)).length<=w.length/\ ∀g∈(rm w).map (·.1),g∈w:=by unfold rm;obtain⟨h1,h2⟩:=arQ (nC (rB (cJ true w)).length (rB (cJ true w)));obtain⟨h3,h4⟩:=at6 (rB (cJ true w)).length (rB (cJ true w));have h5:=Xa (cJ true w);rw[yM] at h5;refine⟨by rw[cF];omega,fun g hg=>?_⟩;obtain⟨x,hx,rfl⟩:=dq.1 hg;have:=atA _ x (h4 x (h2 x hx));rw[<- BI true w];exact dq.2 ⟨x,this,rfl⟩
section
variable {w:List Int}
theorem ad9(h:Cl w):aI S 24 [.one (.p (aA w))] (.one (aR pE 1 (iP (vp w)))):=by
 have pr:=arz h.len h.even;obtain⟨m1,m2⟩:=afH w;have kA:S.lone 1536064064=false:=ah;have pG:S.lone 1536256064=false:=ah;have lo3:S.lone 1536256192=false:=ah;have lo4:S.lone 1536256256=false:=ah;have hn:vp w=if (rm w).map (·.1)=[] then [] else if gE (fD ((rm w).map (·.1)).reverse) (fD ((rm w).map (·.1)))<0 then fD ((rm w).map (·.1)).reverse else fD ((rm w).map (·.1)):=rfl;rw[hn];generalize (rm w).map (·.1)=r at*;have hrl:r.length<=400:=ll m1 h.len;have hrg:∀g∈r,0<=g/\g<=40:=fun g hg=>h.gate g (m2 g hg);refine aY c24 ?_;simp only[go_sem,i24,s41];refine lW pr kA (.inl rfl) fun c bG gc hb=>?_;rcases gc with ⟨e,e2⟩|⟨aF,gg,e2,nM⟩
 .have hr:r=[]:=NV.1 e;subst hr;cases e2;have z0:(((0:Nat):Int)==0)=true:=rfl;simp only[go_sem,z0];rfl
 cases e2;have aF:r≠[]:=fun e=>aF (by rw[e];rfl);have hz:((r.length:Int)==0)=false:=beq_eq_false_iff_ne.2 (by have:=gV.2 aF;omega);have Mp:(iP r).length=r.length:=af;have EA:(iP r).take r.length=iP r:=fS af;have htv:(iP r.reverse).take r.length=iP r.reverse:=fS af;have acz:r.reverse≠[]:=by simpa using aF
 rw[if_neg aF];have pa:=adZ aF hrl hrg;have pv:=arM aF aa;have pb:=adZ acz (by simpa using hrl) (fun g hg=>hrg g (List.mem_reverse.1 hg));have pc:=ajM (a:=fD r.reverse) (b:=fD r) (by unfold fD;rw[wT,wT,qD]) (by unfold fD;rw[wT,qD];omega);have Et:iP r.reverse≠[]:=fun e=>acz (NV.1 e);simp only[go_sem,Mp,nM,hz,EA,s42];refine lW pa pG (.inr (nI (GX _))) fun ca aZ ga aV=>?_;have b2:=(aV 1536064064 ae).trans nM;simp only[go_sem,b2,Mp,EA,s43];refine lW pv lo3 (.inr (nI (GX _))) fun cv fG gv eW=>?_;rcases gv with ⟨e,_⟩|⟨_,gg3,e3,As⟩
 .exact absurd e Et
 cases e3;have ql:(iP r.reverse).length=r.length:=af;have ga3:=ga.of_eq (eW _ ae);simp only[go_sem,As,ql,htv,s42];refine lW pb lo4 (.inr (nI (GX _))) fun cb iE gb jv=>?_;have ga4:=ga3.of_eq (jv _ ae);obtain⟨ra,hsa,uA⟩:=ga4.eL;obtain⟨rb,hsb,qo⟩:=gb.eL;by_cases hc:gE (fD r.reverse) (fD r)<0
 .rw[if_pos hc];have hs:yz (gE (fD r.reverse) (fD r))<0:=by unfold yz;rw[if_pos hc];decide
  simp only[go_sem,hsa,hsb,s44,eH pc,hs];exact tE gb
 rw[if_neg hc];have hs:¬yz (gE (fD r.reverse) (fD r))<0:=by unfold yz;rw[if_neg hc];split<;>decide
 simp only[go_sem,hsa,hsb,s44,eH pc,hs];exact tE ga4
theorem apN(w:List Int):(vp w).length<=w.length:=by
 obtain⟨m1,_⟩:=afH w;show(if (rm w).map (·.1)=[] then [] else if gE (fD ((rm w).map (·.1)).reverse) (fD ((rm w).map (·.1)))<0 then fD ((rm w).map (·.1)).reverse else fD ((rm w).map (·.1))).length<=_;generalize (rm w).map (·.1)=r at*;split
 .exact bd _
 split
 .unfold fD;rw[wT,qD];exact m1
 unfold fD;rw[wT];exact m1
theorem ao0{v:List Int}(hv:Cl v)(hw:Cl w)(e:vp v=vp w):aI S 7 [.one (.p (aA v)),.one (.p (aA w))] (vu (.bool true) (.int .i64 0)):=by
 have pk:=ajw [v,w] af (fun x hx=>by
  rcases cM.1 hx with rfl|hx
  .exact hv
  rw[mR.1 hx];exact hw)
 have pk:aI S 22 [.one (.p (.sl [[aA v],[aA w]]))] (ri 0):=pk;have pv:=ad9 hv;have pw:=ad9 hw;have hl:=apN w;have mH:=hw.len;have pe:=akR (a:=vp w) aa;rw[e] at pv;have kA:S.lone 448256064=false:=ah;have pG:S.lone 448256192=false:=ah;have z0:((0:Int)!=0)=false:=rfl;refine aY c7 ?_;simp only[go_sem,i7,s22,eH pk,z0,s24];refine lW pv kA (.inl rfl) fun c1 bG g1 cU=>?_;simp only[go_sem,s24];refine lW pw pG (.inl rfl) fun c2 aZ g2 aV=>?_;have g12:=g1.of_eq (aV _ ae);obtain⟨r1,gQ,ky⟩:=g12.eL;obtain⟨r2,eh,sN⟩:=g2.eL;simp only[go_sem,gQ,eh,s23,cS pe];rfl
end
def dE(ls:List Let):List Int:=(ls.filter Let.aA).map (·.gate)
theorem auT{ls:List Let}{k:Nat}{x:Let}(h:ls[k]?=some x):dE (ls.take (k+1))=dE (ls.take k)++(if x.aA then [x.gate] else []):=by unfold dE;rw[kn,h,NT,km];cases hp:x.aA<;>simp[List.filter,hp]
theorem arq{f:Int}{ls:List Let}(h:cN f ls=0):∃f' x2 x3 x4 x5 x6,GR f ls=vu (dgP f' ls x2 x3 x4 x5 x6) (.int .i64 0):=by
 rw[JH h];by_cases hl:ls=[]
 .subst hl;exact⟨_,_,_,_,_,_,rfl⟩
 rw[if_neg hl];exact⟨_,_,_,_,_,_,rfl⟩
theorem ahn{f:Int}{ls:List Let}(h:cN f ls=0)(hl:ls.length<=1000000):aI S 6 [eY f ls] (.tup [.one (aR pE 1 (iP (dE ls))),.one (.p (.int .i64 0))]):=by
 have pr:=Nw f ls hl;obtain⟨f',x2,x3,x4,x5,x6,e⟩:=arq h;rw[e] at pr;have z0:((0:Int)!=0)=false:=rfl;refine aY c6 ?_;simp only[go_sem,i6,s21,cX pr ia,z0];refine cV (fun k ak aj=>ak 21=.one (.p (cP ls))/\ak 22=vi ls.length/\ak 23=vi k/\ ∃c,ak 6=.one c/\grown 384576256 pE 1 (iP (dE (ls.take k))) (.one c) aj) 0 ls.length (bd _) ?_ ?_
 .simp only[go_sem];exact⟨rfl,.p .nils,rfl,grown.nil⟩
 rintro k ak aj hk ⟨qO,kY,jk,c,h6,gc⟩
 by_cases aw:k<ls.length
 .obtain⟨x,dV⟩:=aK aw;have hi:=mL dV;have aL:((k:Int)<(ls.length:Int)):=aa;have w1:=cK (n:=k) aa;have hs:=auT dV;have lI:(iP (dE (ls.take k))).length<=k:=by
   unfold dE;rw[cF,cF];have:=List.length_filter_le Let.aA (ls.take k);rw[eQ] at this;omega
  cases hc:(x.kind==1) with
  |true=>
   have hp:x.aA=true:=hc;rw[hp] at hs;simp only[go_sem,i6_l1,qO,kY,jk,h6,hi,Let.ps,aL,hc];refine qN (site:=384576256) (id:=384576256) (xs:=[[.int .i64 x.gate]]) (rd:=[384576192]) (gc.of_eq (by simp only[aM,Nat.reduceEqDiff,if_false])) (by simp[ez,aM]) (.inl rfl) (by simp only[cq,dN];omega) fun d' bG Ll cU=>?_;simp only[go_sem,qO,kY,jk,w1];refine⟨aw,d',rfl,?_⟩;rw[hs]
   simpa using Ll
  |false=>
   have hp:x.aA=false:=hc;rw[hp] at hs;simp only[go_sem,i6_l1,qO,kY,jk,h6,hi,Let.ps,aw,aL,hc,w1];refine⟨c,rfl,?_⟩;rw[hs]
   simpa using gc.of_eq (by simp only[aM,Nat.reduceEqDiff,if_false])
 have:k=ls.length:=aa;subst this;rw[jh] at gc;simp only[go_sem,i6_l1,i6_r2,kY,jk,h6,eK];exact xD gc
def lO(w:List Int):Nat->Int->Int
 |0,_=>0
 |n+1,j=>lO w n j+(if w.getD n 0<=j then (if n%2=0 then 1 else -1) else 0)
theorem ahj(w:List Int)(j:Int):∀n:Nat,-(n:Int)<=lO w n j/\lO w n j<=n:=by
 intro n
 induction n with
 |zero=>exact⟨Int.le_refl _,Int.le_refl _⟩
 |succ n ih=>
  unfold lO;split
  .split<;>omega
  omega
def oF(k:Nat)(w:List Int):List Int:=(List.range k).map fun j:Nat=>lO w w.length (j:Int)
def pR(k:Nat)(w:List Int)(n m:Nat):List Int:=(List.range k).map fun j:Nat=>if j<m then lO w (n+1) j else lO w n j
theorem Rk{k n m:Nat}{w:List Int}{j:Nat}(h:j<k):(pR k w n m)[j]?=some (if j<m then lO w (n+1) j else lO w n j):=by simp[pR,h]
theorem ahk{k n m:Nat}{w:List Int}(h:m<k):(pR k w n m).set m (lO w (n+1) m)=pR k w n (m+1):=by
 apply vF;intro i;rw[oI];by_cases hi:i<k
 .rw[Rk hi,Rk hi];by_cases e:m=i
  .subst e;rw[if_pos rfl,if_pos (by simp[pR];exact h),if_pos aa]
  rw[if_neg e];by_cases h2:i<m
  .rw[if_pos h2,if_pos aa]
  rw[if_neg h2,if_neg aa]
 have e:m≠i:=aa;rw[if_neg e];have:∀m,(pR k w n m)[i]?=none:=fun m=>lS (by simp[pR];omega);rw[this,this]
theorem auM(k:Nat)(w:List Int)(n:Nat)(m:Nat)(hm:∀j,j<m->lO w (n+1) (j:Nat)=lO w n (j:Nat)):pR k w n 0=pR k w n m:=by
 unfold pR;refine vH fun j _=>?_;rw[if_neg (qE j)];split
 .rename_i h;rw[hm j h]
 rfl
theorem auL(k:Nat)(w:List Int)(n:Nat):pR k w n k=pR k w (n+1) 0:=by unfold pR;refine vH fun j hj=>?_;rw[if_pos (fm.1 hj),if_neg (qE j)]
theorem XC{z:Int}(h: -100000<=z/\z<=100000):IntKind.i64.wrap z=z:=by simp only[IntKind.wrap,IntKind.bits,IntKind.signed];simp;omega
theorem abI{Q:dy}{ak:Env}{aj:aq}{os:List bl}{d:Option Nat}{f:Nat}{vs:List V}{s ty z:Nat}{rd:List Nat}{es:List (List PV)}{x:PV}(hp:aI S f vs (.tup [.one (.own ty z es),.one (.p x)]))(dZ:S.lone s=false)(hs:(es.all fun e=>e.all PV.scalar)=true)(hx:x.scalar=true)
  (hK:∀ao g,ao s=(g,some (.arr ty z es))->(∀i,i≠s->ao i=aj i)->RN S .all os Q (put ak d (.tup [.one (.hsl s g z 0 es.length),.one (.p x)])) ao):gP S .all (.pc f vs rd s) d os Q ak aj:=by
 refine(cX (v:=.tup [.one (.hsl s ((aj s).1+1) z 0 es.length),.one (.p x)]) (u:=[(s,((aj s).1+1,some (.arr ty z es)))]) hp ?_).2 (hK _ _ sZ fun i hi=>aP hi);rw[dZ,sV];have iK:(RV.tup [.one (.own ty z es),.one (.p x)]).alone=true:=by simp only[RV.alone,gk,kL,gI,jg,fp,jR,lk,oG,vD,RC.alone,hs,Ds];exact hx
 unfold land;rw[if_pos (.inr iK)];simp[jm,gk,kL,gI,iU,qB,pM,lN,cD]
theorem ahl{k:Nat}(hk:k<=40){w:List Int}(h:Cl w)(hg:∀g∈w,g<=k):aI S 8 [vi k,.one (.p (aA w))] (.tup [.one (.own pE 1 (iP (oF k w))),.one (.p (.int .i64 0))]):=by
 have pc:=aju (k:=(k:Int)) aa h hg;have z0:((0:Int)!=0)=false:=rfl;have hlen:=h.len;have Gg:(k:Nat)*8<=140737488355328:=aa;have ve:List.replicate k [PV.int .i64 0]=iP (pR k w 0 0):=by
  apply vF;intro i;by_cases hi:i<k
  .rw[List.getElem?_replicate,if_pos hi,fR,Rk hi];rfl
  rw[List.getElem?_replicate,if_neg hi,lS (by simp[pR];omega)]
 refine aY c8 ?_;simp only[go_sem,i8,s25,eH pc,z0,Gg,ve];refine cV (fun n ak aj=>ak 0=vi k/\ak 21=.one (.p (aA w))/\ak 22=vi w.length/\ak 23=vi n/\ak 7=.one (.bk 512256064 1 0)/\aj 512256064=(1,some (.var [.p (.int .i64 1),.p (.int .i64 (-1))]))/\ak 8=.one (.hsl 512320064 1 1 0 k)/\aj 512320064=(1,some (.arr pE 1 (iP (pR k w n 0))))) 0 w.length (bd _) ?_ ?_
 .simp only[go_sem];rfl
 rintro n ak aj hn ⟨h0,qO,kY,jk,h7,b7,h8,b8⟩
 by_cases aw:n<w.length
 .have aL:((n:Int)<(w.length:Int)):=aa;obtain⟨g,hgk⟩:=aK aw;have Mj:=mK hgk;have CA:=aU hgk;have Mi:=h.gate g CA;have Ek:=hg g CA;obtain⟨gn,rfl⟩:=r8 Mi.1;have w1:=cK (n:=gn) aa;have wn:=cK (n:=n) aa;have wx:w.getD n 0=(gn:Int):=by rw[de,hgk];rfl
  have hz:pR k w n 0=pR k w n gn:=auM k w n gn fun j hj=>by rw[lO,wx,if_neg aa,Int.add_zero]
  rw[hz] at b8;simp only[go_sem,i8_l3,qO,kY,jk,aL,Mj,w1];refine cV (fun m ak aj=>ak 0=vi k/\ak 21=.one (.p (aA w))/\ak 22=vi w.length/\ak 23=vi n/\ak 9=vi n/\ak 7=.one (.bk 512256064 1 0)/\aj 512256064=(1,some (.var [.p (.int .i64 1),.p (.int .i64 (-1))]))/\ak 8=.one (.hsl 512320064 1 1 0 k)/\ak 11=vi ((m+1:Nat):Int)/\gn<=m/\aj 512320064=(1,some (.arr pE 1 (iP (pR k w n m))))) gn k aa ?_ ?_
  .simp only[go_sem,h0,qO,kY,jk,h7,h8,b7];first|exact⟨aX _,b8⟩|exact b8
  clear h0 qO kY jk h7 b7 h8 b8;rintro m ak aj hm ⟨h0,qO,kY,jk,h9,h7,b7,h8,dK,hgm',b8⟩
  by_cases wD:m<k
  .have hle:((m+1:Nat):Int)<=(k:Int):=aa;have wm:IntKind.i64.wrap (((m+1:Nat):Int)-1)=((m:Nat):Int):=by
    have:=wrap_small (n:=m) aa;rw[<- this];congr 1;omega
   have wm2:=cK (n:=m+1) aa;have tJ:gn<=m+1:=aa;have hJ:(iP (pR k w n m))[m]?=some [.int .i64 (lO w n m)]:=by rw[mK (Rk wD),if_neg (Nat.lt_irrefl m)]
   have hb:=ahj w (m:Int) n;have lY:¬((2:Int)=0):=ae;have tM:n%2<2:=dQ _ ae;rcases xf n with e|e
   .have hs:lO w (n+1) m=lO w n m+1:=by rw[lO,wx,if_pos aa,if_pos e]
    have ww:IntKind.i64.wrap (lO w n m+1)=lO w (n+1) m:=by rw[hs];exact XC aa
    have hse:=ahk (n:=n) (w:=w) wD;simp only[go_sem,i8_l1,h0,qO,kY,jk,h7,b7,h8,b8,h9,dK,hle,wm,wm2,wD,hJ,lY,tdl,e,ww,MX,hse,tJ];exact aH
   have hs:lO w (n+1) m=lO w n m+ -1:=by rw[lO,wx,if_pos aa,if_neg aa]
   have ww:IntKind.i64.wrap (lO w n m+ -1)=lO w (n+1) m:=by rw[hs];exact XC aa
   have hse:=ahk (n:=n) (w:=w) wD;simp only[go_sem,i8_l1,h0,qO,kY,jk,h7,b7,h8,b8,h9,dK,hle,wm,wm2,wD,hJ,lY,tdl,e,ww,MX,hse,tJ];exact aH
  have:m=k:=aa;subst this;have hle:¬((m+1:Nat):Int)<=(m:Int):=aa;rw[auL] at b8;simp only[go_sem,i8_l1,i8_r2,h0,qO,kY,jk,h7,b7,h8,b8,dK,hle,wn,aw]
 have:n=w.length:=aa;subst this;have hf:pR k w w.length 0=oF k w:=vH fun j _=>if_neg (qE j);rw[hf] at b8;have hlf:(iP (oF k w)).length=k:=by simp[oF]
 simp only[go_sem,i8_l3,i8_r4,kY,jk,h8,eK];have ht:(iP (oF k w)).take k=iP (oF k w):=fS (BC hlf);have dO:k<=(iP (oF k w)).length:=BC hlf.symm;simp[iA,rK,tD,my,lM,jc,b8,ht,hlf,apart,ud,yx,rq,pE]
theorem U4{F:Nat}{ls:List Let}(h:cN (F:Int) ls=0):Cl (dE ls)/\ ∀g∈dE ls,g<=(F:Int):=by
 by_cases aF:ls=[]
 .subst aF;exact⟨⟨rfl,bd _,fun g hg=>(by cases hg)⟩,fun g hg=>(by cases hg)⟩
 obtain⟨F',e,g⟩:=vY h aF;have:F=F':=aa;subst this;have hf:=g.fing;have hl:(dE ls).length=ay Let.aA ls:=by unfold dE ay;rw[cF,Kp]
 have hle:ay Let.aA ls<=ls.length:=Kq;have hg:∀x∈dE ls,0<=x/\x<=(F:Int):=by intro x hx;obtain⟨l,hl,rfl⟩:=dq.1 hx;obtain⟨h1,h2⟩:=uM.1 hl;have wx:=g.ok.ax.eU l h1 h2;exact⟨wx.g0,wx.g1⟩
 refine⟨⟨by rw[hl];exact g.even,by have:=g.len;omega,fun x hx=>?_⟩,fun x hx=>(hg x hx).2⟩;have:=hg x hx;omega
theorem auJ{k:Nat}{w:List Int}(h:w.length<=400):∀x∈oF k w,-400<=x/\x<=400:=by intro x hx;obtain⟨j,_,rfl⟩:=dq.1 hx;have:=ahj w (j:Int) w.length;omega
def dT(l:List Pc):List DL:=(l.filter fun p=>p.l.aA).map fun p=>(p.l.gate,p.d)
theorem sE(a b:List Pc):dT (a++b)=dT a++dT b:=by simp[dT]
theorem tx{p:Pc}{l:List Pc}(h:p.l.aA=true):dT (p::l)=(p.l.gate,p.d)::dT l:=by simp[dT,h]
theorem rJ{p:Pc}{l:List Pc}(h:p.l.aA=false):dT (p::l)=dT l:=by simp[dT,h]
theorem ZO(l:List Pc):(dT l).map (·.1)=dE (l.map Pc.l):=by
 induction l with
 |nil=>rfl
 |cons p l ih=>
  cases h:p.l.aA with
  |true=>rw[tx h,dG,ih];unfold dE;simp[h]
  |false=>rw[rJ h,ih];unfold dE;simp[h]
theorem ZP{f:Pc->Pc}(hf:∀p,(f p).l.kind=p.l.kind/\(f p).l.gate=p.l.gate/\(f p).d=p.d)(l:List Pc):dT (l.map f)=dT l:=by
 induction l with
 |nil=>rfl
 |cons p l ih=>
  obtain⟨h1,h2,h3⟩:=hf p;have e:(f p).l.aA=p.l.aA:=by show((f p).l.kind==1)=(p.l.kind==1);rw[h1]
  rw[dG];cases h:p.l.aA with
  |true=>rw[tx h,tx (e.trans h),ih,h2,h3]
  |false=>rw[rJ h,rJ (e.trans h),ih]
theorem aff{F:Nat}:∀ {z:List aN} {s t:dS},(∀x∈z,yq F x)->jE s z t->dT (z.map aN.p)=cJ (!s.b) ((dT (z.map aN.p)).map (·.1)):=by
 intro z
 induction z with
 |nil=>intro s t _ _;rfl
 |cons x z ih=>
  intro s t ok h;obtain⟨rfl,h⟩:=h;have ox:=ok x af;have ih:=ih (fun x hx=>ok x (by simp[hx])) h;rw[dG];rcases vQ ox.bad with hp|hc
  .have gO:x.p.l.aA=true:=hp;obtain⟨b1,b2⟩:=ox.pb hp;rw[tx gO,dG];show _=(x.p.l.gate,!x.i.b)::cJ (!!x.i.b) _;rw[b2,Bool.not_not];rw[b1] at ih;rw[<- ih]
  have gO:x.p.l.aA=false:=by have jU:(x.p.l.kind==2)=true:=hc;show(x.p.l.kind==1)=false;rw[beq_iff_eq.1 jU];rfl
  rw[rJ gO,ox.cb hc];exact ih
theorem alq(l:List Pc):(qM l).getD 0<=l.length:=by
 unfold qM;cases h:(List.range l.length).find? (pdA l) with
 |none=>exact bd _
 |some i=>have:=fm.1 (Fi h);exact Nat.le_of_lt this
theorem alk{F:Nat}{l:List Pc}(c:Cert F l):dY (dT l) (cJ true (dE (mw l))):=by
 have hf:=alq l;obtain⟨i,hi⟩:∃i,qM l=some i:=by
  cases h:qM l with
  |some i=>exact⟨i,rfl⟩
  |none=>
   exfalso;obtain⟨z,T,B,S,e,cz⟩:=c;subst e;obtain⟨x,hx,hp,hd⟩:=cz.down;obtain⟨j,hj⟩:=jD hx;have mF:=(aS.1 hj).1;have zA:(z.map aN.p)[j]?=some x.p:=by rw[fR,hj];rfl
   have:=Hh.1 h j (by simpa using mF);rw[Ns zA] at this;unfold C0 at this;have gO:(x.p.l.kind==1)=true:=hp;simp[gO,hd] at this
 rw[hi] at hf;have hf:i<=l.length:=hf;have e1:mw l=(l.drop i++l.take i).map Pc.l:=by unfold mw;rw[hi];exact QK hf
 have c2:Cert F (l.drop i++l.take i):=Cert.kh (by rw[kG];exact c);obtain⟨z,T,B,S,e,cz⟩:=c2;obtain⟨s,hp⟩:=cz.path;have ha:=aff cz.ok hp;rw[e] at ha;have h1:=Kr hi;have h2:i<l.length:=fm.1 (Fi hi);obtain⟨p,iG⟩:=aK h2;rw[Ns iG] at h1;unfold C0 at h1;rw[cH] at h1;have fJ:p.l.aA=true:=h1.1;have hd:l.drop i=p::l.drop (i+1):=by obtain⟨hh,rfl⟩:=aS.1 iG;exact zY hh
 have hs:(!s.b)=true:=by rw[hd,jg,tx fJ] at ha;have:=(He ha).1;have h3:=congrArg Prod.snd this;have h4:p.d= !s.b:=h3;rw[<- h4];exact h1.2
 rw[hs,ZO,<- e1] at ha;refine⟨dT (l.take i),dT (l.drop i),?_,?_⟩
 .rw[<- sE,kG]
 rw[<- sE];exact ha.symm
def jY(j:Int)(l:List DL):Int:=(l.map fun x=>if x.1<=j then (if x.2 then 1 else -1) else 0).sum
theorem Ha(j:Int)(a b:List DL):jY j (a++b)=jY j a+jY j b:=by simp[jY]
theorem Xx{j:Int}{a b:List DL}(h:dY a b):jY j a=jY j b:=by obtain⟨u,v,rfl,rfl⟩:=h;rw[Ha,Ha,Int.add_comm]
theorem Rj(j:Int)(w:List Int):∀n,n<=w.length->lO w n j=jY j (cJ true (w.take n)):=by
 intro n
 induction n with
 |zero=>intro _;rfl
 |succ n ih=>
  intro h;obtain⟨g,hg⟩:=aK (ls:=w) (k:=n) aa;have hd:w.getD n 0=g:=by rw[de,hg];rfl
  rw[lO,ih aa,kn,hg];show _=jY j (cJ true (w.take n++[g]));rw[vP,Ha,hd,eQ,xe aa];unfold fN;by_cases e:n%2=0
  .simp[jY,e]
  simp[jY,e]
theorem auK{F:Nat}{v w:List Int}(h:∀j:Nat,j<F->jY j (cJ true v)=jY j (cJ true w)):oF F v=oF F w:=by unfold oF;refine vH fun j hj=>?_;rw[Rj _ v _ (aX _),Rj _ w _ (aX _),jh,jh];exact h j (fm.1 hj)
def yB(a b:List DL):Prop:=dY a b\/ ∃u v x,(dY a (u++x::inv x::v)/\dY (u++v) b)\/(dY b (u++x::inv x::v)/\dY (u++v) a)
theorem dY.len{a b:List DL}(h:dY a b):a.length=b.length:=by obtain⟨u,v,rfl,rfl⟩:=h;simp[Fk]
theorem agp{a b u v:List DL}{x:DL}(he:a.length%2=0)(h1:dY a (u++x::inv x::v))(h2:dY (u++v) b):dY (jT (jW a)) (jT (jW b))/\ ∀j,jY j a=jY j b:=by
 have hl:=h1.len;have mH:(u++x::inv x::v).length=(u++v).length+2:=by simp;omega
 refine⟨?_,fun j=>?_⟩
 .have k1:=h1.cr he;rw[ars] at k1;exact k1.trans (h2.cr aa)
 rw[Xx h1,<- Xx h2,Ha,Ha];have:jY j (x::inv x::v)=jY j v:=by obtain⟨g,d⟩:=x;cases d<;>simp[jY,inv]<;>split<;>omega
 rw[this]
theorem as4{a b:List DL}(he:a.length%2=0)(hb:b.length%2=0)(h:yB a b):dY (jT (jW a)) (jT (jW b))/\ ∀j,jY j a=jY j b:=by
 rcases h with h|⟨u,v,x,⟨h1,h2⟩|⟨h1,h2⟩⟩
 .exact⟨h.cr he,fun j=>Xx h⟩
 .exact agp he h1 h2
 obtain⟨k1,k2⟩:=agp hb h1 h2;exact⟨k1.symm,fun j=>(k2 j).symm⟩
theorem yB.pre{a b c:List DL}(h:dY a b)(k:yB b c):yB a c:=by
 rcases k with k|⟨u,v,x,⟨h1,h2⟩|⟨h1,h2⟩⟩
 .exact .inl (h.trans k)
 .exact .inr ⟨u,v,x,.inl ⟨h.trans h1,h2⟩⟩
 exact .inr ⟨u,v,x,.inr ⟨h1,h2.trans h.symm⟩⟩
theorem yB.post{a b c:List DL}(k:yB a b)(h:dY b c):yB a c:=by
 rcases k with k|⟨u,v,x,⟨h1,h2⟩|⟨h1,h2⟩⟩
 .exact .inl (k.trans h)
 .exact .inr ⟨u,v,x,.inl ⟨h1,h2.trans h⟩⟩
 exact .inr ⟨u,v,x,.inr ⟨h.symm.trans h1,h2⟩⟩
theorem ZQ{l:List Pc}(h:∀p∈l,p.l.aA=false):dT l=[]:=by unfold dT;rw[List.filter_eq_nil_iff.2 fun p hp=>by rw[h p hp];decide];rfl
theorem akB{x y:Pc}(h:x.l.aA=false\/y.l.aA=false):dT [x,y]=dT [y,x]:=by
 rcases h with h|h
 .rw[rJ h];cases hy:y.l.aA with
  |true=>rw[tx hy,tx hy,rJ h]
  |false=>rw[rJ hy,rJ hy,rJ h]
 cases hx:x.l.aA with
 |true=>rw[tx hx,rJ h,rJ h,tx hx]
 |false=>rw[rJ hx,rJ h,rJ h,rJ hx]
theorem aky{l:List Pc}{drop:Nat->Pc->Bool}(h:∀i p,l[i]?=some p->drop i p=true->p.l.aA=false):dT (k9 l drop)=dT l:=by
 have key:∀k,k<=l.length->dT (ny l drop k)=dT (l.take k):=by
  intro k
  induction k with
  |zero=>intro _;rfl
  |succ k ih=>
   intro hk;obtain⟨p,hp⟩:=aK (ls:=l) (k:=k) aa;rw[kn,hp,sE,<- ih aa];cases hd:drop k p with
   |false=>rw[AZ hp hd,sE];rfl
   |true=>rw[uD hp hd];show _=_++dT [p];rw[rJ (h k p hp hd)];simp[dT]
 have:=key l.length (aX _);rwa[jh] at this
theorem akz(ids:List Int)(l:List Pc):dT (l.map (pI ids))=dT l:=ZP (fun p=>by unfold pI jz;split<;>exact⟨rfl,rfl,rfl⟩) l
theorem akA(g ab b:Int)(l:List Pc):dT (jP l g ab b)=dT l:=ZP (fun p=>by unfold rA;split<;>exact⟨rfl,rfl,rfl⟩) l
theorem ZN(l:List Pc)(ids:List Int):dT (FK l ids)=dT l:=by show dT ((k9 l (sD ids)).map (pI ids))=_;rw[akz];refine aky fun i p _ hd=>?_;unfold sD at hd;rw[cH,beq_iff_eq] at hd;show(p.l.kind==1)=false;rw[hd.1];rfl
section
variable {F:Nat} {ls:List Let}
theorem Xg{l:List Pc}(hl:l.length=ls.length){e:Nat}(he:e<ls.length)(aF:e≠nx ls e)(hv:∃v p,(v=e\/v=nx ls e)/\l[v]?=some p/\p.l.aA=false):dY (dT l) (dT (fP ls l e)):=by
 have hn:nx ls e<ls.length:=dQ _ aa;obtain⟨x,hx⟩:=aK (ls:=l) (k:=e) aa;obtain⟨y,hy⟩:=aK (ls:=l) (k:=nx ls e) aa;have hU:x.l.aA=false\/y.l.aA=false:=by
  obtain⟨v,p,h|h,hp,hk⟩:=hv
  .subst h;rw[hx] at hp;cases hp;exact .inl hk
  subst h;rw[hy] at hp;cases hp;exact .inr hk
 have hg:∀i,(fP ls l e)[i]?=if i=nx ls e then l[e]? else if i=e then l[nx ls e]? else l[i]? :=fun i=>E6 hl he i;by_cases h1:e+1<ls.length
 .have tN:nx ls e=e+1:=gD h1;have e1:l=l.take e++[x,y]++l.drop (e+2):=by
   obtain⟨a1,b1⟩:=aS.1 hx;rw[tN] at hy;obtain⟨a2,b2⟩:=aS.1 hy
   conv=>lhs;rw[<- kG e l,zY a1,zY a2,b1,b2]
   simp
  have e2:fP ls l e=l.take e++[y,x]++l.drop (e+2):=by
   apply vF;intro i;rw[hg,tN,tc];rw[tN] at hy;have vf:(l.take e).length=e:=by rw[eQ];omega
   by_cases c1:i<e
   .rw[if_neg aa,if_neg aa,pS aa,jt,if_pos c1]
   rw[mQ aa,vf];by_cases c2:i=e
   .subst c2;rw[if_neg aa,if_pos rfl,Fm];exact hy
   by_cases c3:i=e+1
   .subst c3;rw[if_pos rfl,Nat.add_sub_cancel_left];exact hx
   rw[if_neg c3,if_neg c2];obtain⟨j,rfl⟩:∃j,i=e+2+j:=⟨i-(e+2),aa⟩;rw[show e+2+j-e=j+1+1 by omega];simp
  rw[e2]
  conv=>lhs;rw[e1]
  rw[sE,sE,sE,sE,akB hU];exact dY.refl _
 have LZ:e=ls.length-1:=aa;have tN:nx ls e=0:=by unfold nx;rw[show e+1=ls.length by omega,yH]
 rw[tN] at hy aF;have e1:l=[y]++(l.drop 1).take (ls.length-2)++[x]:=by
  apply vF;intro i;by_cases c0:i=0
  .subst c0;rw[hy];rfl
  rw[tc,mQ (by simp;omega)];simp only[cq,dN];have vf:((l.drop 1).take (ls.length-2)).length=ls.length-2:=by rw[eQ,iC];omega
  by_cases c1:i-(0+1)<ls.length-2
  .rw[pS aa,jt,if_pos c1,r9];congr 1;omega
  rw[mQ aa,vf];by_cases c2:i=e
  .rw[c2,hx,show e-(0+1)-(ls.length-2)=0 by omega];rfl
  rw[lS aa,lS (by simp;omega)]
 have e2:fP ls l e=[x]++(l.drop 1).take (ls.length-2)++[y]:=by
  apply vF;intro i;rw[hg,tN];by_cases c0:i=0
  .subst c0;rw[if_pos rfl,hx];rfl
  rw[if_neg c0,tc,mQ (by simp;omega)];simp only[cq,dN];have vf:((l.drop 1).take (ls.length-2)).length=ls.length-2:=by rw[eQ,iC];omega
  by_cases c1:i-(0+1)<ls.length-2
  .rw[if_neg aa,pS aa,jt,if_pos c1,r9];congr 1;omega
  rw[mQ aa,vf];by_cases c2:i=e
  .rw[if_pos c2,hy,c2,show e-(0+1)-(ls.length-2)=0 by omega];rfl
  rw[if_neg c2,lS aa,lS (by simp;omega)]
 generalize (l.drop 1).take (ls.length-2)=m at e1 e2;rw[e2]
 conv=>lhs;rw[e1]
 rw[sE,sE,sE,sE];rcases hU with h|h
 .rw[ZQ (l:=[x]) (by simpa using h),jR,fp];exact⟨_,_,rfl,rfl⟩
 rw[ZQ (l:=[y]) (by simpa using h),jR,fp];exact⟨_,_,rfl,rfl⟩
end
section
variable {F:Nat} {ls:List Let}
theorem aqg:(pieces ls).map Pc.l=ls:=by
 have h:=kU ls;rw[<- h];have e:aO (zF ls)=((zF ls).map aN.p).map Pc.l:=by rw[ti];rfl
 rw[h,<- Dq,<- e,h]
theorem Ys(g:dr F ls):dT (pieces ls)=cJ true (dE ls):=by
 have cz:=g.cz;obtain⟨s,hp⟩:=cz.path;have ha:=aff cz.ok hp;rw[Dq] at ha;obtain⟨l,h0,hl⟩:=g.first;have AR:=pL h0;obtain⟨t,ht⟩:∃t,pieces ls=⟨l,im ls 0⟩::t:=by
  cases hh:pieces ls with
  |nil=>rw[hh] at AR;cases AR
  |cons a t=>rw[hh] at AR;cases AR;exact⟨t,rfl⟩
 have hd:im ls 0=true:=by unfold im;rw[h0];show(l.aA&&dn ls 0)=true;rw[hl];rfl
 have hs:(!s.b)=true:=by rw[ht,tx (show(⟨l,im ls 0⟩:Pc).l.aA=true from hl)] at ha;have h3:=congrArg Prod.snd (He ha).1;have h4:im ls 0= !s.b:=h3;rw[<- h4];exact hd
 rw[hs,ZO,aqg] at ha;exact ha
theorem aoc{l:List Pc}{drop:Nat->Pc->Bool}{u v:List Pc}{x y:Pc}(h:l=u++x::y::v)(hd:∀i p,drop i p=true↔i=u.length\/i=u.length+1):k9 l drop=u++v:=by
 have nd:∀i p,i≠u.length->i≠u.length+1->drop i p=false:=fun i p h1 h2=>by
  cases hh:drop i p with
  |false=>rfl
  |true=>have:=(hd i p).1 hh;omega
 have k1:∀k,k<=u.length->ny l drop k=u.take k:=by
  intro k
  induction k with
  |zero=>intro _;rfl
  |succ k ih=>
   intro hk;obtain⟨p,hp⟩:=aK (ls:=u) (k:=k) aa;have bK:l[k]?=some p:=by rw[h,pS aa];exact hp
   rw[AZ bK (nd k p aa aa),ih aa,kn,hp];rfl
 have k2:ny l drop (u.length+1)=u:=by rw[uD (p:=x) (by rw[h,mQ (aX _),Fm];rfl) ((hd _ _).2 (.inl rfl)),k1 _ (aX _),jh]
 have k3:ny l drop (u.length+2)=u:=by rw[uD (p:=y) (by rw[h,mQ aa,Nat.add_sub_cancel_left];rfl) ((hd _ _).2 (.inr rfl)),k2]
 have k4:∀k,k<=v.length->ny l drop (u.length+2+k)=u++v.take k:=by
  intro k
  induction k with
  |zero=>intro _;rw[se,k3];simp
  |succ k ih=>
   intro hk;obtain⟨p,hp⟩:=aK (ls:=v) (k:=k) aa;have bK:l[u.length+2+k]?=some p:=by rw[h,mQ aa,show u.length+2+k-u.length=k+1+1 by omega];exact hp
   rw[<- BB,AZ bK (nd _ p aa aa),ih aa,kn,hp];simp
 have:=k4 v.length (aX _);rw[jh] at this;unfold k9;rw[show l.length=u.length+2+v.length by rw[h];simp;omega];exact this
theorem aob{l:List Pc}{drop:Nat->Pc->Bool}{m:List Pc}{x y:Pc}(h:l=y::m++[x])(hd:∀i p,drop i p=true↔i=0\/i=m.length+1):k9 l drop=m:=by
 have nd:∀i p,i≠0->i≠m.length+1->drop i p=false:=fun i p h1 h2=>by
  cases hh:drop i p with
  |false=>rfl
  |true=>have:=(hd i p).1 hh;omega
 have k1:ny l drop 1=[]:=by rw[show(1:Nat)=0+1 from rfl,uD (p:=y) (by rw[h];rfl) ((hd _ _).2 (.inl rfl))];rfl
 have k4:∀k,k<=m.length->ny l drop (1+k)=m.take k:=by
  intro k
  induction k with
  |zero=>intro _;exact k1
  |succ k ih=>
   intro hk;obtain⟨p,hp⟩:=aK (ls:=m) (k:=k) aa;have bK:l[1+k]?=some p:=by rw[h,jg,show 1+k=k+1 by omega,List.getElem?_cons_succ,pS aa];exact hp
   rw[<- BB,AZ bK (nd _ p aa aa),ih aa,kn,hp];rfl
 have h5:=k4 m.length (aX _);rw[jh] at h5;unfold k9;rw[show l.length=1+m.length+1 by rw[h];simp;omega,uD (p:=x) (by rw[h,mQ (by simp;omega)];simp;rw[show 1+m.length-(m.length+1)=0 by omega];rfl) ((hd _ _).2 (.inr aa)),h5]
theorem slk1(g:dr F ls){a:Nat}(ha:a<ls.length){L:List Pc}(h:xj ls a=some L):yB (dT (pieces ls)) (dT L):=by
 have bK:=fi ls;have aF:=GI g ha;have hn:nx ls a<ls.length:=dQ _ aa;unfold xj at h;simp only at h;split at h
 case isFalse=>cases h
 rename_i hc;cases h;obtain⟨p,hp⟩:=aK (ls:=pieces ls) (k:=a) aa;obtain⟨q,hq⟩:=aK (ls:=pieces ls) (k:=(a+1)%ls.length) (by rw[bK];exact hn);have ep:(pieces ls).getD a ⟨j9,false⟩=p:=by rw[de,hp];rfl
 have eq_:(pieces ls).getD ((a+1)%ls.length) ⟨j9,false⟩=q:=by rw[de,hq];rfl
 rw[ep,eq_] at hc;simp only[cH,beq_iff_eq] at hc;obtain⟨c1,c2,c3,_⟩:=hc;have pp:p.l.aA=true:=by show(p.l.kind==1)=true;rw[c1];rfl
 have qp:q.l.aA=true:=by show(q.l.kind==1)=true;rw[c2];rfl
 rw[akA];have hb:=Ys g;by_cases h1:a+1<ls.length
 .have tN:(a+1)%ls.length=a+1:=gD h1;rw[tN] at hq;have e1:pieces ls=(pieces ls).take a++p::q::(pieces ls).drop (a+2):=by
   obtain⟨a1,b1⟩:=aS.1 hp;obtain⟨a2,b2⟩:=aS.1 hq
   conv=>lhs;rw[<- kG a (pieces ls),zY a1,zY a2,b1,b2]
  have Gp:((pieces ls).take a).length=a:=by rw[eQ];omega
  generalize (pieces ls).take a=U at e1 Gp;generalize (pieces ls).drop (a+2)=V at e1;have hk:=aoc (drop:=fun k _=>decide (k=a)||decide (k=(a+1)%ls.length)) e1 (fun i p=>by rw[Gp,tN];simp);rw[hk];rw[e1,sE,tx pp,tx qp,c3] at hb ⊢;obtain⟨u,v,e2,e3,e4⟩:=N9 hb.symm;have hqd:q.d= !p.d:=by
   cases v with
   |nil=>cases e4
   |cons g1 v=>
    cases v with
    |nil=>cases (He e4).2
    |cons g2 v=>obtain⟨f1,f2⟩:=He e4;obtain⟨f3,_⟩:=He f2;have f1':=congrArg Prod.snd f1;have f3':=congrArg Prod.snd f3;simp only at f1' f3';rw[f1',f3']
  refine .inr ⟨dT U,dT V,(q.l.gate,p.d),.inl ⟨?_,?_⟩⟩
  .rw[show inv (q.l.gate,p.d)=(q.l.gate,q.d) by rw[hqd];rfl];exact dY.refl _
  rw[<- sE];exact dY.refl _
 have ha1:a=ls.length-1:=aa;have tN:(a+1)%ls.length=0:=by rw[show a+1=ls.length by omega,yH]
 rw[tN] at hq;have h2:2<=ls.length:=by have:a≠0:=fun h=>aF (by rw[h] at tN ⊢;show 0=(0+1)%ls.length;rw[tN]);omega
 have e1:pieces ls=q::((pieces ls).drop 1).take (ls.length-2)++[p]:=by
  apply vF;intro i;by_cases c0:i=0
  .subst c0;rw[hq];rfl
  obtain⟨j,rfl⟩:∃j,i=j+1:=⟨i-1,aa⟩;have vf:(((pieces ls).drop 1).take (ls.length-2)).length=ls.length-2:=by rw[eQ,iC];omega
  rw[jg,List.getElem?_cons_succ];by_cases d1:j<ls.length-2
  .rw[pS aa,jt,if_pos d1,r9];congr 1;omega
  rw[mQ aa,vf];by_cases d2:j+1=a
  .rw[d2,hp,show j-(ls.length-2)=0 by omega];rfl
  rw[lS aa,lS (by simp;omega)]
 have ni:(((pieces ls).drop 1).take (ls.length-2)).length=ls.length-2:=by rw[eQ,iC];omega
 have hk:=aob (drop:=fun k _=>decide (k=a)||decide (k=(a+1)%ls.length)) e1 (fun i p=>by rw[ni,tN];simp;omega);rw[hk];generalize ((pieces ls).drop 1).take (ls.length-2)=m at e1 ni hk;rw[e1,sE,tx qp,tx (l:=[]) pp] at hb ⊢;have e0:dT ([]:List Pc)=[]:=rfl;rw[e0] at hb ⊢;have nQ:p.d=false/\q.d=true:=by
  have dL:=g.even;have hlen:(dE ls).length=ay Let.aA ls:=by unfold dE ay;rw[cF,Kp]
  have mH:=congrArg List.length hb;rw[yM,hlen] at mH;simp only[dX,cq,dN] at mH;obtain⟨u,v,e2,e3,e4⟩:=N9 hb.symm;have hu:u.length%2=1:=by have:=congrArg List.length e3;rw[yM] at this;simp only[cq] at this;omega
  have hpu:fN true u.length=false:=by unfold fN;rw[if_neg aa];rfl
  rw[hpu] at e4;constructor
  .cases v with
   |nil=>cases e4
   |cons g1 v=>have:=congrArg Prod.snd (He e4).1;exact this
  cases u with
  |nil=>cases e3
  |cons g1 u=>have:=congrArg Prod.snd (He e3).1;exact this
 refine .inr ⟨[],dT m,(q.l.gate,false),.inl ⟨?_,?_⟩⟩
 .refine⟨(q.l.gate,q.d)::dT m,[(p.l.gate,p.d)],rfl,?_⟩;rw[c3,nQ.1,nQ.2];rfl
 exact dY.refl _
theorem atN:∀(es:List Nat) (l:List Pc),l.length=ls.length->(∀e∈es,e<ls.length/\e≠nx ls e)->(∀e∈es,∀i,i=e\/i=nx ls e->∀p,l[i]?=some p->p.l.aA=false)->dY (dT l) (dT (iN ls l es)):=by
 intro es
 induction es with
 |nil=>intro l _ _ _;exact dY.refl _
 |cons e es ih=>
  intro l hl he hn;obtain⟨LZ,Cu⟩:=he e af;have jl:nx ls e<ls.length:=dQ _ aa;obtain⟨x,hx⟩:=aK (ls:=l) (k:=e) aa;have h1:=Xg hl LZ Cu ⟨e,x,.inl rfl,hx,hn e af e (.inl rfl) x hx⟩;refine h1.trans (ih _ (by rw[Dk,hl]) (fun e h=>he e (by simp[h])) fun e' Ct i hi p hp=>?_);rw[E6 hl LZ] at hp;split at hp
  .exact hn e af e (.inl rfl) p hp
  split at hp
  .exact hn e af (nx ls e) (.inr rfl) p hp
  exact hn e' (by simp[Ct]) i hi p hp
theorem slk8(g:dr F ls){a b c:Nat}(ha:a<ls.length)(hb:b<ls.length)(hc:c<ls.length){L:List Pc}(h:vz F ls a b c=some L):yB (dT (pieces ls)) (dT L):=by
 have bK:=fi ls;unfold vz at h;split at h
 case isFalse=>cases h
 rename_i ht;cases h;have eV:∀e∈[a,b,c],yV ls e=true:=by unfold tgB at ht;rw[cH] at ht;exact fun e he=>jf.1 ht.1 e he
 have aw:∀e∈[a,b,c],e<ls.length:=by intro e he;simp only[cM,iO,or_false] at he;rcases he with rfl|rfl|rfl<;>assumption
 refine .inl (atN _ _ bK (fun e he=>⟨aw e he,GI g (aw e he)⟩) fun e he i hi p hp=>?_);have Eh:=eV e he;unfold yV at Eh;rw[cH,beq_iff_eq,beq_iff_eq] at Eh;show(p.l.kind==1)=false;rcases hi with rfl|rfl
 .rw[jA hp] at Eh;rw[Eh.1];rfl
 rw[jA hp] at Eh;rw[Eh.2];rfl
theorem ZR(l:List Pc)(i:Nat)(r:Int):dT (fV l i r)=dT l:=by
 by_cases h:i<l.length
 .obtain⟨p,hp⟩:=aK h;obtain⟨a1,b1⟩:=aS.1 hp;have e:fV l i r=l.take i++⟨{p.l with aB:=r},p.d⟩::l.drop (i+1):=by
   unfold fV;rw[de,hp,List.set_eq_take_append_cons_drop,if_pos h];rfl
  have e2:l=l.take i++p::l.drop (i+1):=by conv=>lhs;rw[<- kG i l,zY a1,b1]
  rw[e]
  conv=>rhs;rw[e2]
  rw[sE,sE];congr 1;cases hk:p.l.aA with
  |true=>rw[tx hk,tx (show(⟨{p.l with aB:=r},p.d⟩:Pc).l.aA=true from hk)]
  |false=>rw[rJ hk,rJ (show(⟨{p.l with aB:=r},p.d⟩:Pc).l.aA=false from hk)]
 unfold fV;rw[Rs aa]
end
section
variable {F:Nat} {ls:List Let}
theorem QT{l:List Pc}{i j:Nat}{r:Int}{p:Pc}(h:l[j]?=some p):∃q,(fV l i r)[j]?=some q/\q.l.aA=p.l.aA:=by
 by_cases hi:i<l.length
 .obtain⟨q,hq⟩:=aK hi;rw[QS hq];by_cases e:j=i
  .subst e;rw[hq] at h;cases h;exact⟨_,if_pos rfl,rfl⟩
  exact⟨p,by rw[if_neg e];exact h,rfl⟩
 refine⟨p,?_,rfl⟩;unfold fV;rw[Rs aa];exact h
theorem slk3(g:dr F ls){a b:Nat}(ha:a<ls.length)(hb:b<ls.length){L:List Pc}(h:xn F ls a b=some L):yB (dT (pieces ls)) (dT L):=by
 have bK:=fi ls;unfold xn at h;split at h
 case isFalse=>cases h
 rename_i hc;simp only[cH,kV,beq_eq_false_iff_ne] at hc;obtain⟨c1,c2,c3,_⟩:=hc;cases h;obtain⟨ea,⟨l,hl,cl⟩,m,hm,pm⟩:=QC aa ha c1;obtain⟨eb,⟨l',u9,HL⟩,_⟩:=QC aa hb c2;obtain⟨lb1,lb2⟩:=WH hb;generalize (pA ls (iM ls b).1).l.aB=r1;generalize (pA ls (iM ls a).1).l.aB=r2;generalize (iM ls a).1=pa at*;generalize (iM ls a).2.1=va at*;generalize (iM ls b).1=pb at*;generalize (iM ls b).2.1=vb at*;have aF:vb≠pa:=fun e=>by rw[e,hm] at u9;cases u9;have:=n9 pm;rw[HL] at this;cases this
 obtain⟨q1,MH,k1⟩:=QT (i:=pa) (r:=r1) (pL hl);obtain⟨q2,CK,k2⟩:=QT (i:=pb) (r:=r2) MH;obtain⟨u1,wH,j1⟩:=QT (i:=pa) (r:=r1) (pL u9);obtain⟨u2,sP,j2⟩:=QT (i:=pb) (r:=r2) wH;have n2:q2.l.aA=false:=by rw[k2,k1];exact lJ cl
 have n4:u2.l.aA=false:=by rw[j2,j1];exact lJ HL
 have e0:dT (fV (fV (pieces ls) pa r1) pb r2)=dT (pieces ls):=by rw[ZR,ZR]
 have rU:(fV (fV (pieces ls) pa r1) pb r2).length=ls.length:=by rw[yy,yy,bK]
 generalize fV (fV (pieces ls) pa r1) pb r2=X at*;have s1:=Xg rU ha (GI g ha) ⟨va,q2,aa,CK,n2⟩;have s2:=Xg (l:=fP ls X a) (by rw[Dk,rU]) hb (GI g hb) ⟨vb,u2,aa,by
  rw[E6 rU ha,if_neg aa,if_neg aa];exact sP,n4⟩
 rw[<- e0];exact .inl (s1.trans s2)
theorem slk4{a:Nat}{L:List Pc}(h:yg ls a=some L):dT L=dT (pieces ls):=by
 unfold yg at h;simp only at h;split at h
 case isFalse=>cases h
 cases h;exact ZN _ _
theorem slk6{a b:Nat}{L:List Pc}(h:yt F ls a b=some L):dT L=dT (pieces ls):=by
 unfold yt at h;split at h
 case isFalse=>cases h
 cases h;exact ZN _ _
end
end
end Go.Abs
