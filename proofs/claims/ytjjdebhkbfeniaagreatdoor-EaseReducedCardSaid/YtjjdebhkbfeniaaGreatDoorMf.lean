/-
  Rules for a walk.
-/
import Derived.Test.YtjjdebhkbfeniaaGreatDoorMd
import Derived.Attr
set_option linter.unusedSimpArgs false
set_option linter.unusedVariables false
set_option linter.unusedSectionVars false
namespace Go.Abs
theorem asN_nat(k:Nat):asN (.one (.p (.int .i64 (k:Int))))=some k:=by simp[asN]
theorem asN_lit(n:Nat):asN (.one (.p (.int .i64 (no_index (@OfNat.ofNat Int n instOfNat)))))=some (@OfNat.ofNat Nat n (instOfNatNat n)):=by
 show asN (.one (.p (.int .i64 (Int.ofNat n))))=some n;simp[asN]
theorem snap_p{blk:Blk}{v:PV}:snap blk snapN (.p v)=some (v.norm,[]):=rfl
def consR{β:Type}(x:Option (β × List Nat))(y:Option (List β × List Nat)):Option (List β × List Nat):=match x,y with
 |some (b,x),some (bs,y)=>some (b::bs,x++y)
 |_,_=>none
theorem consR_some{β:Type}{b:β}{x:List Nat}{bs:List β}{y:List Nat}:consR (some (b,x)) (some (bs,y))=some (b::bs,x++y):=rfl
theorem collect_nil{α β:Type}{f:α→Option (β × List Nat)}:collect f []=some ([],[]):=rfl
theorem collect_cons{α β:Type}{f:α→Option (β × List Nat)}{a:α}{r:List α}:collect f (a::r)=consR (f a) (collect f r):=by
 simp only[collect,consR];cases f a<;>cases collect f r<;>rfl
theorem snapV_one{blk:Blk}{c:C}:snapV blk (.one c)=(snap blk snapN c).map fun(v,r)=>(.one (.p v),r):=rfl
theorem snapV_agg{blk:Blk}{cs:List C}:snapV blk (.agg cs)=(collect (snap blk snapN) cs).map fun(vs,r)=>(.agg (vs.map .p),r):=rfl
theorem snap_ps{blk:Blk}{n:Nat}{v:PV}:snap blk (n+1) (.p v)=some (v.norm,[]):=rfl
def snapHsl(o:Nat × Option Ob)(col:List (List C)→Option (List (List PV) × List Nat))(id g off len:Nat):Option (PV × List Nat):=match o with
 |(g',some (.arr _ _ es))=>if g'=g∧off+len≤es.length then some (.sl ((es.drop off).take len),[id]) else none
 |(g',some (.farr _ _ es))=>if g'=g∧off+len≤es.length then some (.sl ((es.drop off).take len),[id]) else none
 |(g',some (.carr _ _ es))=>if g'=g∧off+len≤es.length then
   match col ((es.drop off).take len) with
   |some (ps,r)=>some (.sl ps,id::r)
   |none=>none
  else none
 |_=>none
theorem snap_hsl{blk:Blk}{id g z off len:Nat}:snap blk snapN (.hsl id g z off len)=snapHsl (blk id) (collect (collect (snap blk 5))) id g off len:=by
 unfold snapN snapHsl;rw[snap];rfl
def snapHref(o:Nat × Option Ob)(col:List C→Option (List PV × List Nat))(id g off:Nat):Option (PV × List Nat):=match o with
 |(g',some (.var cs))=>if g'=g then
   match col cs with
   |some (ps,r)=>some (.box (ps.drop off),id::r)
   |none=>none
  else none
 |(g',some (.fvar ps))=>if g'=g then some (.box (ps.drop off),[id]) else none
 |_=>none
theorem snap_href{blk:Blk}{id g off:Nat}:snap blk snapN (.href id g off)=snapHref (blk id) (collect (snap blk 5)) id g off:=by
 unfold snapN snapHref;rw[snap];rfl
section
variable {S:Sys} {al:Al} {env:Env} {blk:Blk} {d:Option Nat}
theorem land_scalar{rd:List Nat}{s:Nat}{x:PV}{b:Bool}(hs:x.scalar=true):land blk rd s ((RV.one (.p x)).pureIf b)=some (.one (.p x),[]):=by
 have h1:(RV.one (.p x)).pureIf b= .one (.p x):=by cases b<;>rfl
 rw[h1];have:(RV.one (.p x)).alone=true:=by simp[RV.alone,flatR,flatR1,RC.alone,hs]
 simp only[land,this,or_true,if_true];rfl
theorem goPN_pcs{f:Nat}{vs:List V}{rd:List Nat}{s:Nat}{x:PV}{K:Env→Blk→Prop}(h:PEv S f vs (.one (.p x)))(hs:x.scalar=true):goPN S .all (.pc f vs rd s) d env blk K↔K (put env d (.one (.p x))) blk:=by
 constructor
 ·rintro ⟨y,hy,h2⟩
  have:=hy.det h;subst this;rw[land_scalar hs] at h2;exact h2.2
 ·intro hK;refine⟨_,h,?_⟩;rw[land_scalar hs];exact⟨Al.all_oks _,hK⟩
theorem goP_pcs{f:Nat}{vs:List V}{rd:List Nat}{s:Nat}{x:PV}{tr:List Eff}{K:Env→Blk→List Eff→Prop}(h:PEv S f vs (.one (.p x)))(hs:x.scalar=true):goP S .all (.pc f vs rd s) d env blk tr K↔K (put env d (.one (.p x))) blk (tr++[⟨rd,[],[]⟩]):=by
 constructor
 ·rintro ⟨y,hy,h2⟩
  have:=hy.det h;subst this;rw[land_scalar hs] at h2
  simpa [app] using h2.2
 ·intro hK;refine⟨_,h,?_⟩;rw[land_scalar hs];exact⟨Al.all_oks _,by simpa [app] using hK⟩
theorem W_draw{ops:List IOper}{Q:Post}:W S al (.region true ops) Q env blk↔WO S al ops (fun env blk es=>okDraw ops [] es=true∧Q .normal env blk) env blk []:=by
 rw[W_region_iff];constructor
 ·rintro ⟨n,e,b,es,h1,h2,h3⟩;exact⟨n,e,b,es,h1,h2 rfl,h3⟩
 ·rintro ⟨n,e,b,es,h1,h2,h3⟩;exact⟨n,e,b,es,h1,fun _=>h2,h3⟩
end
theorem wrap_small{n:Nat}(h:n≤9223372036854775807):IntKind.i64.wrap (n:Int)=n:=wrap_nat h
theorem wrap_succ{n:Nat}(h:n<9223372036854775807):IntKind.i64.wrap ((n:Int)+1)=((n+1:Nat):Int):=wrap_nat (n:=n+1) (by omega)
section
variable {S:Sys} {al:Al} {Q:Post} {env:Env} {blk:Blk} {a b:ICode} {ops os all:List IOper} {tr:List Eff} {d:Option Nat} {op:IOp} {n:Nat}
def thenW(S:Sys)(al:Al)(b:ICode)(Q:Post):Post
 | .normal,env,blk=>W S al b Q env blk
 | .exit i,env,blk=>Q (.exit i) env blk
 | .ret,env,blk=>Q .ret env blk
theorem thenQ_eq:thenQ (W S al b Q) Q=thenW S al b Q:=by funext e env blk;cases e<;>rfl
theorem R_seq:W S al (.seq a b) Q env blk↔W S al a (thenW S al b Q) env blk:=by rw[W_seq_iff,thenQ_eq]
theorem thenW_normal:thenW S al b Q .normal env blk=W S al b Q env blk:=rfl
theorem thenW_exit{i:Nat}:thenW S al b Q (.exit i) env blk=Q (.exit i) env blk:=rfl
theorem thenW_ret:thenW S al b Q .ret env blk=Q .ret env blk:=rfl
def cW (S:Sys)(al:Al)(v:V)(a b:ICode)(Q:Post)(env:Env)(blk:Blk):Prop:=condW v (W S al a Q env blk) (W S al b Q env blk)
theorem R_cond{x:IArg}:W S al (.cond x a b) Q env blk↔cW S al (ev env x) a b Q env blk:=W_cond_iff
theorem cW_true:cW S al (.one (.p (.bool true))) a b Q env blk=W S al a Q env blk:=by simp[cW,condW]
theorem cW_false:cW S al (.one (.p (.bool false))) a b Q env blk=W S al b Q env blk:=by simp[cW,condW]
def RN (S:Sys)(al:Al)(ops:List IOper)(Q:Post)(env:Env)(blk:Blk):Prop:=WN S al ops (fun env blk=>Q .normal env blk) env blk
def gP (S:Sys)(al:Al)(p:Plan)(d:Option Nat)(os:List IOper)(Q:Post)(env:Env)(blk:Blk):Prop:=goPN S al p d env blk (WN S al os fun env blk=>Q .normal env blk)
def gW (S:Sys)(al:Al)(w:Option Bool)(d:Option Nat)(op:IOp)(os:List IOper)(Q:Post)(env:Env)(blk:Blk):Prop:=goWN S al w ⟨d,op,none,0⟩ env blk (WN S al os fun env blk=>Q .normal env blk)
theorem R_text:W S al (.region false ops) Q env blk↔RN S al ops Q env blk:=W_seq_text
theorem RN_nil:RN S al [] Q env blk↔Q .normal env blk:=WN_nil_iff
theorem RN_op:RN S al (⟨d,op,none,n⟩::os) Q env blk↔gP S al (plan S.shared env blk op) d os Q env blk:=WN_cons_iff
theorem RN_guard{t:Nat}{w:Bool}:RN S al (⟨d,op,some (t,w),n⟩::os) Q env blk↔gW S al (wantV (env t) w) d op os Q env blk:=by
 unfold RN gW;rw[WN_cons_iff];have:wanted env (some (t,w))=wantV (env t) w:=rfl;simp only[this];cases wantV (env t) w with
 |none=>rfl
 |some x=>cases x<;>rfl
theorem gW_true:gW S al (some true) d op os Q env blk↔gP S al (plan S.shared env blk op) d os Q env blk:=Iff.rfl
theorem gW_false:gW S al (some false) d op os Q env blk↔RN S al os Q (put env d .undef) blk:=Iff.rfl
theorem gP_done{v:V}{u:List Upd}{r:List Nat}:gP S .all (.done v u r) d os Q env blk↔RN S .all os Q (put env d v) (app u blk):=by
 show(Al.all.oks (r++u.map (·.1))=true∧_)↔_;rw[Al.all_oks];exact⟨fun h=>h.2,fun h=>⟨rfl,h⟩⟩
theorem gP_done_al{v:V}{u:List Upd}{r:List Nat}:gP S al (.done v u r) d os Q env blk↔al.oks (r++u.map (·.1))=true∧RN S al os Q (put env d v) (app u blk):=Iff.rfl
theorem gP_call{f:Nat}{vs:List V}{rd:List Nat}{s:Nat}{x:PV}(h:PEv S f vs (.one (.p x)))(hs:x.scalar=true):gP S .all (.pc f vs rd s) d os Q env blk↔RN S .all os Q (put env d (.one (.p x))) blk:=goPN_pcs h hs
theorem gP_int{f:Nat}{vs:List V}{rd:List Nat}{s:Nat}{k:IntKind}{x:Int}(h:PEv S f vs (.one (.p (.int k x)))):gP S .all (.pc f vs rd s) d os Q env blk↔RN S .all os Q (put env d (.one (.p (.int k x)))) blk:=gP_call h rfl
theorem gP_bool{f:Nat}{vs:List V}{rd:List Nat}{s:Nat}{x:Bool}(h:PEv S f vs (.one (.p (.bool x)))):gP S .all (.pc f vs rd s) d os Q env blk↔RN S .all os Q (put env d (.one (.p (.bool x)))) blk:=gP_call h rfl
theorem gP_land{rd:List Nat}{s:Nat}{r:RV}{v:V}{u:List Upd}{f:Nat}{vs:List V}(hp:PEv S f vs r)(h:land blk rd s (r.pureIf (S.lone s))=some (v,u)):gP S .all (.pc f vs rd s) d os Q env blk↔RN S .all os Q (put env d v) (app u blk):=by
 constructor
 ·rintro ⟨y,hy,h2⟩
  have:=hy.det hp;subst this;rw[h] at h2;exact h2.2
 ·intro hK;refine⟨_,hp,?_⟩;rw[h];exact⟨Al.all_oks _,hK⟩
def RD (S:Sys)(al:Al)(all ops:List IOper)(Q:Post)(env:Env)(blk:Blk)(tr:List Eff):Prop:=WO S al ops (fun env blk es=>okDraw all [] es=true∧Q .normal env blk) env blk tr
def dP (S:Sys)(al:Al)(p:Plan)(d:Option Nat)(all os:List IOper)(Q:Post)(env:Env)(blk:Blk)(tr:List Eff):Prop:=goP S al p d env blk tr (WO S al os fun env blk es=>okDraw all [] es=true∧Q .normal env blk)
def dW (S:Sys)(al:Al)(w:Option Bool)(d:Option Nat)(op:IOp)(all os:List IOper)(Q:Post)(env:Env)(blk:Blk)(tr:List Eff):Prop:=goW S al w ⟨d,op,none,0⟩ env blk tr (WO S al os fun env blk es=>okDraw all [] es=true∧Q .normal env blk)
theorem R_draw:W S al (.region true ops) Q env blk↔RD S al ops ops Q env blk []:=W_draw
theorem RD_nil:RD S al all [] Q env blk tr↔okDraw all [] tr=true∧Q .normal env blk:=WO_nil_iff
theorem RD_op:RD S al all (⟨d,op,none,n⟩::os) Q env blk tr↔dP S al (plan S.shared env blk op) d all os Q env blk tr:=WO_cons_iff
theorem RD_guard{t:Nat}{w:Bool}:RD S al all (⟨d,op,some (t,w),n⟩::os) Q env blk tr↔dW S al (wantV (env t) w) d op all os Q env blk tr:=by
 unfold RD dW;rw[WO_cons_iff];have:wanted env (some (t,w))=wantV (env t) w:=rfl;simp only[this];cases wantV (env t) w with
 |none=>rfl
 |some x=>cases x<;>rfl
theorem dW_true:dW S al (some true) d op all os Q env blk tr↔dP S al (plan S.shared env blk op) d all os Q env blk tr:=Iff.rfl
theorem dW_false:dW S al (some false) d op all os Q env blk tr↔RD S al all os Q (put env d .undef) blk (tr++[⟨[],[],[]⟩]):=Iff.rfl
theorem dP_done{v:V}{u:List Upd}{r:List Nat}:dP S .all (.done v u r) d all os Q env blk tr↔RD S .all all os Q (put env d v) (app u blk) (tr++[⟨r,u.map (·.1),[]⟩]):=by
 show(Al.all.oks (r++u.map (·.1))=true∧_)↔_;rw[Al.all_oks];exact⟨fun h=>h.2,fun h=>⟨rfl,h⟩⟩
theorem dP_done_al{v:V}{u:List Upd}{r:List Nat}:dP S al (.done v u r) d all os Q env blk tr↔al.oks (r++u.map (·.1))=true∧RD S al all os Q (put env d v) (app u blk) (tr++[⟨r,u.map (·.1),[]⟩]):=Iff.rfl
theorem dP_call{f:Nat}{vs:List V}{rd:List Nat}{s:Nat}{x:PV}(h:PEv S f vs (.one (.p x)))(hs:x.scalar=true):dP S .all (.pc f vs rd s) d all os Q env blk tr↔RD S .all all os Q (put env d (.one (.p x))) blk (tr++[⟨rd,[],[]⟩]):=goP_pcs h hs
theorem dP_int{f:Nat}{vs:List V}{rd:List Nat}{s:Nat}{k:IntKind}{x:Int}(h:PEv S f vs (.one (.p (.int k x)))):dP S .all (.pc f vs rd s) d all os Q env blk tr↔RD S .all all os Q (put env d (.one (.p (.int k x)))) blk (tr++[⟨rd,[],[]⟩]):=dP_call h rfl
theorem dP_bool{f:Nat}{vs:List V}{rd:List Nat}{s:Nat}{x:Bool}(h:PEv S f vs (.one (.p (.bool x)))):dP S .all (.pc f vs rd s) d all os Q env blk tr↔RD S .all all os Q (put env d (.one (.p (.bool x)))) blk (tr++[⟨rd,[],[]⟩]):=dP_call h rfl
theorem dP_land{rd:List Nat}{s:Nat}{r:RV}{v:V}{u:List Upd}{f:Nat}{vs:List V}(hp:PEv S f vs r)(h:land blk rd s (r.pureIf (S.lone s))=some (v,u)):dP S .all (.pc f vs rd s) d all os Q env blk tr↔RD S .all all os Q (put env d v) (app u blk) (tr++[⟨rd++u.map (·.1),u.map (·.1),[]⟩]):=by
 constructor
 ·rintro ⟨y,hy,h2⟩
  have:=hy.det hp;subst this;rw[h] at h2;exact h2.2
 ·intro hK;refine⟨_,hp,?_⟩;rw[h];exact⟨Al.all_oks _,hK⟩
def nextQ(N:Nat)(I:Nat→Env→Blk→Prop)(k:Nat)(Q:Post):Post:=thenQ (fun env blk=>k<N∧I (k+1) env blk) Q
theorem nextQ_normal{N k:Nat}{I:Nat→Env→Blk→Prop}:nextQ N I k Q .normal env blk=(k<N∧I (k+1) env blk):=rfl
theorem nextQ_exit{N k i:Nat}{I:Nat→Env→Blk→Prop}:nextQ N I k Q (.exit i) env blk=Q (.exit i) env blk:=rfl
theorem nextQ_ret{N k:Nat}{I:Nat→Env→Blk→Prop}:nextQ N I k Q .ret env blk=Q .ret env blk:=rfl
theorem R_for{c:ICode}(I:Nat→Env→Blk→Prop)(k0 N:Nat)(hk:k0≤N)(h0:I k0 env blk)
  (round: ∀ k env blk,k≤N→I k env blk→W S al c (nextQ N I k Q) env blk):W S al (.loop c) Q env blk:=W_for I k0 N hk h0 round
def endV(R:V→Blk→Prop)(blk:Blk):Option (List V)→Prop
 |some vs=>R (tupV vs) blk
 |none=>False
theorem E_ret{res:List (Nat × Option (Option Nat))}{R:V→Blk→Prop}:endQ al res R .ret env blk=endV R blk (resultsV al env blk res):=by
 simp only[endQ,endV];cases resultsV al env blk res<;>rfl
theorem E_normal{res:List (Nat × Option (Option Nat))}{R:V→Blk→Prop}:endQ al res R .normal env blk=endV R blk (resultsV al env blk res):=by
 simp only[endQ,endV];cases resultsV al env blk res<;>rfl
theorem endV_some{R:V→Blk→Prop}{vs:List V}:endV R blk (some vs)=R (tupV vs) blk:=rfl
end
section
variable {S:Sys} {al:Al} {Q:Post} {env:Env} {blk:Blk}
def loopQ(S:Sys)(al:Al)(c:ICode)(Q:Post):Post
 | .normal,env,blk=>W S al (.loop c) Q env blk
 | .exit i,env,blk=>Q (.exit i) env blk
 | .ret,env,blk=>Q .ret env blk
theorem loopQ_normal{c:ICode}:loopQ S al c Q .normal env blk=W S al (.loop c) Q env blk:=rfl
theorem loopQ_exit{c:ICode}{i:Nat}:loopQ S al c Q (.exit i) env blk=Q (.exit i) env blk:=rfl
theorem loopQ_ret{c:ICode}:loopQ S al c Q .ret env blk=Q .ret env blk:=rfl
theorem R_unroll{c:ICode}(h:W S al c (loopQ S al c Q) env blk):W S al (.loop c) Q env blk:=by
 obtain⟨n,e,env1,blk1,h1,h2⟩:=h;cases e with
 |normal=>
  obtain⟨m,e,env2,blk2,h3,h4⟩:=h2;refine⟨max n m+1,e,env2,blk2,?_,h4⟩;simp only[exec] at h3 ⊢;simp only[iter];rw[exec_le S (by omega) h1];exact iter_le S (by omega) (by omega) h3
 |exit i=>exact⟨n+1,_,_,_,by simp[exec,iter,exec_le S (Nat.le_succ n) h1],h2⟩
 |ret=>exact⟨n+1,_,_,_,by simp[exec,iter,exec_le S (Nat.le_succ n) h1],h2⟩
end
theorem SEv.det{S:Sys}{f:Nat}{args:List V}{al:Al}{blk:Blk}{v v':V}{b b':Blk}(h:SEv S f args al blk v b)(h':SEv S f args al blk v' b'):v=v'∧b=b':=by
 obtain⟨n,hn⟩:=h;obtain⟨m,hm⟩:=h';have a:=callS_le S (Nat.le_max_left n m) _ _ _ _ _ hn;have c:=callS_le S (Nat.le_max_right n m) _ _ _ _ _ hm;rw[a] at c;have:=Option.some.inj c;exact⟨congrArg Prod.fst this,congrArg Prod.snd this⟩
section
variable {S:Sys} {al:Al} {Q:Post} {env:Env} {blk:Blk} {os all:List IOper} {tr:List Eff} {d:Option Nat}
theorem oks_nil:al.oks []=true:=rfl
theorem oks_cons{a:Nat}{l:List Nat}:al.oks (a::l)=(al.ok a&&al.oks l):=rfl
def Kept(K:Nat→Prop)(b b':Blk):Prop:= ∀ id,¬ K id→b' id=b id
theorem Kept.refl(K:Nat→Prop)(b:Blk):Kept K b b:=fun _ _=>rfl
theorem Kept.trans{K:Nat→Prop}{a b c:Blk}(h:Kept K a b)(h2:Kept K b c):Kept K a c:=fun id hk=>(h2 id hk).trans (h id hk)
theorem Kept.upd{K:Nat→Prop}{b b':Blk}(h:Kept K b b'){k:Nat}(hk:K k)(x:Nat × Option Ob):Kept K b (upd b' k x):=fun id hn=>by
 rw[upd_apply,if_neg (by rintro rfl;exact hn hk)];exact h id hn
theorem gP_sc{f:Nat}{vs:List V}{v:V}{blk':Blk}(hh:al.holds (allow (S.ctx al) f vs blk)=true)(h:SEv S f vs (allow (S.ctx al) f vs blk) blk v blk'):gP S al (.sc f vs) d os Q env blk↔RN S al os Q (put env d v) blk':=by
 constructor
 ·rintro ⟨_,v2,b2,h2,h3⟩
  obtain⟨rfl,rfl⟩:=h.det h2;exact h3
 ·intro h3;exact⟨hh,v,blk',h,h3⟩
theorem gP_call_al{f:Nat}{vs:List V}{rd:List Nat}{s:Nat}{x:PV}(h:PEv S f vs (.one (.p x)))(hs:x.scalar=true):gP S al (.pc f vs rd s) d os Q env blk↔al.oks (rd++[])=true∧RN S al os Q (put env d (.one (.p x))) blk:=by
 constructor
 ·rintro ⟨y,hy,h2⟩
  have:=hy.det h;subst this;rw[land_scalar hs] at h2;exact h2
 ·rintro ⟨ho,hK⟩
  refine⟨_,h,?_⟩;rw[land_scalar hs];exact⟨ho,hK⟩
theorem gP_int_al{f:Nat}{vs:List V}{rd:List Nat}{s:Nat}{k:IntKind}{x:Int}(h:PEv S f vs (.one (.p (.int k x)))):gP S al (.pc f vs rd s) d os Q env blk↔al.oks (rd++[])=true∧RN S al os Q (put env d (.one (.p (.int k x)))) blk:=gP_call_al h rfl
theorem gP_bool_al{f:Nat}{vs:List V}{rd:List Nat}{s:Nat}{x:Bool}(h:PEv S f vs (.one (.p (.bool x)))):gP S al (.pc f vs rd s) d os Q env blk↔al.oks (rd++[])=true∧RN S al os Q (put env d (.one (.p (.bool x)))) blk:=gP_call_al h rfl
theorem findK_ints{f:Int→List PV}(q:Int): ∀ (ids:List Int) (i:Nat),findK (.int .i64 q) (ids.map fun id=>(PV.int .i64 id,f id)) i=some (if q∈ids then some (i+ids.idxOf q,f q) else none):=by
 intro ids
 induction ids with
 |nil=>intro i;rfl
 |cons a ids ih=>
  intro i;simp only[List.map_cons,findK,sameKey,if_true];by_cases e:q=a
  ·subst e;simp
  ·have e':(q==a)=false:=by simpa using e
   have e2: ¬ (a=q):=fun h=>e h.symm
   simp only[e'];rw[ih];simp only[List.mem_cons,e,false_or,List.idxOf_cons,beq_iff_eq,e2,cond_false];by_cases h:q∈ids
   ·have e3:(a==q)=false:=by simpa using e2
    simp[h,e3];omega
   ·simp[h]
theorem gP_sc2{f:Nat}{vs:List V}{P:V→Blk→Prop}(hh:al.holds (allow (S.ctx al) f vs blk)=true)(h: ∃ v blk',SEv S f vs (allow (S.ctx al) f vs blk) blk v blk'∧P v blk')
  (hK: ∀ v blk',P v blk'→RN S al os Q (put env d v) blk'):gP S al (.sc f vs) d os Q env blk:=by
 obtain⟨v,blk',h1,h2⟩:=h;exact(gP_sc hh h1).2 (hK v blk' h2)
theorem holds_all{al2:Al}:Al.all.holds al2=true:=rfl
theorem holds_of{al2:Al}(h1:al.oks al2.ids=true)(h2:al2.fs.all al.fs.contains=true):al.holds al2=true:=by
 unfold Al.holds;rw[h1,h2];simp
theorem allow_ok{f:Nat}{vs:List V}{id:Nat}(h:(S.sites f).contains (siteFn id)=true):(allow (S.ctx al) f vs blk).ok id=true:=by
 show(false||_||(S.sites f).contains (siteFn id))=true;rw[h];simp
theorem allow_okI{f:Nat}{vs:List V}{id:Nat}(h:id∈(vs.map (reachV blk)).flatten):(allow (S.ctx al) f vs blk).ok id=true:=by
 show(false||(vs.map (reachV blk)).flatten.contains id||_)=true;have:(vs.map (reachV blk)).flatten.contains id=true:=by simpa using h
 rw[this];rfl
theorem reach_var{id g g0 o:Nat}{cs:List C}(h:blk id=(g0,some (.var cs))):reachV blk (.one (.href id g o))=id::(cs.map (reachC blk 5)).flatten:=by
 show reachC blk 6 (.href id g o)=_;rw[reachC,h]
theorem reach_p{n:Nat}{v:PV}:reachC blk n (.p v)=[]:=by cases n<;>rfl
theorem reach_arr{id g g0 z o l ty sz n:Nat}{es:List (List PV)}(h:blk id=(g0,some (.arr ty sz es))):reachC blk (n+1) (.hsl id g z o l)=[id]:=by
 rw[reachC,h]
def snapHmap(x:Nat × Option Ob)(id g:Nat):Option (PV × List Nat):=match x with
 |(g',some (.map ag es))=>if g'=g then some (.mp ag es,[id]) else none
 |(g',some (.fmap ag es))=>if g'=g then some (.mp ag es,[id]) else none
 |_=>none
theorem snap_hmap{n id g:Nat}:snap blk (n+1) (.hmap id g)=snapHmap (blk id) id g:=by
 rw[snap];rfl
end
theorem Rd:type_of%(And.intro @R_seq<|And.intro @R_text<|And.intro @R_draw<|And.intro @W_block_iff<|And.intro @R_cond<|And.intro @RN_op<|And.intro @RN_guard<|And.intro @RN_nil<|And.intro @RD_op<|And.intro @RD_guard<|And.intro @RD_nil<|And.intro @W_ret_iff<|And.intro @W_skip_iff<|And.intro @W_exit_iff<|And.intro @thenW_normal<|And.intro @thenW_exit<|And.intro @thenW_ret<|And.intro @blockQ_normal<|And.intro @blockQ_ret<|And.intro @blockQ_exit<|And.intro @nextQ_normal<|And.intro @nextQ_exit<|And.intro @nextQ_ret<|And.intro @loopQ_normal<|And.intro @loopQ_exit @loopQ_ret):=And.intro @R_seq<|And.intro @R_text<|And.intro @R_draw<|And.intro @W_block_iff<|And.intro @R_cond<|And.intro @RN_op<|And.intro @RN_guard<|And.intro @RN_nil<|And.intro @RD_op<|And.intro @RD_guard<|And.intro @RD_nil<|And.intro @W_ret_iff<|And.intro @W_skip_iff<|And.intro @W_exit_iff<|And.intro @thenW_normal<|And.intro @thenW_exit<|And.intro @thenW_ret<|And.intro @blockQ_normal<|And.intro @blockQ_ret<|And.intro @blockQ_exit<|And.intro @nextQ_normal<|And.intro @nextQ_exit<|And.intro @nextQ_ret<|And.intro @loopQ_normal<|And.intro @loopQ_exit @loopQ_ret
theorem Rt:type_of%(And.intro @cW_true<|And.intro @cW_false<|And.intro @gW_true<|And.intro @gW_false<|And.intro @dW_true<|And.intro @dW_false<|And.intro @wantV_bool<|And.intro @wantV_undef<|And.intro @ev_t<|And.intro @ev_i<|And.intro @ev_b<|And.intro @ev_k<|And.intro @put_some<|And.intro @put_none<|And.intro @upd_apply<|And.intro @ienv_zero<|And.intro @ienv_succ<|And.intro @E_ret<|And.intro @E_normal<|And.intro @endV_some<|And.intro @outV_p<|And.intro @norm_int<|And.intro @norm_bool<|And.intro @norm_str<|And.intro @norm_nils<|And.intro @norm_sl<|And.intro @norm_box<|And.intro @norm_fn<|And.intro @norm_nilp<|And.intro @norm_nilf<|And.intro @norm_nilm<|And.intro @norm_mp<|And.intro @snapVs_nil<|And.intro @snapVs_cons<|And.intro @snapCons_some<|And.intro @snapV_p<|And.intro @bft<|And.intro @btf<|And.intro @bff<|And.intro @btt<|And.intro @asN_nat<|And.intro @snap_p<|And.intro @consR_some<|And.intro @collect_nil<|And.intro @collect_cons<|And.intro @snapV_agg<|And.intro @asN_lit<|And.intro @snapV_one<|And.intro @snap_hsl<|And.intro @snap_href @snap_ps):=And.intro @cW_true<|And.intro @cW_false<|And.intro @gW_true<|And.intro @gW_false<|And.intro @dW_true<|And.intro @dW_false<|And.intro @wantV_bool<|And.intro @wantV_undef<|And.intro @ev_t<|And.intro @ev_i<|And.intro @ev_b<|And.intro @ev_k<|And.intro @put_some<|And.intro @put_none<|And.intro @upd_apply<|And.intro @ienv_zero<|And.intro @ienv_succ<|And.intro @E_ret<|And.intro @E_normal<|And.intro @endV_some<|And.intro @outV_p<|And.intro @norm_int<|And.intro @norm_bool<|And.intro @norm_str<|And.intro @norm_nils<|And.intro @norm_sl<|And.intro @norm_box<|And.intro @norm_fn<|And.intro @norm_nilp<|And.intro @norm_nilf<|And.intro @norm_nilm<|And.intro @norm_mp<|And.intro @snapVs_nil<|And.intro @snapVs_cons<|And.intro @snapCons_some<|And.intro @snapV_p<|And.intro @bft<|And.intro @btf<|And.intro @bff<|And.intro @btt<|And.intro @asN_nat<|And.intro @snap_p<|And.intro @consR_some<|And.intro @collect_nil<|And.intro @collect_cons<|And.intro @snapV_agg<|And.intro @asN_lit<|And.intro @snapV_one<|And.intro @snap_hsl<|And.intro @snap_href @snap_ps
theorem Rl:type_of%(And.intro @List.map_nil.{0,0}<|And.intro @List.append_nil.{0}<|And.intro @List.map_cons.{0,0}<|And.intro @List.cons_append.{0}<|And.intro @List.nil_append.{0}<|And.intro @List.drop_zero.{0}<|And.intro @List.take_zero.{0}<|And.intro @List.length_cons.{0}<|And.intro @List.length_nil.{0}<|And.intro @List.take_succ_cons.{0}<|And.intro @List.drop_nil.{0}<|And.intro @List.drop_succ_cons.{0}<|And.intro @List.length_map.{0,0}<|And.intro @List.take_nil.{0}<|And.intro @List.flatten_cons.{0}<|And.intro @List.getElem?_cons_zero.{0}<|And.intro @List.getElem?_cons_succ.{0}<|And.intro @List.all_nil.{0}<|And.intro @List.all_cons.{0}<|And.intro @List.not_mem_nil.{0} @Option.map_some.{0,0}):=And.intro @List.map_nil.{0,0}<|And.intro @List.append_nil.{0}<|And.intro @List.map_cons.{0,0}<|And.intro @List.cons_append.{0}<|And.intro @List.nil_append.{0}<|And.intro @List.drop_zero.{0}<|And.intro @List.take_zero.{0}<|And.intro @List.length_cons.{0}<|And.intro @List.length_nil.{0}<|And.intro @List.take_succ_cons.{0}<|And.intro @List.drop_nil.{0}<|And.intro @List.drop_succ_cons.{0}<|And.intro @List.length_map.{0,0}<|And.intro @List.take_nil.{0}<|And.intro @List.flatten_cons.{0}<|And.intro @List.getElem?_cons_zero.{0}<|And.intro @List.getElem?_cons_succ.{0}<|And.intro @List.all_nil.{0}<|And.intro @List.all_cons.{0}<|And.intro @List.not_mem_nil.{0} @Option.map_some.{0,0}
theorem Rb:type_of%(And.intro @Bool.false_eq_true<|And.intro @Bool.not_true<|And.intro @Bool.not_false<|And.intro @Bool.and_true<|And.intro @Bool.and_false<|And.intro @Bool.true_and<|And.intro @Bool.false_and<|And.intro @true_and<|And.intro @and_true<|And.intro @true_or<|And.intro @or_true<|And.intro @false_or<|And.intro @or_false<|And.intro @decide_true<|And.intro @decide_false<|And.intro @not_true_eq_false<|And.intro @not_false_eq_true<|And.intro @and_self<|And.intro @Nat.le_refl<|And.intro @Nat.zero_add<|And.intro @Nat.mul_one<|And.intro @Nat.zero_mul<|And.intro @Nat.zero_le<|And.intro @Nat.sub_zero @Int.zero_add):=And.intro @Bool.false_eq_true<|And.intro @Bool.not_true<|And.intro @Bool.not_false<|And.intro @Bool.and_true<|And.intro @Bool.and_false<|And.intro @Bool.true_and<|And.intro @Bool.false_and<|And.intro @true_and<|And.intro @and_true<|And.intro @true_or<|And.intro @or_true<|And.intro @false_or<|And.intro @or_false<|And.intro @decide_true<|And.intro @decide_false<|And.intro @not_true_eq_false<|And.intro @not_false_eq_true<|And.intro @and_self<|And.intro @Nat.le_refl<|And.intro @Nat.zero_add<|And.intro @Nat.mul_one<|And.intro @Nat.zero_mul<|And.intro @Nat.zero_le<|And.intro @Nat.sub_zero @Int.zero_add
def grown(site ty z:Nat)(es:List (List PV))(v:V)(blk:Blk):Prop:=(es=[]∧v= .one (.p .nils))∨(es≠[]∧ ∃ g,v= .one (.hsl site g z 0 es.length)∧blk site=(g,some (.arr ty z es)))
def grownR(ty z:Nat)(es:List (List PV)):RC:=if es=[] then .p .nils else .own ty z es
theorem grown.of_eq{site ty z:Nat}{es:List (List PV)}{v:V}{blk blk':Blk}(h:grown site ty z es v blk)(hb:blk' site=blk site):grown site ty z es v blk':=by
 rcases h with h|⟨h1,g,h2,h3⟩
 ·exact .inl h
 ·exact .inr ⟨h1,g,h2,by rw[hb,h3]⟩
theorem grown.nil{site ty z:Nat}{blk:Blk}:grown site ty z [] (.one (.p .nils)) blk:= .inl ⟨rfl,rfl⟩
theorem grown.outC{site ty z:Nat}{es:List (List PV)}{v:V}{blk:Blk}(h:grown site ty z es v blk): ∃ c o,v= .one c∧outC blk c=some (grownR ty z es,o,[])∧(o=[]∨o=[site]):=by
 rcases h with ⟨h1,h2⟩|⟨h1,g,h2,h3⟩
 ·exact⟨.p .nils,[],h2,by simp[Go.Abs.outC,grownR,h1], .inl rfl⟩
 ·refine⟨_,[site],h2,?_, .inr rfl⟩;simp only[Go.Abs.outC,h3,and_self,Nat.le_refl,if_true,List.take_length,grownR,if_neg h1]
theorem grown_out{site ty z:Nat}{es:List (List PV)}{v:V}{blk:Blk}(h:grown site ty z es v blk):outV blk v=some (.one (grownR ty z es)):=by
 obtain⟨c,o,rfl,h2,h3⟩:=h.outC;rcases h3 with rfl|rfl
 ·simp[outV,flatV,flatV1,outCs,h2,apart,reshR,reshR1]
 ·simp[outV,flatV,flatV1,outCs,h2,apart,reshR,reshR1]
theorem grown_out2{s1 t1 z1 s2 t2 z2:Nat}{es fs:List (List PV)}{v w:V}{blk:Blk}(hs:s1≠s2)(h:grown s1 t1 z1 es v blk)(h':grown s2 t2 z2 fs w blk):outV blk (.tup [v,w])=some (.tup [.one (grownR t1 z1 es), .one (grownR t2 z2 fs)]):=by
 obtain⟨c,o,rfl,h2,h3⟩:=h.outC;obtain⟨d,q,rfl,k2,k3⟩:=h'.outC;rcases h3 with rfl|rfl<;>rcases k3 with rfl|rfl<;>simp[outV,flatV,flatVs,flatV1,outCs,h2,k2,apart,reshR,reshR1,reshRs,hs]
theorem grown.elems{site ty z:Nat}{es:List (List PV)}{v:V}{blk:Blk}(h:grown site ty z es v blk): ∃ r,elemsOf blk v=some (es,r,[])∧(r=[]∨r=[site]):=by
 rcases h with ⟨h1,h2⟩|⟨h1,g,h2,h3⟩
 ·exact⟨[],by rw[h2,h1];rfl, .inl rfl⟩
 ·refine⟨[site],?_, .inr rfl⟩;rw[h2];simp[elemsOf,h3]
theorem grown.szOf{site ty z:Nat}{es:List (List PV)}{v:V}{blk:Blk}(h:grown site ty z es v blk):es=[]∨szOf v=some z:=by
 rcases h with ⟨h1,h2⟩|⟨h1,g,h2,h3⟩
 ·exact .inl h1
 ·exact .inr (by rw[h2];rfl)
theorem grown.szOK{site ty z:Nat}{es:List (List PV)}{v:V}{blk:Blk}(h:grown site ty z es v blk):Go.Abs.szOf v=some z∨szOK z es=true:=by
 rcases h.szOf with h|h
 ·exact .inr (by rw[h];rfl)
 ·exact .inl h
theorem grown.len{site ty z:Nat}{es:List (List PV)}{v:V}{blk:Blk}(h:grown site ty z es v blk):lenL v=some es.length:=by
 rcases h with ⟨h1,h2⟩|⟨h1,g,h2,h3⟩
 ·rw[h1,h2];rfl
 ·rw[h2];rfl
theorem grown.snap{site ty z:Nat}{es:List (List PV)}{v:V}{blk:Blk}(h:grown site ty z es v blk): ∃ r,snapV blk v=some (.one (.p (.sl es)),r)∧(r=[]∨r=[site]):=by
 rcases h with ⟨h1,h2⟩|⟨h1,g,h2,h3⟩
 ·exact⟨[],by rw[h2,h1];rfl, .inl rfl⟩
 ·refine⟨[site],?_, .inr rfl⟩;rw[h2];simp[snapV,snapN,Go.Abs.snap,h3]
theorem grown.snapC{site ty z:Nat}{es:List (List PV)}{c:C}{blk:Blk}(h:grown site ty z es (.one c) blk){n:Nat}: ∃ r,Go.Abs.snap blk (n+1) c=some (.sl es,r)∧(r=[]∨r=[site]):=by
 rcases h with ⟨h1,h2⟩|⟨h1,g,h2,h3⟩
 ·cases h2;exact⟨[],by rw[h1];rfl, .inl rfl⟩
 ·refine⟨[site],?_, .inr rfl⟩;cases h2
  simp[Go.Abs.snap,h3]
section
variable {S:Sys} {al:Al} {Q:Post} {env:Env} {blk:Blk} {os all:List IOper} {tr:List Eff} {d:Option Nat}
theorem planAppend_grown{id site ty z bytes:Nat}{es xs:List (List PV)}{v x:V}{rd:List Nat}(hg:grown id ty z es v blk)(hx:elemsOf blk x=some (xs,rd,[]))(hz:szOf x=some z∨szOK z xs=true)(hr:(es.length+xs.length)*bytes≤140737488355328):
  ∃ v' u r,planAppend blk site ty z bytes v x= .done v' u r∧grown site ty z (es++xs) v' (app u blk)∧(∀ i,i≠site→i≠id→app u blk i=blk i)∧(r=rd∧u.map (·.1)=[]∨r=site::rd∧u.map (·.1)=[site]∨r=site::id::rd∧u.map (·.1)=[id,site]):=by
 have hz': ¬¬(szOf x=some z∨szOK z xs=true):=fun h=>h hz
 rcases hg with ⟨rfl,rfl⟩|⟨hne,g,rfl,hC⟩
 ·by_cases h0:xs=[]
  ·subst h0;refine⟨.one (.p .nils),[],rd,?_, .inl ⟨rfl,rfl⟩,fun i _ _=>rfl, .inl ⟨rfl,rfl⟩⟩;simp[planAppend,hx,hz',frz,frzL]
  ·have hl: ¬ xs.length=0:=by simpa using h0
   have hr':xs.length*bytes≤room:=by simpa [room] using hr
   refine⟨.one (.hsl site ((blk site).1+1) z 0 xs.length),[(site,((blk site).1+1,some (.arr ty z xs)))],site::rd,?_, .inr ⟨by simpa using h0,(blk site).1+1,by simp,?_⟩,fun i h1 _=> ?_, .inr (.inl ⟨rfl,rfl⟩)⟩
   ·simp only[planAppend,hx,if_neg hz',frz,frzL,if_neg hl,if_pos hr'];simp
   ·simp[app,upd_apply]
   ·simp[app,upd_apply,h1]
 ·have hr':(es.length+xs.length)*bytes≤room:=by simpa [room] using hr
  refine⟨.one (.hsl site ((blk site).1+1) z 0 (es.length+xs.length)),[(id,(g,none)),(site,((blk site).1+1,some (.arr ty z (es++xs))))],site::id::rd,?_, .inr ⟨by simp[hne],(blk site).1+1,by simp,?_⟩,fun i h1 h2=> ?_, .inr (.inr ⟨rfl,rfl⟩)⟩
  ·simp only[planAppend,hx,if_neg hz',frz,frzL,hC];simp[hr']
  ·simp[app,upd_apply]
  ·simp[app,upd_apply,h1,h2]
theorem gP_app{id site ty z bytes:Nat}{es xs:List (List PV)}{v x:V}{rd:List Nat}(hg:grown id ty z es v blk)(hx:elemsOf blk x=some (xs,rd,[]))(hz:szOf x=some z∨szOK z xs=true)(hr:(es.length+xs.length)*bytes≤140737488355328)
  (hK: ∀ (c:C) blk',grown site ty z (es++xs) (.one c) blk'→(∀ i,i≠site→i≠id→blk' i=blk i)→RN S .all os Q (put env d (.one c)) blk'):gP S .all (planAppend blk site ty z bytes v x) d os Q env blk:=by
 obtain⟨v',u,r,h1,h2,h3,_⟩:=planAppend_grown hg hx hz hr;obtain⟨c,o,rfl,_⟩:=h2.outC;rw[h1,gP_done];exact hK _ _ h2 h3
theorem dP_app{id site ty z bytes:Nat}{es xs:List (List PV)}{v x:V}{rd:List Nat}(hg:grown id ty z es v blk)(hx:elemsOf blk x=some (xs,rd,[]))(hz:szOf x=some z∨szOK z xs=true)(hr:(es.length+xs.length)*bytes≤140737488355328)
  (hK: ∀ (c:C) blk' r w,grown site ty z (es++xs) (.one c) blk'→(∀ i,i≠site→i≠id→blk' i=blk i)→(r=rd∧w=[]∨r=site::rd∧w=[site]∨r=site::id::rd∧w=[id,site])→RD S .all all os Q (put env d (.one c)) blk' (tr++[⟨r,w,[]⟩])):dP S .all (planAppend blk site ty z bytes v x) d all os Q env blk tr:=by
 obtain⟨v',u,r,h1,h2,h3,h4⟩:=planAppend_grown hg hx hz hr;obtain⟨c,o,rfl,_⟩:=h2.outC;rw[h1,dP_done];exact hK _ _ _ _ h2 h3 h4
theorem inC_grown{s ty z:Nat}{es:List (List PV)}:grown s ty z es (.one (inC blk s (grownR ty z es)).1) (app (inC blk s (grownR ty z es)).2 blk)∧(∀ i,i≠s→app (inC blk s (grownR ty z es)).2 blk i=blk i)∧((inC blk s (grownR ty z es)).2.map (·.1)=[]∨(inC blk s (grownR ty z es)).2.map (·.1)=[s]):=by
 unfold grownR;by_cases h:es=[]
 ·rw[if_pos h];exact⟨.inl ⟨h,rfl⟩,fun i _=>rfl, .inl rfl⟩
 ·rw[if_neg h];exact⟨.inr ⟨h,(blk s).1+1,rfl,by simp[inC,app,upd_apply]⟩,fun i hi=>by simp[inC,app,upd_apply,hi], .inr rfl⟩
theorem pureIf_false(r:RV):r.pureIf false=r:=rfl
theorem gP_g1{f:Nat}{vs:List V}{s ty z:Nat}{rd:List Nat}{es:List (List PV)}(hp:PEv S f vs (.one (grownR ty z es)))(hlo:S.lone s=false)(hrd:rd=[]∨(RV.one (grownR ty z es)).alone=true)
  (hK: ∀ (c:C) blk',grown s ty z es (.one c) blk'→(∀ i,i≠s→blk' i=blk i)→RN S .all os Q (put env d (.one c)) blk'):gP S .all (.pc f vs rd s) d os Q env blk:=by
 obtain⟨h1,h2,_⟩:=inC_grown (blk:=blk) (s:=s) (ty:=ty) (z:=z) (es:=es);refine(gP_land (v:= .one (inC blk s (grownR ty z es)).1) (u:=(inC blk s (grownR ty z es)).2) hp ?_).2 (hK _ _ h1 h2);rw[hlo,pureIf_false];unfold land;rw[if_pos hrd];simp[inV,flatR,flatR1,inCs,reshV,reshV1]
theorem gP_g2{f:Nat}{vs:List V}{s t1 z1 t2 z2:Nat}{es fs:List (List PV)}(hp:PEv S f vs (.tup [.one (grownR t1 z1 es), .one (grownR t2 z2 fs)]))(hlo:S.lone s=false)
  (hK: ∀ (c e:C) blk',grown s t1 z1 es (.one c) blk'→grown (s+1) t2 z2 fs (.one e) blk'→(∀ i,i≠s→i≠s+1→blk' i=blk i)→RN S .all os Q (put env d (.tup [.one c, .one e])) blk'):gP S .all (.pc f vs [] s) d os Q env blk:=by
 obtain⟨h1,h2,_⟩:=inC_grown (blk:=blk) (s:=s) (ty:=t1) (z:=z1) (es:=es);have e0: ∀ (b b':Blk) (k:Nat) (r:RC),b' k=b k→inC b k r=inC b' k r:=by
  intro b b' k r h;cases r with
  |p v=>rfl
  |own ty sz es=>simp only[inC,h]
 have e2:inC blk (s+1) (grownR t2 z2 fs)=inC (app (inC blk s (grownR t1 z1 es)).2 blk) (s+1) (grownR t2 z2 fs):=e0 _ _ _ _ (h2 (s+1) (by omega));obtain⟨k1,k2,_⟩:=inC_grown (blk:=app (inC blk s (grownR t1 z1 es)).2 blk) (s:=s+1) (ty:=t2) (z:=z2) (es:=fs);rw[← e2] at k1 k2;have happ: ∀ (a b:List Upd) (c:Blk),app (a++b) c=app b (app a c):=by
  intro a
  induction a with
  |nil=>intro b c;rfl
  |cons x a ih=>intro b c;exact ih b _
 refine(gP_land (v:= .tup [.one (inC blk s (grownR t1 z1 es)).1, .one (inC blk (s+1) (grownR t2 z2 fs)).1]) (u:=(inC blk s (grownR t1 z1 es)).2++(inC blk (s+1) (grownR t2 z2 fs)).2) hp ?_).2 (hK _ _ _ ?_ ?_ ?_)
 ·rw[hlo,pureIf_false];unfold land;rw[if_pos (.inl rfl)];simp[inV,flatR,flatRs,flatR1,inCs,reshV,reshVs,reshV1]
 ·rw[happ];exact h1.of_eq (k2 s (by omega))
 ·rw[happ];exact k1
 ·intro i a b;rw[happ,k2 i b,h2 i a]
end
theorem alone_grown{ty z:Nat}{es:List (List PV)}(h:(es.all fun e=>e.all PV.scalar)=true):(RV.one (grownR ty z es)).alone=true:=by
 unfold grownR;split
 ·rfl
 ·simp[RV.alone,flatR,flatR1,RC.alone,h]
theorem grown.snapN{site ty z:Nat}{es:List (List PV)}{c:C}{blk:Blk}(h:grown site ty z es (.one c) blk): ∃ r,Go.Abs.snap blk Go.Abs.snapN c=some (.sl es,r)∧(r=[]∨r=[site]):=h.snapC
def allArr(blk:Blk)(r:List Nat):Prop:= ∀ i∈r,∃ g ty z es,blk i=(g,some (.arr ty z es))
theorem allArr.nil{blk:Blk}:allArr blk []:=fun _ h=>by simp at h
theorem allArr.app{blk:Blk}{a b:List Nat}(h:allArr blk a)(k:allArr blk b):allArr blk (a++b):=fun i hi=>by
 rcases List.mem_append.1 hi with hi|hi
 ·exact h i hi
 ·exact k i hi
theorem grown.snapA{site ty z:Nat}{es:List (List PV)}{c:C}{blk:Blk}(h:grown site ty z es (.one c) blk): ∃ r,Go.Abs.snap blk Go.Abs.snapN c=some (.sl es,r)∧allArr blk r∧(r=[]∨r=[site]):=by
 rcases h with ⟨h1,h2⟩|⟨h1,g,h2,h3⟩
 ·cases h2;exact⟨[],by rw[h1];rfl,allArr.nil, .inl rfl⟩
 ·refine⟨[site],?_,fun i hi=> ?_, .inr rfl⟩
  ·cases h2
   simp[Go.Abs.snap,Go.Abs.snapN,h3]
  ·rw[List.mem_singleton] at hi;subst hi;exact⟨_,_,_,_,h3⟩
theorem frz_of{blk:Blk}(all:List Nat): ∀ r:List Nat,allArr blk r→ ∃ fu,frzL blk all r=some fu∧fu.map (·.1)=r:=by
 intro r
 induction r with
 |nil=>intro _;exact⟨[],rfl,rfl⟩
 |cons i r ih=>
  intro h;obtain⟨g,ty,z,es,hi⟩:=h i (by simp);obtain⟨fu,h1,h2⟩:=ih fun j hj=>h j (by simp[hj])
  refine⟨(i,(g,some (.farr ty z es)))::fu,?_,by simp[h2]⟩;simp[frzL,frz1,hi,h1]
theorem app_other: ∀ (u:List Upd) (b:Blk) (i:Nat),i∉u.map (·.1)→app u b i=b i:=by
 intro u
 induction u with
 |nil=>intro b i _;rfl
 |cons x u ih=>
  intro b i h;simp only[List.map_cons,List.mem_cons,not_or] at h;show app u (upd b x.1 x.2) i=b i;rw[ih _ _ h.2,upd_apply,if_neg h.1]
theorem app_app: ∀ (a b:List Upd) (c:Blk),app (a++b) c=app b (app a c):=by
 intro a
 induction a with
 |nil=>intro b c;rfl
 |cons x a ih=>intro b c;exact ih b _
section
variable {S:Sys} {al:Al} {Q:Post} {env:Env} {blk:Blk} {os all:List IOper} {tr:List Eff} {d:Option Nat}
theorem gP_appF{id site ty z bytes:Nat}{es xs:List (List PV)}{v x:V}{rd fr:List Nat}(hg:grown id ty z es v blk)(hx:elemsOf blk x=some (xs,rd,fr))(hfr:allArr blk fr)(hni:id∉fr)(hns:site∉fr)(hz:szOf x=some z∨szOK z xs=true)(hr:(es.length+xs.length)*bytes≤140737488355328)
  (hK: ∀ (c:C) blk',grown site ty z (es++xs) (.one c) blk'→(∀ i,i≠site→i≠id→i∉fr→blk' i=blk i)→RN S .all os Q (put env d (.one c)) blk'):gP S .all (planAppend blk site ty z bytes v x) d os Q env blk:=by
 have hz': ¬¬(szOf x=some z∨szOK z xs=true):=fun h=>h hz
 obtain⟨fu,hf1,hf2⟩:=frz_of fr fr hfr;have hf1':frz blk fr=some fu:=hf1;rcases hg with ⟨rfl,rfl⟩|⟨hne,g,rfl,hC⟩
 ·by_cases h0:xs=[]
  ·subst h0;have:planAppend blk site ty z bytes (.one (.p .nils)) x= .done (.one (.p .nils)) fu (rd++fr):=by simp[planAppend,hx,hz',hf1']
   rw[this,gP_done];exact hK _ _ (.inl ⟨rfl,rfl⟩) fun i _ _ h3=>app_other _ _ _ (by rw[hf2];exact h3)
  ·have hl: ¬ xs.length=0:=by simpa using h0
   have hr':xs.length*bytes≤room:=by simpa [room] using hr
   have:planAppend blk site ty z bytes (.one (.p .nils)) x= .done (.one (.hsl site ((blk site).1+1) z 0 xs.length)) (fu++[(site,((blk site).1+1,some (.arr ty z xs)))]) (site::rd++fr):=by
    simp only[planAppend,hx,if_neg hz',hf1',if_neg hl,if_pos hr']
   rw[this,gP_done];refine hK _ _ (.inr ⟨by simpa using h0,(blk site).1+1,by simp,?_⟩) fun i h1 _ h3=> ?_
   ·rw[app_app];simp[app,upd_apply]
   ·rw[app_app];have:=app_other fu blk i (by rw[hf2];exact h3);simp[app,upd_apply,h1,this]
 ·have hr':(es.length+xs.length)*bytes≤room:=by simpa [room] using hr
  have hnc:fr.contains id=false:=by simpa using hni
  have:planAppend blk site ty z bytes (.one (.hsl id g z 0 es.length)) x= .done (.one (.hsl site ((blk site).1+1) z 0 (es.length+xs.length))) (fu++[(id,(g,none)),(site,((blk site).1+1,some (.arr ty z (es++xs))))]) (site::id::rd++fr):=by
   simp only[planAppend,hx,if_neg hz',hf1',hC,hnc];simp[hr']
  rw[this,gP_done];refine hK _ _ (.inr ⟨by simp[hne],(blk site).1+1,by simp,?_⟩) fun i h1 h2 h3=> ?_
  ·rw[app_app];simp[app,upd_apply]
  ·rw[app_app];have:=app_other fu blk i (by rw[hf2];exact h3);simp[app,upd_apply,h1,h2,this]
end
section
variable {S:Sys} {al:Al} {Q:Post} {env:Env} {blk:Blk} {os all:List IOper} {tr:List Eff} {d:Option Nat}
theorem oks_of{l:List Nat}(h: ∀ i∈l,al.ok i=true):al.oks l=true:=List.all_eq_true.2 h
theorem gP_appA{id site ty z bytes:Nat}{es xs:List (List PV)}{v x:V}{rd:List Nat}(hok: ∀ i∈site::id::rd,al.ok i=true)(hg:grown id ty z es v blk)(hx:elemsOf blk x=some (xs,rd,[]))(hz:szOf x=some z∨szOK z xs=true)(hr:(es.length+xs.length)*bytes≤140737488355328)
  (hK: ∀ (c:C) blk',grown site ty z (es++xs) (.one c) blk'→(∀ i,i≠site→i≠id→blk' i=blk i)→RN S al os Q (put env d (.one c)) blk'):gP S al (planAppend blk site ty z bytes v x) d os Q env blk:=by
 obtain⟨v',u,r,h1,h2,h3,h4⟩:=planAppend_grown hg hx hz hr;obtain⟨c,o,rfl,_⟩:=h2.outC;rw[h1,gP_done_al];refine⟨?_,hK _ _ h2 h3⟩;rcases h4 with ⟨rfl,h5⟩|⟨rfl,h5⟩|⟨rfl,h5⟩<;>rw[h5]<;>refine oks_of fun i hi=>hok i ?_ <;>simp at hi ⊢
 ·exact .inr (.inr hi)
 ·rcases hi with h|h|h<;>simp[h]
 ·rcases hi with h|h|h|h|h<;>simp[h]
theorem dP_appA{id site ty z bytes:Nat}{es xs:List (List PV)}{v x:V}{rd:List Nat}(hok: ∀ i∈site::id::rd,al.ok i=true)(hg:grown id ty z es v blk)(hx:elemsOf blk x=some (xs,rd,[]))(hz:szOf x=some z∨szOK z xs=true)(hr:(es.length+xs.length)*bytes≤140737488355328)
  (hK: ∀ (c:C) blk' r w,grown site ty z (es++xs) (.one c) blk'→(∀ i,i≠site→i≠id→blk' i=blk i)→(r=rd∧w=[]∨r=site::rd∧w=[site]∨r=site::id::rd∧w=[id,site])→RD S al all os Q (put env d (.one c)) blk' (tr++[⟨r,w,[]⟩])):dP S al (planAppend blk site ty z bytes v x) d all os Q env blk tr:=by
 obtain⟨v',u,r,h1,h2,h3,h4⟩:=planAppend_grown hg hx hz hr;obtain⟨c,o,rfl,_⟩:=h2.outC;rw[h1,dP_done_al];refine⟨?_,hK _ _ _ _ h2 h3 h4⟩;rcases h4 with ⟨rfl,h5⟩|⟨rfl,h5⟩|⟨rfl,h5⟩<;>rw[h5]<;>refine oks_of fun i hi=>hok i ?_ <;>simp at hi ⊢
 ·exact .inr (.inr hi)
 ·rcases hi with h|h|h<;>simp[h]
 ·rcases hi with h|h|h|h|h<;>simp[h]
theorem gP_g2A{f:Nat}{vs:List V}{s t1 z1 t2 z2:Nat}{rd:List Nat}{es fs:List (List PV)}(hok: ∀ i∈s::(s+1)::rd,al.ok i=true)(hp:PEv S f vs (.tup [.one (grownR t1 z1 es), .one (grownR t2 z2 fs)]))(hlo:S.lone s=false)
  (hs1:(es.all fun e=>e.all PV.scalar)=true) (hs2:(fs.all fun e=>e.all PV.scalar)=true)
  (hK: ∀ (c e:C) blk',grown s t1 z1 es (.one c) blk'→grown (s+1) t2 z2 fs (.one e) blk'→(∀ i,i≠s→i≠s+1→blk' i=blk i)→RN S al os Q (put env d (.tup [.one c, .one e])) blk'):gP S al (.pc f vs rd s) d os Q env blk:=by
 have hal:(RV.tup [.one (grownR t1 z1 es), .one (grownR t2 z2 fs)]).alone=true:=by
  have a:=alone_grown (ty:=t1) (z:=z1) hs1;have b:=alone_grown (ty:=t2) (z:=z2) hs2;simp only[RV.alone,flatR,flatR1,List.all_cons,List.all_nil,Bool.and_true] at a b;simp[RV.alone,flatR,flatRs,flatR1,a,b]
 obtain⟨h1,h2,h2u⟩:=inC_grown (blk:=blk) (s:=s) (ty:=t1) (z:=z1) (es:=es);have e0: ∀ (b b':Blk) (k:Nat) (r:RC),b' k=b k→inC b k r=inC b' k r:=by
  intro b b' k r h;cases r with
  |p v=>rfl
  |own ty sz es=>simp only[inC,h]
 have e2:inC blk (s+1) (grownR t2 z2 fs)=inC (app (inC blk s (grownR t1 z1 es)).2 blk) (s+1) (grownR t2 z2 fs):=e0 _ _ _ _ (h2 (s+1) (by omega));obtain⟨k1,k2,k2u⟩:=inC_grown (blk:=app (inC blk s (grownR t1 z1 es)).2 blk) (s:=s+1) (ty:=t2) (z:=z2) (es:=fs);rw[← e2] at k1 k2 k2u;refine⟨_,hp,?_⟩;rw[hlo,pureIf_false];have hl:land blk rd s (RV.tup [.one (grownR t1 z1 es), .one (grownR t2 z2 fs)])=some (.tup [.one (inC blk s (grownR t1 z1 es)).1, .one (inC blk (s+1) (grownR t2 z2 fs)).1],(inC blk s (grownR t1 z1 es)).2++(inC blk (s+1) (grownR t2 z2 fs)).2):=by
  unfold land;rw[if_pos (.inr hal)];simp[inV,flatR,flatRs,flatR1,inCs,reshV,reshVs,reshV1]
 rw[hl];refine⟨oks_of fun i hi=>hok i ?_,hK _ _ _ ?_ ?_ ?_⟩
 ·simp only[List.map_append,List.mem_append] at hi;rcases hi with hi|hi|hi
  ·simp[hi]
  ·rcases h2u with h|h<;>rw[h] at hi<;>simp at hi<;>simp[hi]
  ·rcases k2u with h|h<;>rw[h] at hi<;>simp at hi<;>simp[hi]
 ·rw[app_app];exact h1.of_eq (k2 s (by omega))
 ·rw[app_app];exact k1
 ·intro i a b;rw[app_app,k2 i b,h2 i a]
end
theorem upd_ne{b:Blk}{a i:Nat}{x:Nat × Option Ob}(h:i≠a):upd b a x i=b i:=by rw[upd_apply,if_neg h]
theorem upd_eq{b:Blk}{a:Nat}{x:Nat × Option Ob}:upd b a x a=x:=by rw[upd_apply,if_pos rfl]
theorem ne_of'{a i:Nat}{l:List Nat}(h:i∉l)(ha:a∈l):i≠a:=fun e=>h (e▸ha)
section
variable {S:Sys} {al:Al} {Q:Post} {env:Env} {blk:Blk} {os all:List IOper} {tr:List Eff} {d:Option Nat}
theorem gP_g1p{f:Nat}{vs:List V}{s ty z:Nat}{es:List (List PV)}{x:PV}(hp:PEv S f vs (.tup [.one (grownR ty z es), .one (.p x)]))(hlo:S.lone s=false)
  (hK: ∀ (c:C) blk',grown s ty z es (.one c) blk'→(∀ i,i≠s→blk' i=blk i)→RN S .all os Q (put env d (.tup [.one c, .one (.p x)])) blk'):gP S .all (.pc f vs [] s) d os Q env blk:=by
 obtain⟨h1,h2,_⟩:=inC_grown (blk:=blk) (s:=s) (ty:=ty) (z:=z) (es:=es);refine(gP_land (v:= .tup [.one (inC blk s (grownR ty z es)).1, .one (.p x)]) (u:=(inC blk s (grownR ty z es)).2) hp ?_).2 (hK _ _ h1 h2);rw[hlo,pureIf_false];unfold land;rw[if_pos (.inl rfl)];simp[inV,flatR,flatRs,flatR1,inCs,reshV,reshVs,reshV1,inC]
theorem dP_g1{f:Nat}{vs:List V}{s ty z:Nat}{rd:List Nat}{es:List (List PV)}(hp:PEv S f vs (.one (grownR ty z es)))(hlo:S.lone s=false)(hrd:rd=[]∨(RV.one (grownR ty z es)).alone=true)
  (hK: ∀ (c:C) blk' w,grown s ty z es (.one c) blk'→(∀ i,i≠s→blk' i=blk i)→(w=[]∨w=[s])→RD S .all all os Q (put env d (.one c)) blk' (tr++[⟨rd++w,w,[]⟩])):dP S .all (.pc f vs rd s) d all os Q env blk tr:=by
 obtain⟨h1,h2,h3⟩:=inC_grown (blk:=blk) (s:=s) (ty:=ty) (z:=z) (es:=es);refine(dP_land (v:= .one (inC blk s (grownR ty z es)).1) (u:=(inC blk s (grownR ty z es)).2) hp ?_).2 (hK _ _ _ h1 h2 h3);rw[hlo,pureIf_false];unfold land;rw[if_pos hrd];simp[inV,flatR,flatR1,inCs,reshV,reshV1]
theorem dP_g1p{f:Nat}{vs:List V}{s ty z:Nat}{es:List (List PV)}{x:PV}(hp:PEv S f vs (.tup [.one (grownR ty z es), .one (.p x)]))(hlo:S.lone s=false)
  (hK: ∀ (c:C) blk' w,grown s ty z es (.one c) blk'→(∀ i,i≠s→blk' i=blk i)→(w=[]∨w=[s])→RD S .all all os Q (put env d (.tup [.one c, .one (.p x)])) blk' (tr++[⟨[]++w,w,[]⟩])):dP S .all (.pc f vs [] s) d all os Q env blk tr:=by
 obtain⟨h1,h2,h3⟩:=inC_grown (blk:=blk) (s:=s) (ty:=ty) (z:=z) (es:=es);refine(dP_land (v:= .tup [.one (inC blk s (grownR ty z es)).1, .one (.p x)]) (u:=(inC blk s (grownR ty z es)).2) hp ?_).2 (hK _ _ _ h1 h2 h3);rw[hlo,pureIf_false];unfold land;rw[if_pos (.inl rfl)];simp[inV,flatR,flatRs,flatR1,inCs,reshV,reshVs,reshV1,inC]
theorem gP_gA{f:Nat}{vs:List V}{s ty z:Nat}{rd:List Nat}{es:List (List PV)}{x:PV}(hp:PEv S f vs (.agg [.p x,grownR ty z es]))(hlo:S.lone s=false)(hx:x.scalar=true)(hs:(es.all fun e=>e.all PV.scalar)=true)
  (hK: ∀ (c:C) blk',grown (s+1) ty z es (.one c) blk'→(∀ i,i≠s+1→blk' i=blk i)→RN S .all os Q (put env d (.agg [.p x,c])) blk'):gP S .all (.pc f vs rd s) d os Q env blk:=by
 obtain⟨h1,h2,_⟩:=inC_grown (blk:=blk) (s:=s+1) (ty:=ty) (z:=z) (es:=es);have hal:(RV.agg [.p x,grownR ty z es]).alone=true:=by
  have a:=alone_grown (ty:=ty) (z:=z) hs;simp only[RV.alone,flatR,flatR1,List.all_cons,List.all_nil,Bool.and_true] at a;simp only[RV.alone,flatR,flatR1,List.all_cons,List.all_nil,Bool.and_true,a];exact hx
 refine(gP_land (v:= .agg [.p x,(inC blk (s+1) (grownR ty z es)).1]) (u:=(inC blk (s+1) (grownR ty z es)).2) hp ?_).2 (hK _ _ h1 h2);rw[hlo,pureIf_false];unfold land;rw[if_pos (.inr hal)];simp[inV,flatR,flatR1,inCs,reshV,reshV1,inC]
theorem gP_gT{f:Nat}{vs:List V}{s ty z:Nat}{es:List (List PV)}{x y:PV}(hp:PEv S f vs (.tup [.agg [.p x,grownR ty z es], .one (.p y)]))(hlo:S.lone s=false)
  (hK: ∀ (c:C) blk',grown (s+1) ty z es (.one c) blk'→(∀ i,i≠s+1→blk' i=blk i)→RN S .all os Q (put env d (.tup [.agg [.p x,c], .one (.p y)])) blk'):gP S .all (.pc f vs [] s) d os Q env blk:=by
 obtain⟨h1,h2,_⟩:=inC_grown (blk:=blk) (s:=s+1) (ty:=ty) (z:=z) (es:=es);refine(gP_land (v:= .tup [.agg [.p x,(inC blk (s+1) (grownR ty z es)).1], .one (.p y)]) (u:=(inC blk (s+1) (grownR ty z es)).2) hp ?_).2 (hK _ _ h1 h2);rw[hlo,pureIf_false];unfold land;rw[if_pos (.inl rfl)];simp[inV,flatR,flatRs,flatR1,inCs,reshV,reshVs,reshV1,inC]
theorem gP_gTr{f:Nat}{vs:List V}{s ty z:Nat}{rd:List Nat}{es:List (List PV)}{x y:PV}(hp:PEv S f vs (.tup [.agg [.p x,grownR ty z es], .one (.p y)]))(hlo:S.lone s=false)(hx:x.scalar=true)(hy:y.scalar=true)(hs:(es.all fun e=>e.all PV.scalar)=true)
  (hK: ∀ (c:C) blk',grown (s+1) ty z es (.one c) blk'→(∀ i,i≠s+1→blk' i=blk i)→RN S .all os Q (put env d (.tup [.agg [.p x,c], .one (.p y)])) blk'):gP S .all (.pc f vs rd s) d os Q env blk:=by
 obtain⟨h1,h2,_⟩:=inC_grown (blk:=blk) (s:=s+1) (ty:=ty) (z:=z) (es:=es);have hal:(RV.tup [.agg [.p x,grownR ty z es], .one (.p y)]).alone=true:=by
  have a:=alone_grown (ty:=ty) (z:=z) hs;simp only[RV.alone,flatR,flatR1,List.all_cons,List.all_nil,Bool.and_true] at a;simp only[RV.alone,flatR,flatRs,flatR1,List.cons_append,List.nil_append,List.append_nil,List.all_cons,List.all_nil,Bool.and_true,a,Bool.true_and];show(x.scalar&&y.scalar)=true;rw[hx,hy];rfl
 refine(gP_land (v:= .tup [.agg [.p x,(inC blk (s+1) (grownR ty z es)).1], .one (.p y)]) (u:=(inC blk (s+1) (grownR ty z es)).2) hp ?_).2 (hK _ _ h1 h2);rw[hlo,pureIf_false];unfold land;rw[if_pos (.inr hal)];simp[inV,flatR,flatRs,flatR1,inCs,reshV,reshVs,reshV1,inC]
end
theorem grown_outT{s1 t1 z1:Nat}{es:List (List PV)}{c:C}{x y:PV}{blk:Blk}(h:grown s1 t1 z1 es (.one c) blk):outV blk (.tup [.agg [.p x,c], .one (.p y)])=some (.tup [.agg [.p x,grownR t1 z1 es], .one (.p y)]):=by
 obtain⟨c',o,hc,h2,h3⟩:=h.outC;cases hc
 have e1:outC blk (.p x)=some (.p x,[],[]):=rfl;have e2:outC blk (.p y)=some (.p y,[],[]):=rfl;rcases h3 with rfl|rfl<;>simp[outV,flatV,flatVs,flatV1,outCs,h2,e1,e2,apart,reshR,reshR1,reshRs]
section
variable {S:Sys} {al:Al} {Q:Post} {env:Env} {blk:Blk} {os all:List IOper} {tr:List Eff} {d:Option Nat} {op:IOp} {w:Option Bool} {a b:ICode} {v:V}
theorem gW_env(L:List Nat)(h: ∀ e:Env,(∀ k∈L,e k=env k)→gW S al w d op os Q e blk):gW S al w d op os Q env blk:=h env fun _ _=>rfl
theorem dW_env(L:List Nat)(h: ∀ e:Env,(∀ k∈L,e k=env k)→dW S al w d op all os Q e blk tr):dW S al w d op all os Q env blk tr:=h env fun _ _=>rfl
theorem cW_env(L:List Nat)(h: ∀ e:Env,(∀ k∈L,e k=env k)→cW S al v a b Q e blk):cW S al v a b Q env blk:=h env fun _ _=>rfl
end
section
variable {S:Sys} {al:Al} {Q:Post} {env:Env} {blk:Blk} {os all:List IOper} {tr:List Eff} {d:Option Nat}
theorem dP_appF{id site ty z bytes:Nat}{es xs:List (List PV)}{v x:V}{rd fr:List Nat}(hg:grown id ty z es v blk)(hx:elemsOf blk x=some (xs,rd,fr))(hfr:allArr blk fr)(hni:id∉fr)(hns:site∉fr)(hz:szOf x=some z∨szOK z xs=true)(hr:(es.length+xs.length)*bytes≤140737488355328)
  (hK: ∀ (c:C) blk' r w,grown site ty z (es++xs) (.one c) blk'→(∀ i,i≠site→i≠id→i∉fr→blk' i=blk i)→(r=rd++fr∧w=fr∨r=site::rd++fr∧w=fr++[site]∨r=site::id::rd++fr∧w=fr++[id,site])→RD S .all all os Q (put env d (.one c)) blk' (tr++[⟨r,w,[]⟩])):dP S .all (planAppend blk site ty z bytes v x) d all os Q env blk tr:=by
 have hz': ¬¬(szOf x=some z∨szOK z xs=true):=fun h=>h hz
 obtain⟨fu,hf1,hf2⟩:=frz_of fr fr hfr;have hf1':frz blk fr=some fu:=hf1;rcases hg with ⟨rfl,rfl⟩|⟨hne,g,rfl,hC⟩
 ·by_cases h0:xs=[]
  ·subst h0;have:planAppend blk site ty z bytes (.one (.p .nils)) x= .done (.one (.p .nils)) fu (rd++fr):=by simp[planAppend,hx,hz',hf1']
   rw[this,dP_done];exact hK _ _ _ _ (.inl ⟨rfl,rfl⟩) (fun i _ _ h3=>app_other _ _ _ (by rw[hf2];exact h3)) (.inl ⟨rfl,hf2⟩)
  ·have hl: ¬ xs.length=0:=by simpa using h0
   have hr':xs.length*bytes≤room:=by simpa [room] using hr
   have:planAppend blk site ty z bytes (.one (.p .nils)) x= .done (.one (.hsl site ((blk site).1+1) z 0 xs.length)) (fu++[(site,((blk site).1+1,some (.arr ty z xs)))]) (site::rd++fr):=by
    simp only[planAppend,hx,if_neg hz',hf1',if_neg hl,if_pos hr']
   rw[this,dP_done];refine hK _ _ _ _ (.inr ⟨by simpa using h0,(blk site).1+1,by simp,?_⟩) (fun i h1 _ h3=> ?_) (.inr (.inl ⟨rfl,by simp[hf2]⟩))
   ·rw[app_app];simp[app,upd_apply]
   ·rw[app_app];have:=app_other fu blk i (by rw[hf2];exact h3);simp[app,upd_apply,h1,this]
 ·have hr':(es.length+xs.length)*bytes≤room:=by simpa [room] using hr
  have hnc:fr.contains id=false:=by simpa using hni
  have:planAppend blk site ty z bytes (.one (.hsl id g z 0 es.length)) x= .done (.one (.hsl site ((blk site).1+1) z 0 (es.length+xs.length))) (fu++[(id,(g,none)),(site,((blk site).1+1,some (.arr ty z (es++xs))))]) (site::id::rd++fr):=by
   simp only[planAppend,hx,if_neg hz',hf1',hC,hnc];simp[hr']
  rw[this,dP_done];refine hK _ _ _ _ (.inr ⟨by simp[hne],(blk site).1+1,by simp,?_⟩) (fun i h1 h2 h3=> ?_) (.inr (.inr ⟨rfl,by simp[hf2]⟩))
  ·rw[app_app];simp[app,upd_apply]
  ·rw[app_app];have:=app_other fu blk i (by rw[hf2];exact h3);simp[app,upd_apply,h1,h2,this]
theorem gP_g1pr{f:Nat}{vs:List V}{s ty z:Nat}{rd:List Nat}{es:List (List PV)}{x:PV}(hp:PEv S f vs (.tup [.one (grownR ty z es), .one (.p x)]))(hlo:S.lone s=false)(hs:(es.all fun e=>e.all PV.scalar)=true)(hx:x.scalar=true)
  (hK: ∀ (c:C) blk',grown s ty z es (.one c) blk'→(∀ i,i≠s→blk' i=blk i)→RN S .all os Q (put env d (.tup [.one c, .one (.p x)])) blk'):gP S .all (.pc f vs rd s) d os Q env blk:=by
 obtain⟨h1,h2,_⟩:=inC_grown (blk:=blk) (s:=s) (ty:=ty) (z:=z) (es:=es);have hal:(RV.tup [.one (grownR ty z es), .one (.p x)]).alone=true:=by
  have a:=alone_grown (ty:=ty) (z:=z) hs;simp only[RV.alone,flatR,flatR1,List.all_cons,List.all_nil,Bool.and_true] at a;simp only[RV.alone,flatR,flatRs,flatR1,List.cons_append,List.nil_append,List.append_nil,List.all_cons,List.all_nil,Bool.and_true,a,Bool.true_and];exact hx
 refine(gP_land (v:= .tup [.one (inC blk s (grownR ty z es)).1, .one (.p x)]) (u:=(inC blk s (grownR ty z es)).2) hp ?_).2 (hK _ _ h1 h2);rw[hlo,pureIf_false];unfold land;rw[if_pos (.inr hal)];simp[inV,flatR,flatRs,flatR1,inCs,reshV,reshVs,reshV1,inC]
end
section
variable {S:Sys} {al:Al} {Q:Post} {env:Env} {blk:Blk} {os all:List IOper} {tr:List Eff} {d:Option Nat} {op:IOp} {a b:ICode} {e w:Bool}
theorem gP_landA{rd:List Nat}{s:Nat}{r:RV}{v:V}{u:List Upd}{f:Nat}{vs:List V}(hp:PEv S f vs r)(h:land blk rd s (r.pureIf (S.lone s))=some (v,u)):gP S al (.pc f vs rd s) d os Q env blk↔al.oks (rd++u.map (·.1))=true∧RN S al os Q (put env d v) (app u blk):=by
 constructor
 ·rintro ⟨y,hy,h2⟩
  have:=hy.det hp;subst this;rw[h] at h2;exact h2
 ·intro hK;refine⟨_,hp,?_⟩;rw[h];exact hK
theorem dP_landA{rd:List Nat}{s:Nat}{r:RV}{v:V}{u:List Upd}{f:Nat}{vs:List V}(hp:PEv S f vs r)(h:land blk rd s (r.pureIf (S.lone s))=some (v,u)):dP S al (.pc f vs rd s) d all os Q env blk tr↔al.oks (rd++u.map (·.1))=true∧RD S al all os Q (put env d v) (app u blk) (tr++[⟨rd++u.map (·.1),u.map (·.1),[]⟩]):=by
 constructor
 ·rintro ⟨y,hy,h2⟩
  have:=hy.det hp;subst this;rw[h] at h2;exact h2
 ·intro hK;refine⟨_,hp,?_⟩;rw[h];exact hK
theorem land_s{s:Nat}{x:PV}(b:Bool):land blk [] s ((RV.one (.p x)).pureIf b)=some (.one (.p x),[]):=by cases b<;>rfl
theorem gP_pA{f:Nat}{vs:List V}{s:Nat}{x:PV}(h:PEv S f vs (.one (.p x))):gP S al (.pc f vs [] s) d os Q env blk↔RN S al os Q (put env d (.one (.p x))) blk:=by
 rw[gP_landA h (land_s _)];exact⟨fun h=>h.2,fun h=>⟨rfl,h⟩⟩
theorem dP_pA{f:Nat}{vs:List V}{s:Nat}{x:PV}(h:PEv S f vs (.one (.p x))):dP S al (.pc f vs [] s) d all os Q env blk tr↔RD S al all os Q (put env d (.one (.p x))) blk (tr++[⟨[],[],[]⟩]):=by
 rw[dP_landA h (land_s _)];exact⟨fun h=>h.2,fun h=>⟨rfl,h⟩⟩
end
section
variable {S:Sys} {al:Al} {Q:Post} {env:Env} {blk:Blk} {os all:List IOper} {tr:List Eff} {d:Option Nat} {op:IOp} {w:Option Bool} {a b:ICode} {v:V} {p:Plan}
end
theorem grown.snapB{site ty z:Nat}{es:List (List PV)}{c:C}{blk:Blk}(h:grown site ty z es (.one c) blk): ∃ r,(∀ B:Blk,B site=blk site→Go.Abs.snap B Go.Abs.snapN c=some (.sl es,r))∧(r=[]∨r=[site]):=by
 rcases h with ⟨h1,h2⟩|⟨h1,g,h2,h3⟩
 ·cases h2
  exact⟨[],fun B _=>by rw[h1];rfl, .inl rfl⟩
 ·cases h2
  refine⟨[site],fun B hB=> ?_, .inr rfl⟩;rw[← hB] at h3;simp[Go.Abs.snapN,Go.Abs.snap,h3]
end Go.Abs
namespace Go.Abs
open Go
section
variable {S:Sys} {al:Al} {Q:Post} {os all:List IOper} {d:Option Nat} {env:Env} {blk:Blk} {tr:List Eff}
end
end Go.Abs
namespace Go.Abs
theorem fm1{p:Nat→Prop}:(∀ k∈([]:List Nat),p k)↔True:=by simp
theorem fm2{a:Nat}{l:List Nat}{p:Nat→Prop}:(∀ k∈a::l,p k)↔p a∧ ∀ k∈l,p k:=List.forall_mem_cons
attribute [go_sem] fm1 fm2 noBlk bne_self_eq_false Bool.or_true Bool.or_false Bool.true_or Bool.false_or Bool.not_not inV flatR flatR1 flatRs inC inCs reshV reshV1 reshVs Option.getD_some Option.getD_none Option.isSome_some Option.isSome_none
attribute [go_sem ↓] Rd
attribute [go_sem high] gP_done dP_done
attribute [go_sem] Rt Rl Rb gP_done_al dP_done_al oks_nil oks_cons Bool.and_self Al.all_oks
attribute [go_sem] plan binV binInt eqV isNilV app if_true if_false reduceIte Nat.reduceEqDiff beq_self_eq_true reduceCtorEq ge_iff_le resultsV noTup tupV fnOf Nat.reduceAdd rdAt takeV wrAt splice cellsV lenL ne_eq Nat.reduceLeDiff partsV elemsV toPss toPs toP fill Nat.reduceMul Nat.reduceLT snapHsl snapHref
attribute [go_sem] elemsOf szOf frz frzL room planSlice boundOf Nat.reduceSub Int.reduceLT Int.reduceAdd Int.reduceBEq Int.reduceBNe Int.reduceLE List.contains_eq_mem onesC
end Go.Abs
