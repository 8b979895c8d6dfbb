/-
  A part of a proof.
-/
import Derived.Test.YtjjdebhkbfeniaaGreatDoorWx
set_option linter.unusedSimpArgs false
set_option linter.unusedVariables false
set_option linter.unusedSectionVars false
set_option maxRecDepth 100000
set_option maxHeartbeats 16000000
namespace Go.Abs
theorem szL(l:List Let):szOK 6 (letP l)=true:=by simp[szOK,Let.ps]
def leq(a b:Let):Bool:=(a.kind==b.kind)&&((a.gate==b.gate)&&((a.rank==b.rank)&&((a.id==b.id)&&((a.sign==b.sign)&&(a.over==b.over)))))
theorem eq_let(x y:Let):eqCs [true,true,true,true,true,false] [.p (.int .i64 x.kind), .p (.int .i64 x.gate), .p (.int .i64 x.rank), .p (.int .i64 x.id), .p (.int .i64 x.sign), .p (.bool x.over)] [.p (.int .i64 y.kind), .p (.int .i64 y.gate), .p (.int .i64 y.rank), .p (.int .i64 y.id), .p (.int .i64 y.sign), .p (.bool y.over)]=some (leq x y):=by
 have e: ∀ a b:Int,eqC true (.int .i64 a) (.int .i64 b)=some (a==b):=fun a b=>by simp[eqC]
 have e2: ∀ a b:Bool,eqC false (.bool a) (.bool b)=some (a==b):=fun a b=>by simp[eqC]
 simp only[eqCs,leq,e,e2];cases (x.kind==y.kind)<;>cases (x.gate==y.gate)<;>cases (x.rank==y.rank)<;>cases (x.id==y.id)<;>cases (x.sign==y.sign)<;>cases (x.over==y.over)<;>rfl
theorem leq_self(x:Let):leq x x=true:=by simp[leq]


theorem PEv_ex{S:Sys}{f:Nat}{fn:IFn}{args:List V}{P:RV→Prop}(hp:S.prim f args=none)(hf:S.fns f=some fn)(hl:args.length≤fn.ntmps)
  (h:W S .all fn.body (endQ .all fn.results fun v blk=> ∃ r,P r∧outV blk v=some r) (ienv args) noBlk): ∃ r,P r∧PEv S f args r:=by
 obtain⟨n,v,blk',h1,r,h3,h2⟩:=W_run h;refine⟨r,h3,n+1,?_⟩;rw[callP];simp only[hp,hf,hl,if_true];unfold runP;simp only[h1,h2]
theorem cloneL{l:List Let}(hne:l≠[])(hl:l.length≤1000000):PEv S 29 [.one (.p (lsP l))] (.one (grownR lsTy 6 (letP l))):=by
 have hs:((letP l).all fun e=>e.length==6)=true:=szL l;have hr:(0+(letP l).length)*48≤room:=by unfold room;rw[List.length_map];omega
 show PEv S _ [.one (.p (.sl (letP l)))] _;obtain⟨e0,es,hq⟩: ∃ e0 es,letP l=e0::es:=by cases l with
  |nil=>exact absurd rfl hne
  |cons a t=>exact⟨_,_,rfl⟩
 rw[hq] at hs hr ⊢;refine pev1 c29 ?_;have hne:e0::es≠[]:=by simp
 have hgr:grownR lsTy 6 (e0::es)= .own lsTy 6 (e0::es):=if_neg hne;rw[hgr];unfold room at hr;simp only[Nat.zero_add,List.length_cons] at hr;simp only[List.all_cons] at hs;simp only[go_sem,i29,planAppend,szOK];simp only[hs,hr,not_true_eq_false,if_true,if_false];simp only[go_sem];exact outV_own upd_eq rfl




abbrev cloneE:Prop:=PEv S 29 [.one (.p (.sl []))] (.one (.p (.sl [])))
theorem land_p{blk:Blk}{s:Nat}{x:PV}{l:Bool}:land blk [] s ((RV.one (.p x)).pureIf l)=some (.one (.p x),[]):=by cases l<;>rfl
theorem cloneE_p:cloneE:=⟨1,by kernel_rfl⟩


end Go.Abs
