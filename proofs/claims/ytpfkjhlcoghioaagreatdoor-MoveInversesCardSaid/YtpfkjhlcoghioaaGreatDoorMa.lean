/-
  An abstract machine for the code of the model.
-/
import Derived.KernelRfl
import Derived.Calls
import Derived.WalkKit
set_option linter.all false
open List renaming length->I
namespace Go.Abs
variable{f n j ln E O h:Nat}{x:Operand}{M:World}{DI Gl:Nat->Prop}{F us:List Value}{H:Array Value}{L:TypeId}{Y:Nat×Nat}
abbrev CT:=List UInt8
abbrev dK:=List Bool
abbrev cT:=List Int
abbrev aD:=List Nat
abbrev eF:=Option Nat
abbrev pI:=List (Nat×Nat)
abbrev jn:=List (Int×Int)
theorem aID{p:Prop}(h:p:=by (exact⟨_,_,[],rfl,⟨by simp;omega,λF x u p q=>by simp at q⟩,λF u q=>by simp at q⟩)):p:=h
theorem aIE{p:Prop}(h:p:=by (simpa using this)):p:=h
theorem aIF{p:Prop}(h:p:=by (rw[e2 (.inr this)];exact row (m.σ id) E j len H L _ _ hh (JP B (eJ.pw.1 (eD.less af.1)) R.2))):p:=h
theorem aIG{p:Prop}(h:p:=by (rw[h1]at y;exact⟨val,rfl,y _ N q1 q2 q3 q4 (Ws q2 hr q5 H) (by rw[VP,jh]) (Tg _ _ _)⟩)):p:=h
theorem aIH{p:Prop}(h:p:=by (exact(cM.rel ⟨by unfold aX;omega,this.symm⟩).trans (TM ok ((bN.1 h).1) _ _))):p:=h
theorem aIJ{p:Prop}(h:p:=by (rw[m,Bf];unfold fQ;simp[jH,mX,xI,og,ns,zC,zp,uH,jy])):p:=h
theorem aIK{p:Prop}(h:p:=by (simp only[go_sem,wT,Wq,m,j,H,O,n,f,b0,bB];first|done|rfl|exact⟨rfl,rfl⟩)):p:=h
theorem aIL{p:Prop}(h:p:=by (rename_i H;cases h;exact⟨_,by simp[binOp,Op.shift,H],λown=>.int _ _⟩)):p:=h
theorem aIM{p:Prop}(h:p:=by (all_goals(first|(cases h;done)|(simp_all;done)|(exfalso;simp_all;done)))):p:=h
theorem aIN{p:Prop}(h:p:=by ((simp[cV,Dc,jl,Hu,reduceCtorEq]at H)<;>(repeat' split at H)<;>cases H)):p:=h
theorem aIO{p:Prop}(h:p:=by (all_goals first|assumption|rfl|exact D.symm)):p:=h
theorem aIQ{p:Prop}(h:p:=by (rw[AQ aa];exact H2 aa)):p:=h
theorem ac{p:Prop}(h:p:=by simp only[bG,Nat.reduceEqDiff,if_false]):p:=h
theorem dl{p:Prop}(h:p:=by (first|exact Or.inl rfl|exact Or.inr rfl)):p:=h
theorem d9{p:Prop}(h:p:=by simp only[go_sem]):p:=h
theorem fd{p:Prop}(h:p:=by simp;omega):p:=h
theorem f0{p:Prop}(h:p:=by simp only[gP,bG,if_true];rfl):p:=h
theorem ii{p:Prop}(h:p:=by grind):p:=h
theorem i6{p:Prop}(h:p:=by rw[H];rfl):p:=h
theorem i7{p:Prop}(h:p:=by (rcases D with rfl|rfl<;>decide)):p:=h
theorem i8{p:Prop}(h:p:=by unfold aX;omega):p:=h
theorem jp{p:Prop}(h:p:=by obtain⟨hp⟩:gh m _ v:=h;cases hp;rfl):p:=h
theorem lc{p:Prop}(h:p:=by simp only[go_sem];rfl):p:=h
theorem lm{p:Prop}(h:p:=by simp only[ld,E,v,y];rfl):p:=h
theorem mt{p:Prop}(h:p:=by simp[H]):p:=h
theorem nl{p:Prop}(h:p:=by intro v f;obtain⟨j,H⟩:=gJ f;exact(h.2 j _ v (vA (by rw[<-h.1];exact(bN.1 H).1)) H).R9):p:=h
theorem ol{p:Prop}(h:p:=by have:=ji.length_eq;rw[BS]at this;simpa using this.symm):p:=h
theorem rg{p:Prop}(h:p:=by simpa using H):p:=h
theorem ro{p:Prop}(h:p:=by rw[nj];omega):p:=h
theorem rt{p:Prop}(h:p:=by simpa [lQ]using m):p:=h
theorem sm{p:Prop}(h:p:=by simp only[k_,E,u,x,M];rfl):p:=h
theorem t6{p:Prop}(h:p:=by assumption):p:=h
theorem t7{p:Prop}(h:p:=by (show(cD.all.iG _/\_)↔_;rw[cD.Ju];exact⟨λH=>H.2,λH=>⟨rfl,H⟩⟩)):p:=h
theorem t8{p:Prop}(h:p:=by rw[sv];simp only[cW];exact eq_comm):p:=h
theorem ut{p:Prop}(h:p:=by simp[h]):p:=h
theorem v1{p:Prop}(h:p:=by rw[<-f];rfl):p:=h
theorem v6{p:Prop}(h:p:=by rw[sv];simp only[fL];exact Ty J J):p:=h
theorem wd{p:Prop}(h:p:=by show(if _ then(if _ then _ else _)else _)=_;rw[aI rfl,aI (cP _)]):p:=h
theorem wn{p:Prop}(h:p:=by simp[sW]):p:=h
theorem ww{p:Prop}(h:p:=by rw[ko];omega):p:=h
theorem AC{p:Prop}(h:p:=by rw[xm];exact cP _):p:=h
theorem Do{p:Prop}(h:p:=by simpa using h):p:=h
theorem EQ{p:Prop}(h:p:=by rw[h];rfl):p:=h
theorem Fd{p:Prop}(h:p:=by split<;>omega):p:=h
theorem Fn{p:Prop}(h:p:=by rw[mg];exact g.ok.ax.fg l0 (a8 xt) (by rw[mg]at y;exact y)):p:=h
theorem Fr{p:Prop}(h:p:=by (unfold jB;rw[aI rfl,show i+1+I h-1=i+I h by omega,rn,fC J])):p:=h
theorem GE{p:Prop}(h:p:=by simp only[ct];omega):p:=h
theorem GT{p:Prop}(h:p:=by simpa using hl):p:=h
theorem H1{p:Prop}(h:p:=by simp only[fF,fB];omega):p:=h
theorem Id{p:Prop}(h:p:=by unfold cX.add;rw[aE X]):p:=h
theorem If{p:Prop}(h:p:=by kernel_rfl):p:=h
theorem In{p:Prop}(h:p:=by rw[ct];omega):p:=h
theorem IR{p:Prop}(h:p:=by have:=NI (h:=h) (m.take j);simp only[rC,fF,fB];omega):p:=h
theorem LE{p:Prop}(h:p:=by simp only[ct,fF,fB];omega):p:=h
theorem LT{p:Prop}(h:p:=by unfold aZ aq;congr 1;funext m;exact Jw _ this.1 m):p:=h
theorem M2{p:Prop}(h:p:=by rw[IF y eo (by rw[<-H];exact(bN.1 h).1)];exact h):p:=h
theorem Nm{p:Prop}(h:p:=by rw[dI];omega):p:=h
theorem NE{p:Prop}(h:p:=by simp only[gU];simp;omega):p:=h
theorem Pi{p:Prop}(h:p:=by rw[sD];omega):p:=h
theorem ST{p:Prop}(h:p:=by (rcases Gw with⟨rfl,rfl⟩|⟨rfl,rfl⟩<;>rfl)):p:=h
theorem UV{p:Prop}(h:p:=by cases l<;>rfl):p:=h
theorem WF{p:Prop}(h:p:=by rw[eT aG];simp[uN]):p:=h
theorem WP{p:Prop}(h:p:=by intro j;cases j):p:=h
theorem acc{p:Prop}(h:p:=by (rcases Y with rfl|rfl<;>decide)):p:=h
theorem acl{p:Prop}(h:p:=by simp only[ct,r_];omega):p:=h
theorem act{p:Prop}(h:p:=by (rw[show q+1+r+1=q+1+(r+1) by omega];exact Z)):p:=h
theorem adc{p:Prop}(h:p:=by simp[execOp,ho,j]):p:=h
theorem aig{p:Prop}(h:p:=by simp[f]):p:=h
theorem alt{p:Prop}(h:p:=by rw[Q];exact ke):p:=h
theorem arg{p:Prop}(h:p:=by simp only[ld,E,v];rfl):p:=h
theorem arm{p:Prop}(h:p:=by simp only[me,H]at h;exact h):p:=h
theorem ask{p:Prop}(h:p:=by (rcases M with H|H<;>exact H)):p:=h
theorem atR{p:Prop}(h:p:=by rw[dV];exact oo _ hl):p:=h
theorem at8{p:Prop}(h:p:=by simp[gY]):p:=h
theorem at9{p:Prop}(h:p:=by simpa using n):p:=h
theorem aux{p:Prop}(h:p:=by simp[a7.install,bG]):p:=h
theorem aHK{p:Prop}(h:p:=by (show 0<aq (Af l.id (!l.over)) h;omega)):p:=h
theorem aHL{p:Prop}(h:p:=by simp[bne,c4]):p:=h
theorem aHM{p:Prop}(h:p:=by simp[qI,CY,zc,sd,zh,T.symm]<;>decide):p:=h
theorem aHN{p:Prop}(h:p:=by revert hg;rw[xn];cases c3 y.k<;>simp):p:=h
theorem aHO{p:Prop}(h:p:=by rw[fL];omega):p:=h
theorem aHP{p:Prop}(h:p:=by simp only[k_,E,u,x];rfl):p:=h
theorem aHQ{p:Prop}(h:p:=by unfold fP;rw[aE n,aE y,aE H,L];rfl):p:=h
theorem aHR{p:Prop}(h:p:=by simpa [dT]using e):p:=h
theorem aHS{p:Prop}(h:p:=by (rcases Y with rfl|rfl<;>kernel_rfl)):p:=h
theorem aHT{p:Prop}(h:p:=by rw[<-A];rfl):p:=h
theorem aHU{p:Prop}(h:p:=by simp only[ct,zl];omega):p:=h
theorem aHV{p:Prop}(h:p:=by simp only[ct,Pj];omega):p:=h
theorem aHW{p:Prop}(h:p:=by (rw[E,show j=(j-1)+1 by omega];rfl)):p:=h
theorem aHX{p:Prop}(h:p:=by rw[z];exact O):p:=h
theorem aHY{p:Prop}(h:p:=by simpa using b):p:=h
theorem aHZ{p:Prop}(h:p:=by simpa using E):p:=h
theorem aH0{p:Prop}(h:p:=by simpa using e):p:=h
theorem aH1{p:Prop}(h:p:=by simp[mx]):p:=h
theorem aH2{p:Prop}(h:p:=by simp_all):p:=h
theorem aH3{p:Prop}(h:p:=by simp only[k_,E,u];rfl):p:=h
theorem aH4{p:Prop}(h:p:=by rw[<-tL];exact RS _ _):p:=h
theorem aH5{p:Prop}(h:p:=by rw[bh];rfl):p:=h
theorem aH6{p:Prop}(h:p:=by rfl):p:=h
theorem aH7{p:Prop}(h:p:=by rw[lA,lA,D];rfl):p:=h
theorem aH8{p:Prop}(h:p:=by rw[dP,ct,dI]):p:=h
theorem aH9{p:Prop}(h:p:=by rw[wO ji,jG]):p:=h
theorem aIa{p:Prop}(h:p:=by rw[<-Q];exact B):p:=h
theorem aIb{p:Prop}(h:p:=by rw[<-n];exact N):p:=h
theorem aIc{p:Prop}(h:p:=by rw[<-s.ay];exact hp):p:=h
theorem aId{p:Prop}(h:p:=by simp[dT];omega):p:=h
theorem aIe{p:Prop}(h:p:=by simp[gP,bG]):p:=h
theorem aIf{p:Prop}(h:p:=by rw[qt,aI rfl,aI J]):p:=h
theorem aIg{p:Prop}(h:p:=by rw[hX];exact xo hf):p:=h
theorem aIh{p:Prop}(h:p:=by rw[h];exact T):p:=h
theorem aIi{p:Prop}(h:p:=by rw[Y,Fi];exact sP):p:=h
theorem aIj{p:Prop}(h:p:=by simp[gP,bG,aQ.ps]):p:=h
theorem aIk{p:Prop}(h:p:=by rw[DV];exact cP _):p:=h
theorem aIl{p:Prop}(h:p:=by simp[A]):p:=h
theorem aIm{p:Prop}(h:p:=by rw[Q];exact hc.1):p:=h
theorem aIn{p:Prop}(h:p:=by simp[bne,hp]):p:=h
theorem aIo{p:Prop}(h:p:=by simp[bne,af]):p:=h
theorem aIp{p:Prop}(h:p:=by rw[oF];omega):p:=h
theorem aIq{p:Prop}(h:p:=by rw[h];kernel_rfl):p:=h
theorem aIr{p:Prop}(h:p:=by rw[T];kernel_rfl):p:=h
theorem aIs{p:Prop}(h:p:=by rw[Q];rfl):p:=h
theorem aIt{p:Prop}(h:p:=by rw[h];omega):p:=h
theorem aIu{p:Prop}(h:p:=by simp[bne,y]):p:=h
theorem aIv{p:Prop}(h:p:=by simp[l8]):p:=h
theorem aIw{p:Prop}(h:p:=by simp[bG]):p:=h
theorem aIx{p:Prop}(h:p:=by simp[uC]):p:=h
theorem aIy{p:Prop}(h:p:=by grind [c3]):p:=h
theorem aIz{p:Prop}(h:p:=by simp[n]):p:=h
theorem aIA{p:Prop}(h:p:=by simp[e]):p:=h
theorem aIB{p:Prop}(h:p:=by rw[H]):p:=h
theorem aIC{p:Prop}(h:p:=by rw[e]):p:=h
theorem J{p:Prop}(h:p:=by omega):p:=h
theorem aa{p:Prop}(h:p:=by decide):p:=h
theorem aG{p:Prop}(h:p:=by simp):p:=h
theorem ah{p:Prop}(h:p:=by kernel_rfl):p:=h
def aE:=@if_neg.{1}
def aI:=@if_pos.{1}
def a8:=@List.mem_of_getElem?.{0}
def bj:=@Nat.zero_le
def bN:=@List.getElem?_eq_some_iff.{0}
theorem ct:type_of% @List.length_map.{0,0}:=@List.length_map.{0,0}
def cF:=@Bool.and_eq_true
def cP:=@Nat.le_refl
def cW:=@beq_iff_eq.{0}
def c_:=@List.mem_map.{0,0}
def dh:=@List.mem_cons.{0}
theorem dB:type_of% @Nat.mod_lt:=@Nat.mod_lt
def dM:=@List.getD_eq_getElem?_getD.{0}
theorem eT:type_of% @List.take_of_length_le.{0}:=@List.take_of_length_le.{0}
def e_:=@List.not_mem_nil.{0}
def fq:=@List.map_cons.{0,0}
theorem fB:type_of% @List.length_nil.{0}:=@List.length_nil.{0}
theorem fC:type_of% @Nat.mod_eq_of_lt:=@Nat.mod_eq_of_lt
def fL:=@decide_eq_true_eq
theorem fF:type_of% @List.length_cons.{0}:=@List.length_cons.{0}
def fU:=@List.mem_range
def fX:=@List.getElem?_map.{0,0}
theorem gH:type_of% @Bool.not_eq_true':=@Bool.not_eq_true'
def gJ:=@List.getElem?_of_mem.{0}
def gM:=@List.nil_append.{0}
theorem gW:type_of% @Option.map_eq_some_iff.{0,0}:=@Option.map_eq_some_iff.{0,0}
def iJ:=@Bool.false_eq_true
def iI:=@List.mem_append.{0}
def jb:=@Option.some.injEq.{0}
def iM:=@List.length_append.{0}
def iT:=@List.map_append.{0,0}
theorem iR:type_of% @List.pairwise_cons.{0}:=@List.pairwise_cons.{0}
def iW:=@List.length_pos_iff.{0}
def jg:=@Nat.le_of_ble_eq_true
def jM:=@List.take_add_one.{0}
def j_:=@List.append_nil.{0}
def ko:=@List.length_take.{0}
def kU:=@List.map_map.{0,0,0}
def k9:=@List.append_assoc.{0}
def lh:=@Nat.zero_add
def lJ:=@Int.toNat_natCast
def lN:=@List.take_length.{0}
theorem lR:type_of% @Nat.add_mul:=@Nat.add_mul
def lV:=@Int.eq_ofNat_of_zero_le
def ml:=@List.map_nil.{0,0}
def mw:=@Option.getD_some.{0}
theorem mQ:type_of% @Option.some.inj.{0}:=@Option.some.inj.{0}
def mz:=@List.all_eq_true.{0}
def mJ:=@List.range_succ
theorem mW:type_of% @List.take_append_drop.{0}:=@List.take_append_drop.{0}
def nj:=@beq_eq_false_iff_ne.{0}
def nK:=@Bool.or_eq_true
def nI:=@List.mem_singleton.{0}
def nR:=@Prod.mk.injEq.{0,0}
def ob:=@Nat.le_trans
def oF:=@List.length_set.{0}
def oo:=@Nat.mul_le_mul_right
def oJ:=@Nat.not_lt_zero
def pS:=@List.getElem?_eq_none.{0}
def qt:=@List.getElem?_set.{0}
def pW:=@List.nodup_nil.{0}
def qO:=@List.ext_getElem?.{0}
def qx:=@List.mem_flatMap.{0,0}
def qQ:=@List.nodup_cons.{0}
def rv:=@List.mem_filter.{0}
theorem rn:type_of% @Nat.add_mod_right:=@Nat.add_mod_right
def rN:=@Nat.mod_two_eq_zero_or_one
def sv:=@Bool.eq_iff_iff
theorem sF:type_of% @List.countP_map.{0,0}:=@List.countP_map.{0,0}
def sB:=@List.getElem?_take.{0}
def sD:=@List.length_drop.{0}
def r_:=@List.length_reverse.{0}
theorem s7:type_of% @List.map_congr_left.{0,0}:=@List.map_congr_left.{0,0}
def tR:=@List.flatten_cons.{0}
def uC:=@List.map_take.{0,0}
def uE:=@decide_eq_false
def uG:=@decide_eq_true
def tq:=@of_decide_eq_false
def uW:=@List.countP_append.{0}
def uJ:=@List.getElem?_append_right.{0}
def uN:=@List.map_drop.{0,0}
theorem zj:type_of% @Nat.eq_of_beq_eq_true:=@Nat.eq_of_beq_eq_true
def vA:=@List.getElem?_eq_getElem.{0}
def vt:=@List.map_set.{0,0}
def vv:=@List.mem_append_right.{0}
def vq:=@Nat.lt_succ_iff_lt_or_eq
def vB:=@Option.map_some.{0,0}
def vO:=@List.all_cons.{0}
def wZ:=@List.getElem?_range
theorem xm:type_of% @List.length_range:=@List.length_range
def y8:=@beq_self_eq_true.{0}
def xT:=@of_decide_eq_true
def yR:=@List.ext_getElem.{0}
def yQ:=@List.filter_append.{0}
def yY:=@List.getElem?_append_left.{0}
theorem yK:type_of% @List.getElem_cons_drop.{0}:=@List.getElem_cons_drop.{0}
def yc:=@List.length_eq_zero_iff.{0}
def zb:=@List.mem_cons_of_mem.{0}
theorem yN:type_of% @Nat.mod_self:=@Nat.mod_self
theorem zF:type_of% @List.countP_pos_iff.{0}:=@List.countP_pos_iff.{0}
def Ac:=@List.foldl_cons.{0,0}
def Ab:=@Nat.add_zero
def zx:=@Nat.min_eq_left
def Ag:=@not_or
def Bu:=@Bool.and_self
def AL:=@Bool.not_true
def Br:=@List.all_nil.{0}
def Bk:=@List.any_eq_true.{0}
def Bq:=@List.foldl_append.{0,0}
def AP:=@List.mem_of_find?_eq_some.{0}
def Ar:=@List.mem_of_mem_drop.{0}
def BE:=@Bool.true_and
def B2:=@List.cons_append.{0}
theorem BM:type_of% @List.countP_congr.{0}:=@List.countP_congr.{0}
def BK:=@List.find?_some.{0}
def Cb:=@List.mem_filterMap.{0,0}
def B9:=@List.mem_of_mem_take.{0}
def BD:=@List.pairwise_append.{0}
def BG:=@List.pairwise_map.{0,0}
def BU:=@Nat.sub_self
def FU:=@Bool.not_not
def CD:=@Nat.lt_of_lt_of_le
def Fg:=@Bool.and_true
def Fw:=@List.find?_eq_none.{0}
def E3:=@List.getElem?_drop.{0}
theorem Fp:type_of% @List.mem_flatten.{0}:=@List.mem_flatten.{0}
def FN:=@List.nodup_range
def FE:=@List.pairwise_singleton.{0}
def FT:=@Nat.add_assoc
def EA:=@Nat.le_of_eq
def EF:=@Nat.zero_mul
def G0:=@Array.getD_eq_getD_getElem?.{0}
def H7:=@Bool.false_or
def Hl:=@Bool.not_false
def Hy:=@Int.toNat_of_nonneg
def HI:=@List.any_eq_false.{0}
def G4:=@List.countP_cons.{0}
def FY:=@List.flatMap_cons.{0,0}
def FZ:=@List.getElem_map.{0,0}
def Hw:=@List.mem_append_left.{0}
def GV:=@List.perm_middle.{0}
def Gi:=@List.take_take.{0}
def JQ:=@Bool.false_and
def Jq:=@List.filter_cons_of_neg.{0}
def H9:=@List.flatten_append.{0}
def JF:=@List.getElem_range
def Jm:=@List.perm_append_comm.{0}
def Jh:=@Nat.add_sub_cancel
def I5:=@Nat.le_max_left
def JG:=@Nat.mul_le_mul
def Mc:=@Array.getElem?_toList.{0}
def NS:=@Bool.and_assoc
def Rt:=@Bool.or_false
def LJ:=@List.Perm.refl.{0}
def Lx:=@List.drop_zero.{0}
def ND:=@List.foldl_nil.{0,0}
def Le:=@List.head?_eq_getElem?.{0}
def Lo:=@List.mem_cons_self.{0}
def KD:=@List.pairwise_iff_getElem.{0}
def Nl:=@List.set_append_right.{0}
theorem LA:type_of% @List.take_append.{0}:=@List.take_append.{0}
def LW:=@Nat.le_max_right
def LI:=@Nat.lt_trichotomy
def MJ:=@Nat.one_mul
def PF:=@Array.getElem?_setIfInBounds.{0}
def RE:=@Array.length_toList.{0}
def Vt:=@List.contains_eq_mem.{0}
def Rz:=@List.contains_iff_mem.{0}
theorem R4:type_of% @List.countP_eq_zero.{0}:=@List.countP_eq_zero.{0}
def OH:=@List.countP_le_length.{0}
theorem Od:type_of% @List.drop_drop.{0}:=@List.drop_drop.{0}
def OI:=@List.drop_length.{0}
def SA:=@List.filterMap_append.{0,0}
def OY:=@List.find?_cons.{0}
def Rj:=@List.getElem?_reverse.{0}
def Pd:=@List.getElem?_set_ne.{0}
def Q8:=@List.getElem?_set_self.{0}
def RK:=@List.length_replicate.{0}
def RN:=@List.mem_erase_of_ne.{0}
def Ob:=@List.perm_ext_iff_of_nodup.{0}
def QL:=@List.set_set.{0}
def Oj:=@List.take_succ_cons.{0}
def PQ:=@List.take_zero.{0}
theorem RX:type_of% @Nat.beq_refl:=@Nat.beq_refl
def RL:=@Nat.lt_or_ge
def SD:=@Nat.lt_or_gt_of_ne
def Sg:=@Nat.mod_eq_sub_mod
def Rh:=@Option.bind_eq_some_iff.{0,0}
def W3:=@Array.eq_empty_of_size_eq_zero.{0}
def TG:=@Array.getElem?_push.{0}
def VQ:=@Bool.and_false
def Wf:=@List.Perm.append_right.{0}
def Vr:=@List.any_cons.{0}
def Tq:=@List.any_nil.{0}
def Wl:=@List.cons.injEq.{0}
def Wn:=@List.countP_eq_length_filter.{0}
def Wz:=@List.countP_nil.{0}
theorem U9:type_of% @List.drop_eq_getElem_cons.{0}:=@List.drop_eq_getElem_cons.{0}
def Xs:=@List.drop_of_length_le.{0}
def Tv:=@List.filter_cons.{0}
theorem WB:type_of% @List.filter_eq_self.{0}:=@List.filter_eq_self.{0}
def T2:=@List.flatten_nil.{0}
def Xn:=@List.length_pos_of_mem.{0}
def SK:=@List.nodup_append.{0}
theorem Ub:type_of% @List.set_eq_of_length_le.{0}:=@List.set_eq_of_length_le.{0}
theorem S8:type_of% @List.set_getElem_self.{0}:=@List.set_getElem_self.{0}
def W5:=@List.take_append_of_le_length.{0}
def T_:=@List.take_left.{0}
def W1:=@Nat.le_mul_of_pos_right
def VB:=@Nat.le_of_lt
def V5:=@Nat.mod_add_mod
def Wv:=@Nat.mul_comm
def WG:=@Nat.sub_zero
def acS:=@Array.foldl_toList.{0,0}
def Zh:=@Array.getElem?_eq_getElem.{0}
def XN:=@Array.toList_inj.{0}
def aeY:=@Bool.eq_false_iff
def ae2:=@Int.tdiv_eq_ediv_of_nonneg
def aeO:=@List.Pairwise.imp.{0}
def XV:=@List.all_eq_false.{0}
def Y4:=@List.countP_singleton.{0}
def abn:=@List.drop_append.{0}
def acU:=@List.eq_nil_of_length_eq_zero.{0}
def acC:=@List.eq_of_mem_replicate.{0}
def aa7:=@List.exists_cons_of_ne_nil.{0}
def aal:=@List.filter_flatMap.{0,0}
def Z7:=@List.find?_append.{0}
def XA:=@List.getElem_mem.{0}
def XO:=@List.map_eq_append_iff.{0,0}
def YM:=@List.map_eq_nil_iff.{0,0}
def adj:=@List.mem_or_eq_of_mem_set.{0}
def acd:=@List.pairwise_flatMap.{0,0}
def aaY:=@List.range_eq_range'
def adw:=@List.set_cons_zero.{0}
def aeA:=@List.size_toArray.{0}
theorem aed:type_of% @List.take_reverse.{0}:=@List.take_reverse.{0}
def X0:=@List.take_set_of_le.{0}
theorem acB:type_of% @List.take_succ_eq_append_getElem.{0}:=@List.take_succ_eq_append_getElem.{0}
def ae0:=@Nat.add_mod_mod
def aaG:=@Nat.ble_eq_true_of_le
def ae7:=@Nat.div_add_mod
def Z4:=@Nat.le_antisymm
def ZZ:=@Option.isSome_iff_exists.{0}
def afI:=@List.drop_append_of_le_length.{0}
def aog:=@List.findIdx_lt_length_of_exists.{0}
inductive PV where
 |bool (b:Bool)
 |int (k:IntKind) (n:Int)
 |str (s:ByteArray)
 |Bm|nils|uw|Aa|nili|ifc|zs
 |box (cs:List PV)
 |sl (es:List (List PV))
 |mp (ag:Bool) (es:List (PV×List PV))
 |fn (f:Nat) (first cap:List PV)
 deriving Inhabited
abbrev dR:=List PV
variable{N z:dR}
abbrev zf:=List (PV×dR)
abbrev dy:=List dR
variable{A:dy}
inductive cG where
 |p (v:PV)
 |aW (id g off:Nat)
 |eo (id g i off:Nat)
 |hsl (id g sz off len:Nat)
 |ow (id g:Nat)
 |hfn (f:Nat) (first cap:List cG)
 deriving Inhabited
abbrev eC:=List cG
variable{D:eC}{rs:List (Nat×eC)}
inductive V where
 |undef
 |one (c:cG)
 |agg (cs:eC)
 |tup (vs:List V)
 deriving Inhabited
variable{v:V}
abbrev dG:=List V
variable{args:dG}
inductive gr where
 |var (cs:eC)
 |arr (ty sz:Nat) (es:dy)
 |nH (ty sz:Nat) (es:List eC)
 |map (ag:Bool) (es:zf)
 |fvar (cs:dR)
 |uZ (ty sz:Nat) (es:dy)
 |fmap (ag:Bool) (es:zf)
 deriving Inhabited
abbrev bP:=Nat->V
variable{B:bP}
abbrev aH:=Nat->Nat×Option gr
def dz{α:Type}(f:Nat->α)(a:Nat)(x:α):Nat->α:=λi=>if i=a then x else f i
theorem bG{α:Type}(f:Nat->α)(a b:Nat)(x:α):dz f a x b=if b=a then x else f b:=rfl
inductive fc where
 |t (n:Nat)
 |i (n:Int)
 |b (x:Bool)
 |k (v:V)
variable{y c' Z y' i':fc}{GX zL:Option fc}{qs:List (Nat×Nat×fc)}
abbrev ve:=List fc
inductive zu where
 |bool|ptr|slc|map|fnc|ifc
 |str (ks:dK)
inductive s4 where
 |rm (x:fc)
 |pick (c a b:fc)
 |alloc (site:Nat) (z:dR)
 |box (site:Nat) (x:fc)
 |build (z:dR) (parts:List (Nat×Nat×fc))
 |Pg (site ty sz:Nat) (parts:ve)
 |load (k:eF) (x:fc)
 |store (n:Nat) (a x:fc)
 |R0 (x:fc)
 |bin (op:BinOp) (x y:fc)
 |eqc (k:zu) (neg:Bool) (x y:fc)
 |un (op:UnOp) (x:fc)
 |conv (k:IntKind) (x:fc)
 |bstr (x:fc)
 |mkfn (f:Nat) (first cap:ve)
 |mkmap (site:Nat) (ag:Bool)
 |Ry (site ty sz bytes:Nat) (z:dR) (len cap:fc)
 |slice (sz:Nat) (x:fc) (lo hi:Option fc)
 |sslice (x:fc) (lo hi:Option fc)
 |EB (off:Nat) (x:fc)
 |Q7 (sz:Nat) (x i:fc)
 |O2 (len sz:Nat) (x i:fc)
 |fld (off:Nat) (k:eF) (x:fc)
 |aidx (len sz:Nat) (k:eF) (x i:fc)
 |sidx (x i:fc)
 |lookup (kd:Nat) (z:dR) (agg ok:Bool) (x k:fc)
 |mupd (kd:Nat) (ag:Bool) (m k v:fc)
 |bad
 |extract (x:fc) (i:Nat)
 |call (site:Nat) (f:fc) (args:ve)
 |slen (x:fc)
 |Vd (x:fc)
 |mlen (x:fc)
 |append (site ty sz bytes:Nat) (s x:fc)
 |max (x y:fc)
 |min (x y:fc)
 |clear (z:dR) (x:fc)
structure lI where
 dst:eF
 op:s4
 guard:Option (Nat×Bool)
 anc:Nat
abbrev fx:=List lI
variable{ops:fx}
inductive aM where
 |skip
 |region (draw:Bool) (ops:fx)
 |seq (a b:aM)
 |cond (x:fc) (a b:aM)
 |block (id:Nat) (c:aM)
 |loop (c:aM)
 |exit (id:Nat)
 |ret
 |bad
structure aS where
 ntmps:Nat
 results:List (Nat×Option eF)
 body:aM
def ev (B:bP):fc->V
 | .t n=>B n
 | .i n=>.one (.p (.int .i64 n))
 | .b x=>.one (.p (.bool x))
 | .k v=>v
abbrev ajR:=Nat×(Nat×Option gr)
abbrev lq:=List ajR
variable{u:lq}
def app:lq->aH->aH
 |[],b=>b
 |(i,o)::r,b=>app r (dz b i o)
def PV.norm:PV->PV
 | .nils=>.sl []
 | .zs=>.sl []
 |v=>v
def VJ:cG->Option PV
 | .p v=>some v.norm
 |_=>none
def Ev:eC->Option dR
 |[]=>some []
 |c::r=>match VJ c,Ev r with
  |some v,some F=>some (v::F)
  |_,_=>none
def vP:V->Option eC
 | .one c=>some [c]
 | .agg D=>some D
 |_=>none
def iP{α β:Type}(f:α->Option (β×aD)):List α->Option (List β×aD)
 |[]=>some ([],[])
 |a::r=>match f a,iP f r with
  |some (b,x),some (B,y)=>some (b::B,x++y)
  |_,_=>none
def gC(blk:aH):Nat->cG->Option (PV×aD)
 |0,_=>none
 |n+1,c=>match c with
  | .p v=>some (v.norm,[])
  | .aW id g E=>match blk id with
   |(g',some (.var D))=>if g'=g then
     match iP (gC blk n) D with
     |some (ps,r)=>some (.box (ps.drop E),id::r)
     |none=>none
    else none
   |(g',some (.fvar ps))=>if g'=g then some (.box (ps.drop E),[id])else none
   |_=>none
  | .eo id g i E=>match blk id with
   |(g',some (.arr _ _ A))=>if g'=g then(A[i]?).map λe=>(.box (e.drop E),[id])else none
   |(g',some (.uZ _ _ A))=>if g'=g then(A[i]?).map λe=>(.box (e.drop E),[id])else none
   |_=>none
  | .hsl id g z E len=>match blk id with
   |(g',some (.arr _ _ A))=>if g'=g/\E+len<=I A then some (.sl ((A.drop E).take len),[id])else none
   |(g',some (.uZ _ _ A))=>if g'=g/\E+len<=I A then some (.sl ((A.drop E).take len),[id])else none
   |(g',some (.nH _ _ A))=>if g'=g/\E+len<=I A then
     match iP (iP (gC blk n)) ((A.drop E).take len)with
     |some (ps,r)=>some (.sl ps,id::r)
     |none=>none
    else none
   |_=>none
  | .ow id g=>match blk id with
   |(g',some (.map h A))=>if g'=g then some (.mp h A,[id])else none
   |(g',some (.fmap h A))=>if g'=g then some (.mp h A,[id])else none
   |_=>none
  | .hfn f a b=>match iP (gC blk n) a,iP (gC blk n) b with
   |some (x,r),some (y,s)=>some (.fn f x y,r++s)
   |_,_=>none
def jK:Nat:=6
def s9(blk:aH):V->Option (V×aD)
 | .one c=>(gC blk jK c).map λ(v,r)=>(.one (.p v),r)
 | .agg D=>(iP (gC blk jK) D).map λ(F,r)=>(.agg (F.map .p),r)
 |_=>none
def zV(blk:aH)(all:aD)(id:Nat):Option lq:=
 match blk id with
 |(g,some (.var D))=>match iP (gC blk jK) D with
  |some (ps,r)=>if r.all all.contains then some [(id,(g,some (.fvar ps)))]else none
  |none=>none
 |(g,some (.arr L j A))=>some [(id,(g,some (.uZ L j A)))]
 |(g,some (.nH L j A))=>match iP (iP (gC blk jK)) A with
  |some (ps,r)=>if r.all all.contains then some [(id,(g,some (.uZ L j ps)))]else none
  |none=>none
 |(g,some (.map f A))=>some [(id,(g,some (.fmap f A)))]
 |(_,none)=>none
 |_=>some []
def xh(blk:aH)(all:aD):aD->Option lq
 |[]=>some []
 |i::r=>match zV blk all i,xh blk all r with
  |some a,some b=>some (a++b)
  |_,_=>none
def vF(blk:aH)(ids:aD):Option lq:=xh blk ids ids
inductive nM where
 |p (v:PV)
 |own (ty sz:Nat) (es:dy)
 deriving Inhabited
abbrev oR:=List nM
inductive RV where
 |one (c:nM)
 |agg (cs:oR)
 |tup (vs:List RV)
 deriving Inhabited
def nM.pure:nM->nM
 | .p v=>.p v
 | .own _ _ A=>.p (.sl A)
def RV.Ld:RV->RV
 | .one c=>.one c.pure
 | .agg D=>.agg (D.map nM.pure)
 | .tup F=>.tup F
def RV.pure:RV->RV
 | .tup F=>.tup (F.map RV.Ld)
 |v=>v.Ld
def RV.gV(b:Bool)(r:RV):RV:=match b with
 |true=>r.pure
 |false=>r
def PV.scalar:PV->Bool
 | .bool _| .int _ _| .str _| .Bm| .nils| .uw| .Aa| .nili| .ifc| .zs=>true
 |_=>false
def nM.alone:nM->Bool
 | .p v=>v.scalar
 | .own _ _ A=>A.all λe=>e.all PV.scalar
def iN(blk:aH)(c:cG):Option (nM×aD×aD):=
 match c with
 | .p v=>some (.p v,[],[])
 | .hsl id g z 0 len=>match blk id with
  |(g',some (.arr L j A))=>if g'=g/\len<=I A then some (.own L j (A.take len),[id],[])else none
  |_=>(gC blk jK c).map λ(v,r)=>(.p v,[],r)
 |_=>(gC blk jK c).map λ(v,r)=>(.p v,[],r)
def kD(blk:aH):eC->Option (oR×aD×aD)
 |[]=>some ([],[],[])
 |c::r=>match iN blk c,kD blk r with
  |some (x,o,q),some (N,os,qs)=>some (x::N,o++os,q++qs)
  |_,_=>none
def kZ:V->Option eC
 | .one c=>some [c]
 | .agg D=>some D
 |_=>none
def yO:dG->Option eC
 |[]=>some []
 |v::r=>match kZ v,yO r with
  |some a,some b=>some (a++b)
  |_,_=>none
def mM:V->Option eC
 | .tup F=>yO F
 |v=>kZ v
def nq:V->oR->RV×oR
 | .one _,r::rs=>(.one r,rs)
 | .agg D,rs=>(.agg (rs.take (I D)),rs.drop (I D))
 |_,rs=>(.agg [],rs)
def HQ:dG->oR->List RV
 |[],_=>[]
 |v::r,rs=>(nq v rs).1::HQ r (nq v rs).2
def oE:V->oR->RV
 | .tup F,rs=>.tup (HQ F rs)
 |v,rs=>(nq v rs).1
def lg:aD->aD->Bool
 |[],_=>true
 |i::r,q=> !r.contains i&& !q.contains i&&lg r q
def iD(blk:aH)(v:V):Option RV:=
 match mM v with
 |some D=>match kD blk D with
  |some (x,o,q)=>if lg o q then some (oE v x)else none
  |none=>none
 |none=>none
def jy(blk:aH)(f:Nat):nM->cG×lq
 | .p v=>(.p v,[])
 | .own L j A=>(.hsl f ((blk f).1+1) j 0 (I A),[(f,((blk f).1+1,some (.arr L j A)))])
def ns(blk:aH)(f:Nat):oR->eC×lq
 |[]=>([],[])
 |c::r=>((jy blk f c).1::(ns blk (f+1) r).1,(jy blk f c).2++(ns blk (f+1) r).2)
def og:RV->oR
 | .one c=>[c]
 | .agg D=>D
 | .tup _=>[]
def xI:List RV->oR
 |[]=>[]
 |v::r=>og v++xI r
def mX:RV->oR
 | .tup F=>xI F
 |v=>og v
def uH:RV->eC->V×eC
 | .one _,c::D=>(.one c,D)
 | .agg rs,D=>(.agg (D.take (I rs)),D.drop (I rs))
 |_,D=>(.undef,D)
def zp:List RV->eC->dG
 |[],_=>[]
 |v::r,D=>(uH v D).1::zp r (uH v D).2
def zC:RV->eC->V
 | .tup F,D=>.tup (zp F D)
 |v,D=>(uH v D).1
def RV.alone(r:RV):Bool:=(mX r).all nM.alone
def jH(blk:aH)(f:Nat)(r:RV):V×lq:=(zC r (ns blk f (mX r)).1,(ns blk f (mX r)).2)
inductive D7 where
 |fail
 |done (v:V) (u:lq) (rd:aD)
 |pc (f:Nat) (args:dG) (rd:aD) (site:Nat)
 |sc (f:Nat) (args:dG)
def Ek(blk:aH):V->Option (eC×aD)
 | .one (.p (.box D))=>some (D.map .p,[])
 | .one (.aW id g E)=>match blk id with
  |(g',some (.var D))=>if g'=g then some (D.drop E,[id])else none
  |(g',some (.fvar D))=>if g'=g then some ((D.drop E).map .p,[id])else none
  |_=>none
 | .one (.eo id g i E)=>match blk id with
  |(g',some (.arr _ _ A))=>if g'=g then(A[i]?).map λe=>((e.drop E).map .p,[id])else none
  |(g',some (.uZ _ _ A))=>if g'=g then(A[i]?).map λe=>((e.drop E).map .p,[id])else none
  |(g',some (.nH _ _ A))=>if g'=g then(A[i]?).map λe=>(e.drop E,[id])else none
  |_=>none
 |_=>none
def uo(k:eF)(D:eC):Option V:=
 match k with
 |none=>match D with
  |c::_=>some (.one c)
  |[]=>none
 |some n=>if n<=I D then some (.agg (D.take n))else none
def gE{α:Type}(D:List α)(E:Nat)(N:List α):List α:=D.take E++N++D.drop (E+I N)
def Dc(blk:aH)(a:V)(n:Nat)(N:eC):D7:=
 if I N≠n then .fail else
 match a with
 | .one (.aW id g E)=>match blk id with
  |(g',some (.var D))=>if g'=g/\E+n<=I D then .done .undef [(id,(g,some (.var (gE D E N))))] [id]else .fail
  |_=>.fail
 | .one (.eo id g i E)=>match blk id with
  |(g',some (.arr L j A))=>match A[i]?,Ev N with
   |some e,some ps=>if g'=g/\E+n<=I e then .done .undef [(id,(g,some (.arr L j (A.set i (gE e E ps)))))] [id]else .fail
   |_,_=>.fail
  |_=>.fail
 |_=>.fail
def gP(blk:aH):V->Option (dy×aD×aD)
 | .one (.p .nils)=>some ([],[],[])
 | .one (.p (.sl A))=>some (A,[],[])
 | .one (.hsl id g z E len)=>match blk id with
  |(g',some (.arr _ _ A))=>if g'=g/\E+len<=I A then some ((A.drop E).take len,[id],[])else none
  |(g',some (.uZ _ _ A))=>if g'=g/\E+len<=I A then some ((A.drop E).take len,[id],[])else none
  |(g',some (.nH _ _ A))=>if g'=g/\E+len<=I A then
    match iP (iP (gC blk jK)) ((A.drop E).take len)with
    |some (ps,r)=>some (ps,[id],r)
    |none=>none
   else none
  |_=>if len=0 then some ([],[id],[])else none
 |_=>none
def gk(j:Nat)(A:dy):Bool:=A.all λe=>I e==j
def r9:V->eF
 | .one (.hsl _ _ z _ _)=>some z
 |_=>none
def pE:Nat:=140737488355328
def jl(blk:aH)(f L j bytes:Nat)(s x:V):D7:=
 match gP blk x with
 |none=>.fail
 |some (new,rd,fr)=>
  if¬(r9 x=some j\/gk j new)then .fail else
  match vF blk fr with
  |none=>.fail
  |some F=>
   match s with
   | .one (.p .nils)=>
    if I new=0 then .done (.one (.p .nils)) F (rd++fr)else
    if I new*bytes<=pE then
     .done (.one (.hsl f ((blk f).1+1) j 0 (I new))) (F++[(f,((blk f).1+1,some (.arr L j new)))]) (f::rd++fr)
    else .fail
   | .one (.p .zs)=>
    if I new=0 then .fail else
    if I new*bytes<=pE then
     .done (.one (.hsl f ((blk f).1+1) j 0 (I new))) (F++[(f,((blk f).1+1,some (.arr L j new)))]) (f::rd++fr)
    else .fail
   | .one (.hsl id g z 0 len)=>match blk id with
    |(g',some (.arr v h A))=>
     if g'=g/\v=L/\h=j/\len<=I A/\(len+I new)*bytes<=pE/\fr.contains id=false then
      .done (.one (.hsl f ((blk f).1+1) j 0 (len+I new)))
       (F++[(id,(g,none)),(f,((blk f).1+1,some (.arr L j (A.take len++new))))]) (f::id::rd++fr)
     else .fail
    |_=>.fail
   |_=>.fail
def ug:V->eF
 | .one (.p (.int _ n))=>if 0<=n then some n.toNat else none
 |_=>none
def vI(B:bP)(d:Nat):Option fc->eF
 |none=>some d
 |some a=>ug (ev B a)
def Hu(x:V)(j lo h:Nat):D7:=
 if¬lo<=h then .fail else
 match x with
 | .one (.p .nils)=>if h=0 then .done (.one (.p .nils)) [] []else .fail
 | .one (.p (.sl A))=>if h<=I A/\gk j A=true then .done (.one (.p (.sl ((A.drop lo).take (h-lo))))) [] []else .fail
 | .one (.hsl id g z E len)=>if h<=len/\z=j then .done (.one (.hsl id g z (E+lo) (h-lo))) [] []else .fail
 |_=>.fail
def Eg:V->eF
 | .one (.p .nils)=>some 0
 | .one (.p (.sl A))=>some (I A)
 | .one (.hsl _ _ _ _ len)=>some len
 |_=>none
def CU(blk:aH):V->Option (Nat×aD)
 | .one (.p .uw)=>some (0,[])
 | .one (.p (.mp _ A))=>some (I A,[])
 | .one (.ow id g)=>match blk id with
  |(g',some (.map _ A))=>if g'=g then some (I A,[id])else none
  |(g',some (.fmap _ A))=>if g'=g then some (I A,[id])else none
  |_=>none
 |_=>none
def vc(blk:aH)(h:Bool):V->Option (zf×aD)
 | .one (.p .uw)=>some ([],[])
 | .one (.p (.mp f A))=>if f=h then some (A,[])else none
 | .one (.ow id g)=>match blk id with
  |(g',some (.map f A))=>if g'=g/\f=h then some (A,[id])else none
  |(g',some (.fmap f A))=>if g'=g/\f=h then some (A,[id])else none
  |_=>none
 |_=>none
def Fc:PV->PV->Option Bool
 | .int k a,.int f b=>if k=f then some (a==b)else none
 | .str a,.str b=>some (a==b)
 | .bool a,.bool b=>some (a==b)
 |_,_=>none
def pz:PV->Nat
 | .int _ _=>0
 | .str _=>1
 | .bool _=>2
 |_=>3
def uO:Bool->dR->Option V
 |true,D=>some (.agg (D.map .p))
 |false,[c]=>some (.one (.p c))
 |false,_=>none
def zW(k:PV):zf->Nat->Option (Option (Nat×dR))
 |[],_=>some none
 |(a,v)::r,i=>match Fc k a with
  |some true=>some (some (i,v))
  |some false=>zW k r (i+1)
  |none=>none
def HR:Bool->V->Option eC
 |false,.one c=>some [c]
 |true,.agg D=>some D
 |_,_=>none
def K4(op:BinOp)(k:IntKind)(a b:Int):Option PV:=
 match op with
 | .add=>some (.int k (k.wrap (a+b)))
 | .sub=>some (.int k (k.wrap (a-b)))
 | .mul=>some (.int k (k.wrap (a*b)))
 | .quo=>if b=0 then none else some (.int k (k.wrap (a.tdiv b)))
 | .rem=>if b=0 then none else some (.int k (a.tmod b))
 | .eql=>some (.bool (a==b))
 | .neq=>some (.bool (a !=b))
 | .lss=>some (.bool (decide (a<b)))
 | .leq=>some (.bool (decide (a<=b)))
 | .gtr=>some (.bool (decide (b<a)))
 | .geq=>some (.bool (decide (b<=a)))
 | .and=>some (.int k (k.wrap (BitVec.ofInt k.bits a&&& BitVec.ofInt k.bits b).toNat))
 | .shl=>if b<0 then none else some (.int k (k.wrap (a*2 ^ min b.toNat k.bits)))
 | .shr=>if b<0 then none else some (.int k (a.fdiv (2 ^ min b.toNat k.bits)))
 |_=>none
def FR(op:BinOp)(a b:ByteArray):Option PV:=
 match op with
 | .add=>if a.size+b.size<=9223372036854775807 then some (.str (a++b))else none
 | .eql=>some (.bool (a.toList==b.toList))
 | .neq=>some (.bool (!(a.toList==b.toList)))
 |_=>none
def SF(op:BinOp):V->V->Option V
 | .one (.p (.int k a)),.one (.p (.int f b))=>if k=f\/op=.shl\/op=.shr then(K4 op k a b).map λv=>.one (.p v)else none
 | .one (.p (.str a)),.one (.p (.str b))=>(FR op a b).map λv=>.one (.p v)
 |_,_=>none
def n9:Bool->PV->PV->Option Bool
 |true,.int k a,.int f b=>if k=f then some (a==b)else none
 |false,.bool a,.bool b=>some (a==b)
 |_,_,_=>none
def nJ:dK->eC->eC->Option Bool
 |[],[],[]=>some true
 |k::f,.p a::r,.p b::s=>match n9 k a b with
  |some true=>nJ f r s
  |some false=>some false
  |none=>none
 |_,_,_=>none
def J2:zu->V->Option Bool
 | .ptr,.one (.p .Bm)=>some true
 | .ptr,.one (.p (.box _))=>some false
 | .ptr,.one (.aW _ _ _)=>some false
 | .ptr,.one (.eo _ _ _ _)=>some false
 | .slc,.one (.p .nils)=>some true
 | .slc,.one (.p (.sl (_::_)))=>some false
 | .slc,.one (.hsl _ _ _ _ _)=>some false
 | .map,.one (.p .uw)=>some true
 | .map,.one (.p (.mp _ _))=>some false
 | .map,.one (.ow _ _)=>some false
 | .fnc,.one (.p .Aa)=>some true
 | .fnc,.one (.p (.fn _ _ _))=>some false
 | .fnc,.one (.hfn _ _ _)=>some false
 | .ifc,.one (.p .nili)=>some true
 | .ifc,.one (.p .ifc)=>some false
 |_,_=>none
def GA:zu->V->V->Option Bool
 | .bool,.one (.p (.bool a)),.one (.p (.bool b))=>some (a==b)
 | .str f,.agg a,.agg b=>nJ f a b
 | .bool,_,_=>none
 | .str _,_,_=>none
 |k,a,b=>if J2 k b=some true then J2 k a else if J2 k a=some true then J2 k b else none
def Gm(D:eC):List (Nat×eC)->eC
 |[]=>D
 |(E,N)::r=>Gm (gE D E N) r
def B5(B:bP):List (Nat×Nat×fc)->Option (List (Nat×eC))
 |[]=>some []
 |(E,n,a)::r=>match vP (ev B a),B5 B r with
  |some D,some q=>if I D=n then some ((E,D)::q)else none
  |_,_=>none
def D5(B:bP)(j:Nat):ve->Option (List eC)
 |[]=>some []
 |a::r=>match vP (ev B a),D5 B j r with
  |some D,some q=>if I D=j then some (D::q)else none
  |_,_=>none
def Gd:List eC->Option dy
 |[]=>some []
 |c::r=>match Ev c,Gd r with
  |some v,some F=>some (v::F)
  |_,_=>none
def JS(B:bP)(a:fc):Option (Nat×eC×eC):=
 match ev B a with
 | .one (.p (.fn f x y))=>some (f,x.map .p,y.map .p)
 | .one (.hfn f x y)=>some (f,x,y)
 |_=>none
def Ej(blk:aH):dG->Option (dG×aD):=iP (s9 blk)
def L6:dy->Option CT
 |[]=>some []
 |[.int .u8 n]::r=>(L6 r).map (UInt8.ofNat n.toNat:: ·)
 |_::_=>none
def AH(B:bP):ve->Option eC
 |[]=>some []
 |a::r=>match ev B a,AH B r with
  | .one c,some q=>some (c::q)
  |_,_=>none
def cV(shared:Nat->Bool)(B:bP)(blk:aH):s4->D7
 | .rm x=>.done (ev B x) [] []
 | .pick c a b=>match ev B c with
  | .one (.p (.bool t))=>.done (if t then ev B a else ev B b) [] []
  |_=>.fail
 | .alloc s z=>.done (.one (.aW s ((blk s).1+1) 0)) [(s,((blk s).1+1,some (.var (z.map .p))))] [s]
 | .box s x=>match vP (ev B x)with
  |some D=>.done (.one (.aW s ((blk s).1+1) 0)) [(s,((blk s).1+1,some (.var D)))] [s]
  |none=>.fail
 | .build z ps=>match B5 B ps with
  |some q=>.done (.agg (Gm (z.map .p) q)) [] []
  |none=>.fail
 | .Pg s L j ps=>match D5 B j ps with
  |some A=>match Gd A with
   |some qs=>.done (.one (.hsl s ((blk s).1+1) j 0 (I A))) [(s,((blk s).1+1,some (.arr L j qs)))] [s]
   |none=>.done (.one (.hsl s ((blk s).1+1) j 0 (I A))) [(s,((blk s).1+1,some (.nH L j A)))] [s]
  |none=>.fail
 | .load k x=>match Ek blk (ev B x)with
  |some (D,r)=>match uo k D with
   |some v=>.done v [] r
   |none=>.fail
  |none=>.fail
 | .store n a x=>match vP (ev B x)with
  |some N=>Dc blk (ev B a) n N
  |none=>.fail
 | .R0 x=>match ev B x with
  | .one (.aW id g o)=>.done (.one (.aW id g o)) [] []
  | .one (.eo id g i o)=>.done (.one (.eo id g i o)) [] []
  | .one (.p (.box D))=>.done (.one (.p (.box D))) [] []
  | .one (.hfn f a b)=>.done (.one (.hfn f a b)) [] []
  | .one (.p (.fn f a b))=>.done (.one (.p (.fn f a b))) [] []
  |_=>.fail
 | .bin op x y=>match SF op (ev B x) (ev B y)with
  |some v=>.done v [] []
  |none=>.fail
 | .eqc k M x y=>match GA k (ev B x) (ev B y)with
  |some b=>.done (.one (.p (.bool (if M then !b else b)))) [] []
  |none=>.fail
 | .un op x=>match op,ev B x with
  | .not,.one (.p (.bool b))=>.done (.one (.p (.bool (!b)))) [] []
  | .neg,.one (.p (.int k n))=>.done (.one (.p (.int k (k.wrap (0-n))))) [] []
  |_,_=>.fail
 | .conv k x=>match ev B x with
  | .one (.p (.int _ n))=>.done (.one (.p (.int k (k.wrap n)))) [] []
  |_=>.fail
 | .bstr x=>match gP blk (ev B x)with
  |some (A,r,[])=>match L6 A with
   |some O=>.done (.one (.p (.str ⟨O.toArray⟩))) [] r
   |none=>.fail
  |_=>.fail
 | .mkfn f a b=>match AH B a,AH B b with
  |some x,some y=>.done (.one (.hfn f x y)) [] []
  |_,_=>.fail
 | .mkmap s u=>.done (.one (.ow s ((blk s).1+1))) [(s,((blk s).1+1,some (.map u [])))] [s]
 | .Ry s L j bytes z l c=>match ug (ev B l),ug (ev B c)with
  |some n,some m=>if n=m/\n*bytes<=pE then
    .done (.one (.hsl s ((blk s).1+1) j 0 n)) [(s,((blk s).1+1,some (.arr L j (List.replicate n z))))] [s]
   else .fail
  |_,_=>.fail
 | .slice j x lo H=>match Eg (ev B x)with
  |some n=>match vI B 0 lo,vI B n H with
   |some l,some h=>Hu (ev B x) j l h
   |_,_=>.fail
  |none=>.fail
 | .sslice x lo H=>match ev B x with
  | .one (.p (.str s))=>match vI B 0 lo,vI B s.size H with
   |some l,some h=>if l<=h/\h<=s.size then .done (.one (.p (.str (s.extract l h)))) [] []else .fail
   |_,_=>.fail
  |_=>.fail
 | .EB E x=>match ev B x with
  | .one (.aW id g o)=>.done (.one (.aW id g (o+E))) [] []
  | .one (.eo id g i o)=>.done (.one (.eo id g i (o+E))) [] []
  | .one (.p (.box D))=>.done (.one (.p (.box (D.drop E)))) [] []
  |_=>.fail
 | .Q7 j x i=>match ug (ev B i),ev B x with
  |some n,.one (.p (.sl A))=>match A[n]? with
   |some e=>if I e=j then .done (.one (.p (.box e))) [] []else .fail
   |none=>.fail
  |some n,.one (.hsl id g z E len)=>if n<len/\z=j then .done (.one (.eo id g (E+n) 0)) [] []else .fail
  |_,_=>.fail
 | .O2 len j x i=>match ug (ev B i),ev B x with
  |some n,.one (.aW id g o)=>if n<len then .done (.one (.aW id g (o+n*j))) [] []else .fail
  |some n,.one (.eo id g R o)=>if n<len then .done (.one (.eo id g R (o+n*j))) [] []else .fail
  |some n,.one (.p (.box D))=>if n<len then .done (.one (.p (.box (D.drop (n*j))))) [] []else .fail
  |_,_=>.fail
 | .fld E k x=>match ev B x with
  | .agg D=>match uo k (D.drop E)with
   |some v=>.done v [] []
   |none=>.fail
  |_=>.fail
 | .aidx len j k x i=>match ug (ev B i),ev B x with
  |some n,.agg D=>if n<len then
    match uo k (D.drop (n*j))with
    |some v=>.done v [] []
    |none=>.fail
   else .fail
  |_,_=>.fail
 | .sidx x i=>match ug (ev B i),ev B x with
  |some n,.one (.p (.str s))=>match s[n]? with
   |some b=>.done (.one (.p (.int .u8 b.toNat))) [] []
   |none=>.fail
  |_,_=>.fail
 | .lookup kd z agg ok x k=>match vc blk agg (ev B x),ev B k with
  |some (A,r),.one (.p q)=>if pz q≠kd then .fail else match zW q A 0 with
   |some f=>match uO agg ((f.map (·.2)).getD z)with
    |some w=>.done (if ok then .tup [w,.one (.p (.bool f.isSome))]else w) [] r
    |none=>.fail
   |none=>.fail
  |_,_=>.fail
 | .bad=>.fail
 | .mupd kd u m k v=>match ev B m,ev B k,HR u (ev B v)with
  | .one (.ow id g),.one (.p q),some D=>match blk id,Ev D with
   |(g',some (.map Q A)),some ps=>if g'=g/\Q=u/\pz q=kd then
     match zW q A 0 with
     |some (some (i,_))=>.done .undef [(id,(g,some (.map u (A.set i (q,ps)))))] [id]
     |some none=>.done .undef [(id,(g,some (.map u (A++[(q,ps)]))))] [id]
     |none=>.fail
    else .fail
   |_,_=>.fail
  |_,_,_=>.fail
 | .extract x i=>match ev B x with
  | .tup F=>match F[i]? with
   |some v=>.done v [] []
   |none=>.fail
  |_=>.fail
 | .call s f as=>match JS B f with
  |some (g,a,b)=>
   if shared g then .sc g (a.map .one++as.map (ev B)++b.map .one)
   else match Ej blk (a.map .one++as.map (ev B)++b.map .one)with
    |some (F,r)=>.pc g F r s
    |none=>.fail
  |none=>.fail
 | .slen x=>match ev B x with
  | .one (.p (.str s))=>.done (.one (.p (.int .i64 s.size))) [] []
  |_=>.fail
 | .Vd x=>match Eg (ev B x)with
  |some n=>.done (.one (.p (.int .i64 n))) [] []
  |none=>.fail
 | .mlen x=>match CU blk (ev B x)with
  |some (n,r)=>.done (.one (.p (.int .i64 n))) [] r
  |none=>.fail
 | .append s L j bytes d x=>jl blk s L j bytes (ev B d) (ev B x)
 | .max x y=>match ev B x,ev B y with
  | .one (.p (.int k a)),.one (.p (.int _ b))=>.done (.one (.p (.int k (if b>a then b else a)))) [] []
  |_,_=>.fail
 | .min x y=>match ev B x,ev B y with
  | .one (.p (.int k a)),.one (.p (.int _ b))=>.done (.one (.p (.int k (if b<a then b else a)))) [] []
  |_,_=>.fail
 | .clear z x=>match ev B x with
  | .one (.p .nils)=>.done (.tup []) [] []
  | .one (.p (.sl []))=>.done (.tup []) [] []
  | .one (.hsl id g _ E len)=>if len=0 then .done (.tup []) [] []else match blk id with
   |(g',some (.arr L j A))=>if g'=g/\j=I z/\E+len<=I A then .done (.tup []) [(id,(g,some (.arr L j (gE A E (List.replicate len z)))))] [id]else .fail
   |_=>.fail
  |_=>.fail
structure jk where
 rd:aD
 wr:aD
 fs:aD
abbrev gl:=List jk
variable{R:bP->aH->gl->Prop}
structure cD where
 any:Bool
 ids:aD
 fs:aD
def cD.all:cD:=⟨true,[],[]⟩
def lf(id:Nat):Nat:=id/64000000
def cD.ok(a:cD)(id:Nat):Bool:=a.any||a.ids.contains id||a.fs.contains (lf id)
def cD.iG(a:cD)(l:aD):Bool:=l.all a.ok
def cD.holds(a b:cD):Bool:=a.any||(a.iG b.ids&&b.fs.all a.fs.contains)
structure ni where
 shared:Nat->Bool
 sites:Nat->aD
 lone:Nat->Bool
 al:cD
def oj(blk:aH):Nat->cG->aD
 |0,_=>[]
 |n+1,c=>match c with
  | .p _=>[]
  | .aW id _ _=>id::match blk id with
   |(_,some (.var D))=>(D.map (oj blk n)).flatten
   |_=>[]
  | .eo id _ _ _=>id::match blk id with
   |(_,some (.nH _ _ A))=>(A.flatten.map (oj blk n)).flatten
   |_=>[]
  | .hsl id _ _ _ _=>id::match blk id with
   |(_,some (.nH _ _ A))=>(A.flatten.map (oj blk n)).flatten
   |_=>[]
  | .ow id _=>[id]
  | .hfn _ a b=>(a.map (oj blk n)).flatten++(b.map (oj blk n)).flatten
def mI(blk:aH):V->aD
 | .one c=>oj blk jK c
 | .agg D=>(D.map (oj blk jK)).flatten
 |_=>[]
def iA(X:ni)(f:Nat)(F:dG)(blk:aH):cD:=⟨false,(F.map (mI blk)).flatten,X.sites f⟩
def dL(B:bP)(d:eF)(v:V):bP:=
 match d with
 |some t=>dz B t v
 |none=>B
abbrev lH:=Nat->dG->Option RV
abbrev sI:=Nat->dG->cD->aH->Option (V×aH)
def fQ(blk:aH)(rd:aD)(f:Nat)(r:RV):Option (V×lq):=
 if rd=[]\/r.alone then some (jH blk f r)
 else match vF blk rd with
  |some u=>some ((jH blk f r).1,u++(jH blk f r).2)
  |none=>none
def th(B:bP):Option (Nat×Bool)->Option Bool
 |none=>some true
 |some (t,f)=>match B t with
  | .one (.p (.bool b))=>some (b==f)
  | .undef=>some false
  |_=>none
def mP(X:ni)(cp:lH)(D:sI)(o:lI)(B:bP)(blk:aH):Option (bP×aH×jk):=
 match th B o.guard with
 |none=>none
 |some false=>some (dL B o.dst .undef,blk,⟨[],[],[]⟩)
 |some true=>match cV X.shared B blk o.op with
  | .fail=>none
  | .done v u r=>if X.al.iG (r++u.map (·.1))then some (dL B o.dst v,app u blk,⟨r,u.map (·.1),[]⟩)else none
  | .pc f F r s=>match cp f F with
   |some x=>match fQ blk r s (x.gV (X.lone s))with
    |some (v,u)=>if X.al.iG (r++u.map (·.1))then some (dL B o.dst v,app u blk,⟨r++u.map (·.1),u.map (·.1),[]⟩)else none
    |none=>none
   |none=>none
  | .sc f F=>if X.al.holds (iA X f F blk)then
    match D f F (iA X f F blk) blk with
    |some (v,A)=>some (dL B o.dst v,A,⟨(iA X f F blk).ids,(iA X f F blk).ids,(iA X f F blk).fs⟩)
    |none=>none
   else none
def jX(X:ni)(cp:lH)(D:sI):fx->bP->aH->Option (bP×aH×gl)
 |[],B,blk=>some (B,blk,[])
 |o::r,B,blk=>match mP X cp D o B blk with
  |some (f,h,e)=>match jX X cp D r f h with
   |some (u,F,A)=>some (u,F,e::A)
   |none=>none
  |none=>none
def sd(a b:aD):Bool:=a.any λi=>b.contains i
def zh(fs ids:aD):Bool:=ids.any λi=>fs.contains (lf i)
def zc(a b:jk):Bool:=sd a.wr b.rd||sd a.wr b.wr||sd a.rd b.wr||sd a.fs b.fs||zh a.fs (b.rd++b.wr)||zh b.fs (a.rd++a.wr)
def CY(anc:Nat)(e:jk):Nat->gl->Bool
 |_,[]=>true
 |j,x::r=>(anc.testBit j|| !zc x e)&&CY anc e (j+1) r
def qI:fx->gl->gl->Bool
 |o::os,f,e::A=>CY o.anc e 0 f&&qI os (f++[e]) A
 |_,_,_=>true
inductive pQ where
 |normal
 |exit (id:Nat)
 |ret
def nm(f:bP->aH->Option (pQ×bP×aH)):Nat->bP->aH->Option (pQ×bP×aH)
 |0,_,_=>none
 |n+1,B,blk=>match f B blk with
  |some (.normal,A,h)=>nm f n A h
  |r=>r
def dJ(X:ni)(cp:lH)(D:sI)(n:Nat):aM->bP->aH->Option (pQ×bP×aH)
 | .skip,B,blk=>some (.normal,B,blk)
 | .region d ops,B,blk=>match jX X cp D ops B blk with
  |some (f,h,A)=>if d then(if qI ops [] A then some (.normal,f,h)else none)else some (.normal,f,h)
  |none=>none
 | .seq a b,B,blk=>match dJ X cp D n a B blk with
  |some (.normal,f,h)=>dJ X cp D n b f h
  |r=>r
 | .cond x a b,B,blk=>match ev B x with
  | .one (.p (.bool t))=>if t then dJ X cp D n a B blk else dJ X cp D n b B blk
  |_=>none
 | .block id c,B,blk=>match dJ X cp D n c B blk with
  |some (.exit i,f,h)=>if i=id then some (.normal,f,h)else some (.exit i,f,h)
  |r=>r
 | .loop c,B,blk=>nm (dJ X cp D n c) n B blk
 | .exit id,B,blk=>some (.exit id,B,blk)
 | .ret,B,blk=>some (.ret,B,blk)
 | .bad,_,_=>none
def tW(args:dG):bP:=λi=>args.getD i .undef
def Ur:V->Option V
 | .tup _=>none
 |v=>some v
def sk(al:cD)(B:bP)(blk:aH):List (Nat×Option eF)->Option dG
 |[]=>some []
 |(t,none)::r=>match Ur (B t),sk al B blk r with
  |some v,some q=>some (v::q)
  |_,_=>none
 |(t,some k)::r=>match Ek blk (B t),sk al B blk r with
  |some (D,rd),some q=>if al.iG rd then(uo k D).map (· ::q)else none
  |_,_=>none
def D4:dG->V
 |[v]=>v
 |F=>.tup F
def CL:aH:=λ_=>(0,none)
def s5(X:ni)(cp:lH)(D:sI)(n:Nat)(fn:aS)(args:dG)(blk:aH):Option (V×aH):=
 match dJ X cp D n fn.body (tW args) blk with
 |some (.normal,B,A)=>(sk X.al B A fn.results).map λF=>(D4 F,A)
 |some (.ret,B,A)=>(sk X.al B A fn.results).map λF=>(D4 F,A)
 |_=>none
def G6(X:ni)(cp:lH)(D:sI)(n:Nat)(fn:aS)(args:dG):Option RV:=
 match s5 X cp D n fn args CL with
 |some (v,blk)=>iD blk v
 |none=>none
structure Sys where
 P:Program
 shared:Nat->Bool
 sites:Nat->aD
 lone:Nat->Bool
 fns:Nat->Option aS
 prim:Nat->dG->Option (Option RV)
 trig:Nat->dG->Bool:=λ_ _=>false
 primS:Nat->dG->cD->aH->Option (V×lq):=λ_ _ _ _=>none
def Sys.ctx(S:Sys)(a:cD):ni:=⟨S.shared,S.sites,S.lone,a⟩
mutual
def lk(S:Sys):Nat->lH
 |0,_,_=>none
 |n+1,f,args=>match S.prim f args with
  |some r=>r
  |none=>match S.fns f with
   |some fn=>if I args<=fn.ntmps then G6 (S.ctx .all) (lk S n) (jT S n) n fn args else none
   |none=>none
def jT(S:Sys):Nat->sI
 |0,_,_,_,_=>none
 |n+1,f,args,al,blk=>if S.trig f args=true then(S.primS f args al blk).map (λr=>(r.1,app r.2 blk))else match S.fns f with
  |some fn=>if I args<=fn.ntmps then s5 (S.ctx al) (lk S n) (jT S n) n fn args blk else none
  |none=>none
end
def aC(S:Sys)(f:Nat)(args:dG)(r:RV):Prop:= ∃n,lk S n f args=some r
def ja(S:Sys)(f:Nat)(args:dG)(al:cD)(blk:aH)(v:V)(A:aH):Prop:= ∃n,jT S n f args al blk=some (v,A)
abbrev ib:=pQ->bP->aH->Prop
def W (S:Sys)(al:cD)(c:aM)(Q:ib)(B:bP)(blk:aH):Prop:=∃n e A f,dJ (S.ctx al) (lk S n) (jT S n) n c B blk=some (e,A,f)/\Q e A f
def rO (S:Sys)(al:cD)(ops:fx)(Q:bP->aH->gl->Prop)(B:bP)(blk:aH)(tr:gl):Prop:=∃n f h A,jX (S.ctx al) (lk S n) (jT S n) ops B blk=some (f,h,A)/\Q f h (tr++A)
section
variable{m n:Nat}
def Ps(a b:lH):Prop:=∀f x r,a f x=some r->b f x=some r
def Yk(a b:sI):Prop:=∀f x l k r,a f x l k=some r->b f x l k=some r
section
variable {X:ni} {cp tv:lH} {D HN:sI} (hp:Ps cp tv) (af:Yk D HN)
include hp af
theorem ahQ{o:lI}{blk:aH}{r:bP×aH×jk}(h:mP X cp D o B blk=some r):mP X tv HN o B blk=some r:=by
 unfold mP at h |-;cases m:th B o.guard with
 |none=>simp[m]at h
 |some b=>
  cases b with
  |false=>simpa [m]using h
  |true=>
   simp only[m]at h |-;cases j:cV X.shared B blk o.op with
   |fail=>simp[j]at h
   |done v u rd=>simpa [j]using h
   |pc f F rd s=>
    simp only[j]at h |-;cases H:cp f F with
    |none=>simp[H]at h
    |some x=>rw[hp _ _ _ H];simpa [H]using h
   |sc f F=>
    simp only[j]at h |-;split at h
    .rename_i n;rw[aI n];cases H:D f F (iA X f F blk) blk with
     |none=>simp[H]at h
     |some x=>rw[af _ _ _ _ _ H];simpa [H]using h
    cases h
theorem aqB:∀ {ops:fx}{B:bP}{blk:aH}{r:bP×aH×gl},jX X cp D ops B blk=some r->jX X tv HN ops B blk=some r:=by
 intro ops
 induction ops with
 |nil=>intro B blk r h;simpa [jX]using h
 |cons o os m=>
  intro B blk r h;simp only[jX]at h |-;cases f:mP X cp D o B blk with
  |none=>simp[f]at h
  |some x=>
   obtain⟨E,j,F⟩:=x;rw[ahQ hp af f];simp only[f]at h |-;cases H:jX X cp D os E j with
   |none=>simp[H]at h
   |some y=>rw[m H];simpa [H]using h
omit hp af in
theorem ap6{f g:bP->aH->Option (pQ×bP×aH)}(Q:∀e b r,f e b=some r->g e b=some r):
  ∀ {n m:Nat}{B:bP}{blk:aH}{r:pQ×bP×aH},n<=m->nm f n B blk=some r->nm g m B blk=some r:=by
 intro n
 induction n with
 |zero=>intro m B blk r _ h;simp[nm]at h
 |succ n j=>
  intro m B blk r hm h;obtain⟨m,rfl⟩:∃k,m=k+1:=⟨m-1,J⟩;simp only[nm]at h |-;cases hf:f B blk with
  |none=>simp[hf]at h
  |some x=>
   obtain⟨e,E,u⟩:=x;rw[Q _ _ _ hf];cases e with
   |normal=>simp only[hf]at h |-;exact j J h
   |exit i=>simpa [hf]using h
   |ret=>simpa [hf]using h
theorem aiW(y:n<=m):∀ {c:aM}{B:bP}{blk:aH}{r:pQ×bP×aH},dJ X cp D n c B blk=some r->dJ X tv HN m c B blk=some r:=by
 intro c
 induction c with
 |skip=>intro B blk r h;simpa [dJ]using h
 |region d ops=>
  intro B blk r h;simp only[dJ]at h |-;cases H:jX X cp D ops B blk with
  |none=>simp[H]at h
  |some x=>rw[aqB hp af H];simpa [H]using h
 |seq a b f j=>
  intro B blk r h;simp only[dJ]at h |-;cases H:dJ X cp D n a B blk with
  |none=>simp[H]at h
  |some x=>
   obtain⟨e,E,z⟩:=x;rw[f H];cases e with
   |normal=>simp only[H]at h |-;exact j h
   |exit i=>simpa [H]using h
   |ret=>simpa [H]using h
 |cond x a b f j=>
  intro B blk r h;simp only[dJ]at h |-;split at h
  .split at h
   .rename_i u;simp only[u,if_true];exact f h
   rename_i u;simp only[u];exact j h
  cases h
 |block id c v=>
  intro B blk r h;simp only[dJ]at h |-;cases H:dJ X cp D n c B blk with
  |none=>simp[H]at h
  |some x=>rw[v H];simpa [H]using h
 |loop c v=>intro B blk r h;simp only[dJ]at h |-;exact ap6 (λ_ _ _ h=>v h) y h
 |exit id=>intro B blk r h;simpa [dJ]using h
 |ret=>intro B blk r h;simpa [dJ]using h
 |bad=>intro B blk r h;simp[dJ]at h
theorem adt(f:n<=m){fn:aS}{blk:aH}{r:V×aH}(h:s5 X cp D n fn args blk=some r):s5 X tv HN m fn args blk=some r:=by
 unfold s5 at h |-;cases H:dJ X cp D n fn.body (tW args) blk with
 |none=>simp[H]at h
 |some x=>rw[aiW hp af f H];simpa [H]using h
theorem awV(f:n<=m){fn:aS}{r:RV}(h:G6 X cp D n fn args=some r):G6 X tv HN m fn args=some r:=by
 unfold G6 at h |-;cases H:s5 X cp D n fn args CL with
 |none=>simp[H]at h
 |some x=>rw[adt hp af f H];simpa [H]using h
end
theorem apU(S:Sys):∀n,Ps (lk S n) (lk S (n+1))/\Yk (jT S n) (jT S (n+1)):=by
 intro n
 induction n with
 |zero=>exact⟨λf x r h=>by simp[lk]at h,λf x l k r h=>by simp[jT]at h⟩
 |succ n j=>
  refine⟨λf x r h=>?_,λf x l k r h=>?_⟩
  .rw[lk]at h |-;cases hp:S.prim f x with
   |some R=>simpa [hp]using h
   |none=>
    simp only[hp]at h |-;cases hf:S.fns f with
    |none=>simp[hf]at h
    |some fn=>
     simp only[hf]at h |-;split at h
     .rename_i hl;rw[aI hl];exact awV j.1 j.2 J h
     cases h
  rw[jT]at h |-;by_cases H:S.trig f x
  .rw[aI H]at h |-;exact h
  rw[aE H]at h |-;cases hf:S.fns f with
  |none=>simp[hf]at h
  |some fn=>
   simp only[hf]at h |-;split at h
   .rename_i hl;rw[aI hl];exact adt j.1 j.2 J h
   cases h
theorem Rb(S:Sys)(h:n<=m):Ps (lk S n) (lk S m):=by
 induction h with
 |refl=>exactλ_ _ _ h=>h
 |step _ j=>exactλf x r hr=>(apU S _).1 f x r (j f x r hr)
theorem O6(S:Sys)(h:n<=m):Yk (jT S n) (jT S m):=by
 induction h with
 |refl=>exactλ_ _ _ _ _ h=>h
 |step _ j=>exactλf x l k r hr=>(apU S _).2 f x l k r (j f x l k r hr)
theorem aC.det{S:Sys}{r R:RV}(h:aC S f args r)(H:aC S f args R):r=R:=by obtain⟨n,j⟩:=h;obtain⟨m,hm⟩:=H;have a:=Rb S (I5 n m) _ _ _ j;have b:=Rb S (LW n m) _ _ _ hm;rw[a]at b;exact mQ b
theorem IM(S:Sys){al:cD}(h:n<=m){c:aM}{blk:aH}{r:pQ×bP×aH}(hr:dJ (S.ctx al) (lk S n) (jT S n) n c B blk=some r):
  dJ (S.ctx al) (lk S m) (jT S m) m c B blk=some r:=aiW (Rb S h) (O6 S h) h hr
theorem asw(S:Sys){al:cD}(h:n<=m){blk:aH}{r:bP×aH×gl}(hr:jX (S.ctx al) (lk S n) (jT S n) ops B blk=some r):
  jX (S.ctx al) (lk S m) (jT S m) ops B blk=some r:=aqB (Rb S h) (O6 S h) hr
variable {S:Sys} {al:cD} {Q:ib} {B:bP} {blk:aH}
theorem aG1(h:Q .normal B blk):W S al .skip Q B blk:=⟨0,_,_,_,rfl,h⟩
theorem azZ{id:Nat}(h:Q (.exit id) B blk):W S al (.exit id) Q B blk:=⟨0,_,_,_,rfl,h⟩
theorem arz(h:Q .ret B blk):W S al .ret Q B blk:=⟨0,_,_,_,rfl,h⟩
def QX(next:bP->aH->Prop)(Q:ib):ib
 | .normal,B,blk=>next B blk
 |e,B,blk=>Q e B blk
theorem aCu{a b:aM}(h:W S al a (QX (W S al b Q) Q) B blk):W S al (.seq a b) Q B blk:=by
 obtain⟨n,e,A,x,f,H⟩:=h;cases e with
 |normal=>obtain⟨m,e,D,v,u,j⟩:=H;refine⟨max n m,e,D,v,?_,j⟩;simp only[dJ];rw[IM S (I5 n m) f];exact IM S (LW n m) u
 |exit i=>exact⟨n,_,_,_,by simp[dJ,f],H⟩
 |ret=>exact⟨n,_,_,_,by simp[dJ,f],H⟩
theorem aEn{x:fc}{a b:aM}{t:Bool}(m:ev B x=.one (.p (.bool t)))(h:if t=true then W S al a Q B blk else W S al b Q B blk):W S al (.cond x a b) Q B blk:=by
 cases t with
 |true=>obtain⟨n,e,A,f,j,H⟩:=h;exact⟨n,e,A,f,by simp[dJ,m,j],H⟩
 |false=>obtain⟨n,e,A,f,j,H⟩:=(by simpa using h:W S al b Q B blk);exact⟨n,e,A,f,by simp[dJ,m,j],H⟩
def oh(id:Nat)(Q:ib):ib
 | .exit i,B,blk=>if i=id then Q .normal B blk else Q (.exit i) B blk
 |e,B,blk=>Q e B blk
theorem aGH{id:Nat}{c:aM}(h:W S al c (oh id Q) B blk):W S al (.block id c) Q B blk:=by
 obtain⟨n,e,m,A,f,H⟩:=h;cases e with
 |normal=>exact⟨n,_,_,_,by simp[dJ,f],H⟩
 |ret=>exact⟨n,_,_,_,by simp[dJ,f],H⟩
 |exit i=>
  simp only[oh]at H;by_cases j:i=id
  .simp only[j,if_true]at H;exact⟨n,_,_,_,by simp[dJ,f,j],H⟩
  simp only[j,if_false]at H;exact⟨n,_,_,_,by simp[dJ,f,j],H⟩
theorem abG(S:Sys){c:aM}{k l:Nat}(h:n<=m)(H:k<=l){r:pQ×bP×aH}(hr:nm (dJ (S.ctx al) (lk S n) (jT S n) n c) k B blk=some r):
  nm (dJ (S.ctx al) (lk S m) (jT S m) m c) l B blk=some r:=ap6 (λ_ _ _ f=>IM S h f) H hr
theorem aGf{c:aM}(E:Nat->bP->aH->Prop)(u N:Nat)(hk:u<=N)(L:E u B blk)
  (R:∀k B blk,k<=N->E k B blk->W S al c (QX (λA f=>k<N/\E (k+1) A f) Q) B blk):W S al (.loop c) Q B blk:=by
 have x:∀j k B blk,k+j=N->E k B blk->∃n l e A f,nm (dJ (S.ctx al) (lk S n) (jT S n) n c) l B blk=some (e,A,f)/\Q e A f:=by
  intro j
  induction j with
  |zero=>
   intro k B blk F y;obtain⟨n,e,z,D,H,h⟩:=R k B blk J y;cases e with
   |normal=>obtain⟨Z,_⟩:=h;omega
   |exit i=>exact⟨n,1,_,_,_,by simp[nm,H],h⟩
   |ret=>exact⟨n,1,_,_,_,by simp[nm,H],h⟩
  |succ j T=>
   intro k B blk F y;obtain⟨n,e,z,D,H,h⟩:=R k B blk J y;cases e with
   |normal=>obtain⟨_,v⟩:=h;obtain⟨m,l,e,X,Y,O,M⟩:=T (k+1) z D J v;refine⟨max n m,l+1,e,X,Y,?_,M⟩;simp only[nm];rw[IM S (I5 n m) H];exact abG S (LW n m) (cP _) O
   |exit i=>exact⟨n,1,_,_,_,by simp[nm,H],h⟩
   |ret=>exact⟨n,1,_,_,_,by simp[nm,H],h⟩
 obtain⟨n,l,e,A,f,H,h⟩:=x (N-u) u B blk J L;refine⟨max n l,e,A,f,?_,h⟩;simp only[dJ];exact abG S (I5 n l) (LW n l) H
theorem aGE{d:Bool}(h:rO S al ops (λB blk A=>(d->qI ops [] A)/\Q .normal B blk) B blk []):W S al (.region d ops) Q B blk:=by
 obtain⟨n,f,u,A,j,H,m⟩:=h;refine⟨n,.normal,f,u,?_,m⟩;simp only[dJ,j];cases d with
 |false=>simp
 |true=>simpa using H
theorem aDY{tr:gl}(h:R B blk tr):rO S al [] R B blk tr:=⟨0,B,blk,[],rfl,by simpa using h⟩
theorem TH{o:lI}{os:fx}{tr:gl}{n:Nat}{j:bP}{f:aH}{e:jk}
  (v:mP (S.ctx al) (lk S n) (jT S n) o B blk=some (j,f,e)) (h:rO S al os R j f (tr++[e])):rO S al (o::os) R B blk tr:=by
 obtain⟨m,u,y,A,H,x⟩:=h;refine⟨max n m,u,y,e::A,?_,by simpa using x⟩;simp only[jX];rw[ahQ (Rb S (I5 n m)) (O6 S (I5 n m)) v];simp[asw S (LW n m) H]
def JI(S:Sys)(al:cD)(p:D7)(d:eF)(B:bP)(blk:aH)(tr:gl)(bJ:bP->aH->gl->Prop):Prop:=
 match p with
 | .fail=>False
 | .done v u r=>al.iG (r++u.map (·.1))=true/\bJ (dL B d v) (app u blk) (tr++[⟨r,u.map (·.1),[]⟩])
 | .pc f F r s=>∃x,aC S f F x/\match fQ blk r s (x.gV (S.lone s))with
  |some (v,u)=>al.iG (r++u.map (·.1))=true/\bJ (dL B d v) (app u blk) (tr++[⟨r++u.map (·.1),u.map (·.1),[]⟩])
  |none=>False
 | .sc f F=>al.holds (iA (S.ctx al) f F blk)=true/\ ∃v A,ja S f F (iA (S.ctx al) f F blk) blk v A/\
   bJ (dL B d v) A (tr++[⟨(iA (S.ctx al) f F blk).ids,(iA (S.ctx al) f F blk).ids,(iA (S.ctx al) f F blk).fs⟩])
def HF(S:Sys)(al:cD)(w:Option Bool)(o:lI)(B:bP)(blk:aH)(tr:gl)(bJ:bP->aH->gl->Prop):Prop:=
 match w with
 |none=>False
 |some false=>bJ (dL B o.dst .undef) blk (tr++[⟨[],[],[]⟩])
 |some true=>JI S al (cV S.shared B blk o.op) o.dst B blk tr bJ
@[simp] theorem cD.Ju (l:aD):cD.all.iG l:=by simp[cD.iG,cD.ok,cD.all]
theorem axI{o:lI}{os:fx}{tr:gl}
  (h:HF S al (th B o.guard) o B blk tr (rO S al os R)):rO S al (o::os) R B blk tr:=by
 cases H:th B o.guard with
 |none=>simp[H,HF]at h
 |some b=>
  cases b with
  |false=>rw[H]at h;exact TH (n:=0) (by simp[mP,H]) h
  |true=>
   rw[H]at h;simp only[HF]at h;have D:(S.ctx al).shared=S.shared:=rfl;have A:(S.ctx al).al=al:=rfl;have E:(S.ctx al).lone=S.lone:=rfl;cases j:cV S.shared B blk o.op with
   |fail=>simp[j,JI]at h
   |done v u r=>rw[j]at h;obtain⟨m,h⟩:=h;exact TH (n:=0) (by simp only[mP,H,D,A,j,m,if_true]) h
   |pc f F r s=>
    rw[j]at h;obtain⟨x,⟨n,z⟩,h⟩:=h;cases hl:fQ blk r s (x.gV (S.lone s))with
    |none=>simp[hl]at h
    |some y=>obtain⟨v,u⟩:=y;simp only[hl]at h;obtain⟨m,h⟩:=h;exact TH (n:=n) (by simp only[mP,H,D,A,E,j,z,hl,m,if_true]) h
   |sc f F=>rw[j]at h;obtain⟨m,v,L,⟨n,z⟩,h⟩:=h;exact TH (n:=n) (by simp only[mP,H,D,A,j,m,if_true,z]) h
end
variable {S:Sys} {al:cD}
def rU(al:cD)(f:List (Nat×Option eF))(R:V->aH->Prop):ib
 | .exit _,_,_=>False
 |_,B,blk=>match sk al B blk f with
  |some F=>R (D4 F) blk
  |none=>False
theorem ZK{fn:aS}{blk:aH}{R:V->aH->Prop}(h:W S al fn.body (rU al fn.results R) (tW args) blk):
  ∃n v A,s5 (S.ctx al) (lk S n) (jT S n) n fn args blk=some (v,A)/\R v A:=by
 obtain⟨n,e,m,A,j,H⟩:=h;refine⟨n,?_⟩;unfold s5;rw[j];cases e with
 |exit i=>exact H.elim
 |normal=>
  simp[rU]at H;split at H
  .rename_i F f;exact⟨_,_,by simp[show(S.ctx al).al=al from rfl,f,vB],H⟩
  exact H.elim
 |ret=>
  simp[rU]at H;split at H
  .rename_i F f;exact⟨_,_,by simp only[show(S.ctx al).al=al from rfl,f,vB],H⟩
  exact H.elim
theorem aFi{fn:aS}{r:RV}(hp:S.prim f args=none)(hf:S.fns f=some fn)(hl:I args<=fn.ntmps)
  (h:W S .all fn.body (rU .all fn.results λv blk=>iD blk v=some r) (tW args) CL):aC S f args r:=by
 obtain⟨n,v,A,j,H⟩:=ZK h;refine⟨n+1,?_⟩;rw[lk];simp[hp,hf,hl,if_true];unfold G6;rw[j];exact H
theorem mL{fn:aS}{blk:aH}{R:V->aH->Prop}(hf:S.fns f=some fn)(hl:I args<=fn.ntmps)
  (h:W S al fn.body (rU al fn.results R) (tW args) blk) (m:S.trig f args=false:=by rfl):∃v A,ja S f args al blk v A/\R v A:=by
 obtain⟨n,v,A,j,H⟩:=ZK h;refine⟨v,A,⟨n+1,?_⟩,H⟩;rw[jT]
 grind
variable {S:Sys} {al:cD} {Q:ib} {B:bP} {blk:aH}
theorem aAx:W S al .skip Q B blk↔Q .normal B blk:=⟨λ⟨_,_,_,_,h,q⟩=>by simp[dJ]at h;obtain⟨rfl,rfl,rfl⟩:=h;exact q,aG1⟩
theorem au9{id:Nat}:W S al (.exit id) Q B blk↔Q (.exit id) B blk:=⟨λ⟨_,_,_,_,h,q⟩=>by simp[dJ]at h;obtain⟨rfl,rfl,rfl⟩:=h;exact q,azZ⟩
theorem aGe:W S al .ret Q B blk↔Q .ret B blk:=⟨λ⟨_,_,_,_,h,q⟩=>by simp[dJ]at h;obtain⟨rfl,rfl,rfl⟩:=h;exact q,arz⟩
theorem awi{a b:aM}:W S al (.seq a b) Q B blk↔W S al a (QX (W S al b Q) Q) B blk:=by
 refine⟨?_,aCu⟩;rintro⟨n,e,A,j,h,q⟩
 simp[dJ]at h;cases H:dJ (S.ctx al) (lk S n) (jT S n) n a B blk with
 |none=>simp[H]at h
 |some x=>
  obtain⟨E,m,f⟩:=x;refine⟨n,E,m,f,H,?_⟩;cases E with
  |normal=>simp[H]at h;exact⟨n,e,A,j,h,q⟩
  |exit i=>simp[H]at h;obtain⟨rfl,rfl,rfl⟩:=h;exact q
  |ret=>simp[H]at h;obtain⟨rfl,rfl,rfl⟩:=h;exact q
def Sl(v:V)(A B:Prop):Prop:=
 match v with
 | .one (.p (.bool t))=>if t=true then A else B
 |_=>False
theorem asU{x:fc}{a b:aM}:W S al (.cond x a b) Q B blk↔Sl (ev B x) (W S al a Q B blk) (W S al b Q B blk):=by
 constructor
 .rintro ⟨n,e,A,f,h,q⟩
  simp[dJ]at h;split at h
  .rename_i t H;rw[H];cases t with
   |true=>exact⟨n,e,A,f,by simpa using h,q⟩
   |false=>exact⟨n,e,A,f,by simpa using h,q⟩
  cases h
 intro h;unfold Sl at h;split at h
 .rename_i t H;exact aEn H h
 exact h.elim
theorem avx{id:Nat}{c:aM}:W S al (.block id c) Q B blk↔W S al c (oh id Q) B blk:=by
 refine⟨?_,aGH⟩;rintro⟨n,e,A,m,h,q⟩
 simp[dJ]at h;cases H:dJ (S.ctx al) (lk S n) (jT S n) n c B blk with
 |none=>simp[H]at h
 |some x=>
  obtain⟨E,j,f⟩:=x;refine⟨n,E,j,f,H,?_⟩;cases E with
  |normal=>simp[H]at h;obtain⟨rfl,rfl,rfl⟩:=h;exact q
  |ret=>simp[H]at h;obtain⟨rfl,rfl,rfl⟩:=h;exact q
  |exit i=>
   simp[oh]
   grind
theorem aaz{tr:gl}:rO S al [] R B blk tr↔R B blk tr:=by
 refine⟨?_,aDY⟩;rintro⟨n,f,j,A,h,q⟩
 simp[jX]at h
 grind
theorem VI{o:lI}{os:fx}{tr:gl}:
  rO S al (o::os) R B blk tr↔HF S al (th B o.guard) o B blk tr (rO S al os R):=by
 refine⟨?_,axI⟩;rintro⟨n,Y,Z,A,h,q⟩
 simp only[jX]at h;cases H:mP (S.ctx al) (lk S n) (jT S n) o B blk with
 |none=>simp[H]at h
 |some x=>
  obtain⟨M,N,e⟩:=x;simp only[H]at h;cases z:jX (S.ctx al) (lk S n) (jT S n) os M N with
  |none=>simp[z]at h
  |some y=>
   obtain⟨dq,X,L⟩:=y;simp[z]at h;obtain⟨rfl,rfl,rfl⟩:=h;have D:rO S al os R M N (tr++[e]):=⟨n,_,_,L,z,by simpa using q⟩;unfold mP at H;cases E:th B o.guard with
   |none=>simp[E]at H
   |some b=>
    cases b with
    |false=>simp[E]at H;obtain⟨rfl,rfl,rfl⟩:=H;exact D
    |true=>
     simp only[E]at H;simp only[HF];have T:(S.ctx al).shared=S.shared:=rfl;have Q:(S.ctx al).al=al:=rfl;have O:(S.ctx al).lone=S.lone:=rfl;simp only[T,Q,O]at H;cases m:cV S.shared B blk o.op with
     |fail=>simp[m]at H
     |done v u r=>
      simp only[m]at H;split at H
      .rename_i aB;cases H;exact⟨aB,D⟩
      cases H
     |pc f F r s=>
      simp only[m]at H;cases j:lk S n f F with
      |none=>simp[j]at H
      |some x=>
       refine⟨x,⟨n,j⟩,?_⟩
       grind
     |sc f F=>
      simp only[m]at H;split at H
      .rename_i aB;cases j:jT S n f F (iA (S.ctx al) f F blk) blk with
       |none=>simp[j]at H
       |some x=>obtain⟨v,b⟩:=x;simp only[j]at H;cases H;exact⟨aB,v,_,⟨n,j⟩,D⟩
      cases H
theorem afS{d:Bool}:W S al (.region d ops) Q B blk↔rO S al ops (λB blk A=>(d->qI ops [] A)/\Q .normal B blk) B blk []:=by
 refine⟨?_,aGE⟩;rintro⟨n,e,m,u,h,q⟩
 simp[dJ]at h;cases H:jX (S.ctx al) (lk S n) (jT S n) ops B blk with
 |none=>simp[H]at h
 |some x=>
  obtain⟨v,j,A⟩:=x;simp[H]at h;cases d with
  |false=>simp at h;obtain⟨rfl,rfl,rfl⟩:=h;exact⟨n,_,_,A,H,aG,q⟩
  |true=>simp at h;obtain⟨f,rfl,rfl,rfl⟩:=h;exact⟨n,_,_,A,H,λ_=>by simpa using f,q⟩
section
variable{v:Value}
inductive dd (w:World) (own:Nat->Prop):PV->Value->Prop where
 |bool (b:Bool):dd w own (.bool b) (.bool b)
 |int (k:IntKind) (n:Int):dd w own (.int k n) (.int k n)
 |str (s:ByteArray):dd w own (.str s) (.string s)
 |Bm:dd w own .Bm (.pointer none)
 |nils:dd w own .nils (.slice none 0 0)
 |uw:dd w own .uw (.map none)
 |Aa:dd w own .Aa .nilFunc
 |nili:dd w own .nili .nilIface
 |ifc (d:TypeId) (x:Value):dd w own .ifc (.iface d x)
 |zs (a:Option Addr):dd w own .zs (.slice a 0 0)
 |box {cs:dR} (b o:Nat) (f:Nat->Value) (ho:cs≠[]-> ¬own b)
   (hc:∀(j:Nat) (x:PV),cs[j]?=some x->w.cell? ⟨b,o+j,none⟩=some (f j))
   (hr:∀(j:Nat) (x:PV),cs[j]?=some x->dd w own x (f j)):dd w own (.box cs) (.pointer (some ⟨b,o,none⟩))
 |By (a:Option Addr) (cap:Nat) (hn:a=none->cap=0) (hm:cap<=maxLen):dd w own (.sl []) (.slice a 0 cap)
 |sl {es:dy} (b o cap sz:Nat) (f:Nat->Value) (ho:es.flatten≠[]-> ¬own b) (hl:I es<=cap) (hm:cap<=maxLen) (hsz:∀e∈es,I e=sz)
   (hc:∀(j:Nat) (x:PV),es.flatten[j]?=some x->w.cell? ⟨b,o+j,none⟩=some (f j))
   (hr:∀(j:Nat) (x:PV),es.flatten[j]?=some x->dd w own x (f j)):dd w own (.sl es) (.slice (some ⟨b,o,none⟩) (I es) cap)
 |mp {ag:Bool}{es:zf} (r:Nat) (ents:Array MapEntry) (clock:Nat) (g:Nat->Array Value) (ho:¬own r) (hb:w.heap[r]?=some (.map ents clock)) (hl:ents.size=I es)
   (hk:∀(i:Nat) (q:PV) (v:dR) (e:MapEntry),es[i]?=some (q,v)->ents[i]?=some e->dd w own q e.key)
   (hv:∀(i:Nat) (q:PV) (v:dR) (e:MapEntry),es[i]?=some (q,v)->ents[i]?=some e->(g i).size=I v/\(ag->e.val=.agg (g i))/\(ag=false-> #[e.val]=g i))
   (hr:∀(i:Nat) (q:PV) (v:dR) (j:Nat) (x:PV) (u:Value),es[i]?=some (q,v)->v[j]?=some x->(g i)[j]?=some u->dd w own x u):dd w own (.mp ag es) (.map (some r))
 |fn {f:Nat}{a b:dR} (A B:Array Value) (ha:A.size=I a) (hb:B.size=I b)
   (zQ:∀(j:Nat) (x:PV) (u:Value),a[j]?=some x->A[j]?=some u->dd w own x u)
   (qZ:∀(j:Nat) (x:PV) (u:Value),b[j]?=some x->B[j]?=some u->dd w own x u):dd w own (.fn f a b) (.func (.func f) A B)
theorem dd.R9{w:World}{own:Nat->Prop}{x:PV}(h:dd w own x v):v.oneCell':=by cases h<;>rfl
theorem dd.cells{w:World}{own:Nat->Prop}{x:PV}(h:dd w own x v):v.cells= #[v]:=by cases h<;>rfl
theorem abh{w:World}{b o:Nat}(h:w.cell? ⟨b,o,none⟩=some v):b<w.heap.size:=World.block_lt_of_cell? w ⟨b,o,none⟩ h
theorem yz{w:World}{b:Nat}{o:Obj}(h:w.heap[b]?=some o):b<w.heap.size:=(Array.getElem?_eq_some_iff.1 h).1
theorem dd.mono{w:World}{own:Nat->Prop}(y:∀c,c<w.heap.size-> ¬own c->M.heap[c]?=w.heap[c]? /\ ¬DI c){x:PV}{v:Value}
  (h:dd w own x v):dd M DI x v:=by
 induction h with
 |bool b=>exact .bool b
 |int k n=>exact .int k n
 |str s=>exact .str s
 |Bm=>exact .Bm
 |nils=>exact .nils
 |uw=>exact .uw
 |Aa=>exact .Aa
 |nili=>exact .nili
 |ifc d x=>exact .ifc d x
 |zs a=>exact .zs a
 | @box D b o f ho F _ X=>
  cases D with
  |nil=>exact .box b o f (λh=>(h rfl).elim) (λL x h=>by simp at h) (λL x h=>by simp at h)
  |cons c r=>have H:=abh (F 0 c rfl);have u:=ho aG;refine .box b o f (λ_=>(y b H u).2) (λL x h=>?_) X;rw[World.cell?_of_block (y b H u).1];exact F L x h
 |By a O u hm=>exact .By a O u hm
 | @sl A b o O j f ho hl hm z F _ X=>
  cases hf:A.flatten with
  |nil=>exact .sl b o O j f (λh=>(h hf).elim) hl hm z (λL x h=>by simp[hf]at h) (λL x h=>by simp[hf]at h)
  |cons c r=>have H:=abh (F 0 c (by simp[hf]));have u:=ho (by simp[hf]);refine .sl b o O j f (λ_=>(y b H u).2) hl hm z (λL x h=>?_) X;rw[World.cell?_of_block (y b H u).1];exact F L x h
 | @mp ag A r E m g ho H hl _ Y _ R T=>exact .mp r E m g (y r (yz H) ho).2 ((y r (yz H) ho).1.trans H) hl R Y T
 |fn ab B Z H _ _ N Q=>exact .fn ab B Z H N Q
structure a7 where
 w:World
 blk:aH
 σ:Nat->Nat
 κ:Nat->Nat
 fr:Nat->Prop
def gr.iF:gr->Bool
 | .var _| .arr _ _ _| .nH _ _ _| .map _ _=>true
 |_=>false
def mx:Nat×Option gr->eF
 |(_,some (.arr _ j _))=>some j
 |(_,some (.nH _ j _))=>some j
 |(_,some (.uZ _ j _))=>some j
 |_=>none
def a7.iF(m:a7)(c:Nat):Prop:= ∃id o,(m.blk id).2=some o/\o.iF/\m.σ id=c
def a7.own(m:a7)(c:Nat):Prop:=m.fr c\/m.iF c
inductive gh (m:a7):cG->Value->Prop where
 |p {x:PV}{v:Value} (h:dd m.w m.own x v):gh m (.p x) v
 |aW {id g off:Nat} (a:Addr) (hg:g<=(m.blk id).1) (h:(m.blk id).1=g->(m.blk id).2.isSome->a=⟨m.σ id,off,none⟩):gh m (.aW id g off) (.pointer (some a))
 |eo {id g i off:Nat} (a:Addr) (hg:g<=(m.blk id).1) (h:∀sz,(m.blk id).1=g->mx (m.blk id)=some sz->a=⟨m.σ id,i*sz+off,none⟩):gh m (.eo id g i off) (.pointer (some a))
 |hsl {id g z off len:Nat} (a:Addr) (cap:Nat) (hg:g<=(m.blk id).1) (hl:len<=cap) (hm:cap<=maxLen)
   (h:∀sz,(m.blk id).1=g->mx (m.blk id)=some sz->sz=z/\(off=0\/0<len->a=⟨m.σ id,off*sz,none⟩)/\off+cap=m.κ id):
   gh m (.hsl id g z off len) (.slice (some a) len cap)
 |ow {id g:Nat} (r:Nat) (hg:g<=(m.blk id).1) (h:(m.blk id).1=g->(m.blk id).2.isSome->r=m.σ id):gh m (.ow id g) (.map (some r))
 |hfn {f:Nat}{a b:eC} (A B:Array Value) (ha:A.size=I a) (hb:B.size=I b)
   (zQ:∀(j:Nat) (x:cG) (u:Value),a[j]?=some x->A[j]?=some u->gh m x u)
   (qZ:∀(j:Nat) (x:cG) (u:Value),b[j]?=some x->B[j]?=some u->gh m x u):gh m (.hfn f a b) (.func (.func f) A B)
theorem gh.R9{m:a7}{x:cG}(h:gh m x v):v.oneCell':=by
 cases h with
 |p h=>exact h.R9
 |_=>rfl
theorem gh.cells{m:a7}{x:cG}(h:gh m x v):v.cells= #[v]:=by
 cases h with
 |p h=>exact h.cells
 |_=>rfl
def eE(m:a7)(D:eC)(F:List Value):Prop:=I F=I D/\ ∀(j:Nat) (x:cG) (u:Value),D[j]?=some x->F[j]?=some u->gh m x u
def eJ(w:World)(own:Nat->Prop)(D:dR)(F:List Value):Prop:=I F=I D/\ ∀(j:Nat) (x:PV) (u:Value),D[j]?=some x->F[j]?=some u->dd w own x u
def qu(m:a7):V->Value->Prop
 | .undef,v=>v=undef
 | .one c,v=>gh m c v
 | .agg D,v=>∃arr,v=.agg arr/\eE m D arr.toList
 | .tup _,_=>False
def c9(m:a7):V->Value->Prop
 | .tup F,v=>∃arr,v=.tuple arr/\arr.size=I F/\ ∀(j:Nat) (x:V) (u:Value),F[j]?=some x->arr[j]?=some u->qu m x u
 |x,v=>qu m x v
def vS(m:a7)(id:Nat):gr->Prop
 | .var D=>∃H L,m.w.heap[m.σ id]?=some (.cells H L (0,0))/\eE m D H.toList
 | .fvar D=>∃H L Y,m.w.heap[m.σ id]?=some (.cells H L Y)/\eJ m.w m.own D H.toList/\ ¬m.own (m.σ id)
 | .arr L j A=>∃H,m.w.heap[m.σ id]?=some (.cells H L (0,0))/\0<j/\(∀e∈A,I e=j)/\I A<=m.κ id/\m.κ id<=maxLen/\H.size=m.κ id*j/\
   eJ m.w m.own A.flatten (H.toList.take (I A*j))
 | .uZ L j A=>∃H Y,m.w.heap[m.σ id]?=some (.cells H L Y)/\0<j/\(∀e∈A,I e=j)/\I A<=m.κ id/\m.κ id<=maxLen/\H.size=m.κ id*j/\
   eJ m.w m.own A.flatten (H.toList.take (I A*j))/\ ¬m.own (m.σ id)
 | .nH L j A=>∃H,m.w.heap[m.σ id]?=some (.cells H L (0,0))/\0<j/\(∀e∈A,I e=j)/\I A<=m.κ id/\m.κ id<=maxLen/\H.size=m.κ id*j/\
   eE m A.flatten (H.toList.take (I A*j))
 | .map h A=>∃E f,m.w.heap[m.σ id]?=some (.map E f)/\E.size=I A/\
   ∀(i:Nat) (q:PV) (v:dR) (e:MapEntry),A[i]?=some (q,v)->E[i]?=some e->dd m.w m.own q e.key/\ ∃g:Array Value,(h->e.val=.agg g)/\(h=false-> #[e.val]=g)/\eJ m.w m.own v g.toList
 | .fmap h A=>∃E f,m.w.heap[m.σ id]?=some (.map E f)/\E.size=I A/\
   (∀(i:Nat) (q:PV) (v:dR) (e:MapEntry),A[i]?=some (q,v)->E[i]?=some e->dd m.w m.own q e.key/\ ∃g:Array Value,(h->e.val=.agg g)/\(h=false-> #[e.val]=g)/\eJ m.w m.own v g.toList)/\ ¬m.own (m.σ id)
structure dW (w0:World) (m:a7):Prop where
 os:m.w.os=w0.os
 tape:m.w.tape=w0.tape
 output:m.w.output=w0.output
 size:w0.heap.size<=m.w.heap.size
 base:∀c,c<w0.heap.size->m.w.heap[c]?=w0.heap[c]?
 obj:∀id o,(m.blk id).2=some o->vS m id o
 eO:∀id o,(m.blk id).2=some o->o.iF->w0.heap.size<=m.σ id/\ ¬m.fr (m.σ id)
 frlt:∀c,m.fr c->c<m.w.heap.size
 inj:∀id gT o o',(m.blk id).2=some o->o.iF->(m.blk gT).2=some o'->o'.iF->m.σ id=m.σ gT->id=gT
structure hs (m m':a7):Prop where
 os:m'.w.os=m.w.os
 tape:m'.w.tape=m.w.tape
 output:m'.w.output=m.w.output
 size:m.w.heap.size<=m'.w.heap.size
 keep:∀c,c<m.w.heap.size-> ¬m.iF c->m'.w.heap[c]?=m.w.heap[c]?
 iF:∀c,c<m.w.heap.size->m'.iF c->m.iF c
 less:∀c,c<m.w.heap.size-> ¬m.own c-> ¬m'.own c
 gen:∀id,(m.blk id).1<=(m'.blk id).1
 ref:∀id,(m'.blk id).1=(m.blk id).1->(m'.blk id).2.isSome->(m.blk id).2.isSome/\m'.σ id=m.σ id/\m'.κ id=m.κ id/\mx (m'.blk id)=mx (m.blk id)
theorem hs.refl(m:a7):hs m m:=⟨rfl,rfl,rfl,cP _,λ_ _ _=>rfl,λ_ _ h=>h,λ_ _ h=>h,λ_=>cP _,λ_ _ h=>⟨h,rfl,rfl,rfl⟩⟩
theorem hs.trans{a b c:a7}(h:hs a b)(k:hs b c):hs a c where
 os:=k.os.trans h.os
 tape:=k.tape.trans h.tape
 output:=k.output.trans h.output
 size:=ob h.size k.size
 keep x H hm:=(k.keep x (CD H h.size) λj=>hm (h.iF x H j)).trans (h.keep x H hm)
 iF x H hm:=h.iF x H (k.iF x (CD H h.size) hm)
 less x H m:=k.less x (CD H h.size) (h.less x H m)
 gen id:=ob (h.gen id) (k.gen id)
 ref id v af:=by
  have y:=h.gen id;have n:=k.gen id;obtain⟨f,E,z,u⟩:=k.ref id J af;obtain _:=h.ref id J f
  grind
theorem hs.own{m M:a7}(h:hs m M):∀c,c<m.w.heap.size-> ¬m.own c->M.w.heap[c]?=m.w.heap[c]? /\ ¬M.own c:=λc H f=>⟨h.keep c H λhm=>f (.inr hm),h.less c H f⟩
theorem ah5{x:Nat×Option gr}(h:mx x=some j):x.2.isSome:=by
 obtain⟨g,o⟩:=x;cases o with
 |none=>simp[mx]at h
 |some o=>rfl
structure wK (m m':a7):Prop where
 own:∀c,c<m.w.heap.size-> ¬m.own c->m'.w.heap[c]?=m.w.heap[c]? /\ ¬m'.own c
 gen:∀id,(m.blk id).1<=(m'.blk id).1
 ref:∀id,(m'.blk id).1=(m.blk id).1->(m'.blk id).2.isSome->(m.blk id).2.isSome/\m'.σ id=m.σ id/\m'.κ id=m.κ id/\mx (m'.blk id)=mx (m.blk id)
theorem hs.zero{m M:a7}(h:hs m M):wK m M:=⟨h.own,h.gen,h.ref⟩
theorem dd.ev{m m':a7}(h:wK m m'){x:PV}(hr:dd m.w m.own x v):dd m'.w m'.own x v:=hr.mono h.own
theorem gh.ev{m m':a7}(h:wK m m'){x:cG}(hr:gh m x v):gh m' x v:=by
 induction hr with
 |p hp=>exact .p (hp.ev h)
 | @aW id g E a hg H=>
  have Z:=h.gen id;refine .aW a J λf af=>?_;obtain _:=h.ref id J af
  grind
 | @eo id g i E a hg H=>
  have Z:=h.gen id;refine .eo a J λj f af=>?_;obtain _:=h.ref id J (ah5 af)
  grind
 | @hsl id g z E len a O hg hl hm H=>
  have Z:=h.gen id;refine .hsl a O J hl hm λj f af=>?_;obtain _:=h.ref id J (ah5 af)
  grind
 | @ow id g r hg hr=>
  have Z:=h.gen id;refine .ow r J λf af=>?_;obtain _:=h.ref id J af
  grind
 |hfn A B H y _ _ u n=>exact .hfn A B H y u n
theorem eE.ev{m m':a7}(h:wK m m')(hr:eE m D F):eE m' D F:=⟨hr.1,λj x u a b=>(hr.2 j x u a b).ev h⟩
theorem eJ.mono{w:World}{own:Nat->Prop}(h:∀c,c<w.heap.size-> ¬own c->M.heap[c]?=w.heap[c]? /\ ¬DI c){D:dR}
  (hr:eJ w own D F):eJ M DI D F:=⟨hr.1,λj x u a b=>(hr.2 j x u a b).mono h⟩
theorem eJ.ev{m m':a7}(h:wK m m'){D:dR}(hr:eJ m.w m.own D F):eJ m'.w m'.own D F:=hr.mono h.own
theorem qu.ev{m m':a7}(h:wK m m'){x:V}(hr:qu m x v):qu m' x v:=by
 cases x with
 |undef=>exact hr
 |one c=>exact gh.ev h hr
 |agg D=>obtain⟨arr,e,H⟩:=hr;exact⟨arr,e,H.ev h⟩
 |tup F=>exact hr.elim
theorem c9.ev{m m':a7}(h:wK m m'){x:V}(hr:c9 m x v):c9 m' x v:=by
 cases x with
 |tup F=>obtain⟨arr,e,af,H⟩:=hr;exact⟨arr,e,af,λj x u a b=>(H j x u a b).ev h⟩
 |undef=>exact qu.ev (x:=.undef) h hr
 |one c=>exact qu.ev (x:=.one c) h hr
 |agg D=>exact qu.ev (x:=.agg D) h hr
theorem vS.ev{m m':a7}(h:wK m m'){id:Nat}{o:gr}(af:m'.σ id=m.σ id)(u:m'.κ id=m.κ id)(z:m'.w.heap[m.σ id]?=m.w.heap[m.σ id]?)
  (hr:vS m id o):vS m' id o:=by
 cases o with
 |var D=>obtain⟨H,L,a,b⟩:=hr;exact⟨H,L,by rw[af,z];exact a,b.ev h⟩
 |fvar D=>obtain⟨H,L,Y,a,b,c⟩:=hr;exact⟨H,L,Y,by rw[af,z];exact a,b.ev h,by rw[af];exact(h.own _ (yz a) c).2⟩
 |arr L j A=>obtain⟨H,a,b,c,d,e,f,g⟩:=hr;exact⟨H,by rw[af,z];exact a,b,c,by rw[u];exact d,by rw[u];exact e,by rw[u];exact f,g.ev h⟩
 |uZ L j A=>obtain⟨H,Y,a,b,c,d,e,f,g,i⟩:=hr;exact⟨H,Y,by rw[af,z];exact a,b,c,by rw[u];exact d,by rw[u];exact e,by rw[u];exact f,g.ev h,by rw[af];exact(h.own _ (yz a) i).2⟩
 |nH L j A=>obtain⟨H,a,b,c,d,e,f,g⟩:=hr;exact⟨H,by rw[af,z];exact a,b,c,by rw[u];exact d,by rw[u];exact e,by rw[u];exact f,g.ev h⟩
 |map B A=>obtain⟨E,n,a,b,c⟩:=hr;exact⟨E,n,by rw[af,z];exact a,b,λi q v e x y=>let ⟨p,g,g1,g2,g3⟩:=c i q v e x y;⟨p.ev h,g,g1,g2,g3.ev h⟩⟩
 |fmap B A=>obtain⟨E,n,a,b,c,d⟩:=hr;exact⟨E,n,by rw[af,z];exact a,b,λi q v e x y=>let ⟨p,g,g1,g2,g3⟩:=c i q v e x y;⟨p.ev h,g,g1,g2,g3.ev h⟩,by rw[af];exact(h.own _ (yz a) d).2⟩
theorem vS.lt{m:a7}{id:Nat}{o:gr}(hr:vS m id o):m.σ id<m.w.heap.size:=by
 cases o with
 |var D=>obtain⟨H,L,a,_⟩:=hr;exact yz a
 |fvar D=>obtain⟨H,L,Y,a,_⟩:=hr;exact yz a
 |arr L j A=>obtain⟨H,a,_⟩:=hr;exact yz a
 |uZ L j A=>obtain⟨H,Y,a,_⟩:=hr;exact yz a
 |nH L j A=>obtain⟨H,a,_⟩:=hr;exact yz a
 |map h A=>obtain⟨E,f,a,_⟩:=hr;exact yz a
 |fmap h A=>obtain⟨E,f,a,_⟩:=hr;exact yz a
theorem vS.calm{m:a7}{id:Nat}{o:gr}(hr:vS m id o)(ho:o.iF=false):¬m.own (m.σ id):=by
 cases o with
 |fvar D=>obtain⟨H,L,Y,_,_,c⟩:=hr;exact c
 |uZ L j A=>obtain⟨H,Y,_,_,_,_,_,_,_,c⟩:=hr;exact c
 |fmap f A=>obtain⟨_,_,_,_,_,c⟩:=hr;exact c
 |_=>simp[gr.iF]at ho
end
variable{m:a7}
variable {T:World}
section
variable{m:a7}
structure jQ (w w':World):Prop where
 os:w'.os=w.os
 tape:w'.tape=w.tape
 output:w'.output=w.output
 size:w.heap.size<=w'.heap.size
 keep:∀c,c<w.heap.size->w'.heap[c]?=w.heap[c]?
theorem jQ.refl(w:World):jQ w w:=⟨rfl,rfl,rfl,cP _,λ_ _=>rfl⟩
theorem jQ.trans{a b c:World}(h:jQ a b)(k:jQ b c):jQ a c:=
 ⟨k.os.trans h.os,k.tape.trans h.tape,k.output.trans h.output,ob h.size k.size,λx H=>(k.keep x (CD H h.size)).trans (h.keep x H)⟩
theorem jQ.alloc(w:World)(o:Obj):jQ w (w.alloc o):=⟨rfl,rfl,rfl,aG,λ_ h=>heap_alloc_old w o h⟩
theorem jQ.drew(w:World):jQ w w.drew:=⟨rfl,rfl,rfl,cP _,λ_ _=>rfl⟩
def a7.later(m:a7)(M:World)(X:Nat->Prop):a7:={m with w:=M,fr:=λc=>m.fr c\/X c}
theorem ajX{X:Nat->Prop}{c:Nat}:(m.later M X).own c↔m.own c\/X c:=by
 unfold a7.own a7.iF a7.later
 grind
theorem NT{M:World}{X:Nat->Prop}(hg:jQ m.w M)(f:∀c,X c->m.w.heap.size<=c):hs m (m.later M X) where
 os:=hg.os
 tape:=hg.tape
 output:=hg.output
 size:=hg.size
 keep c H _:=hg.keep c H
 iF c _ h:=h
 less c H j h:=by
  rcases ajX.1 h with h|h
  .exact j h
  have:=f c h;omega
 gen _:=cP _
 ref _ _ af:=⟨af,rfl,rfl,rfl⟩
theorem Po{M:World}{X:Nat->Prop}(h:dW T m)(hg:jQ m.w M)(f:∀c,X c->m.w.heap.size<=c/\c<M.heap.size):dW T (m.later M X) where
 os:=hg.os.trans h.os
 tape:=hg.tape.trans h.tape
 output:=hg.output.trans h.output
 size:=ob h.size hg.size
 base c H:=(hg.keep c (CD H h.size)).trans (h.base c H)
 obj id o ho:=(h.obj id o ho).ev (NT hg λc H=>(f c H).1).zero rfl rfl (hg.keep _ (h.obj id o ho).lt)
 eO id o ho hm:=by
  refine⟨(h.eO id o ho hm).1,?_⟩;rintro(hf|j)
  .exact(h.eO id o ho hm).2 hf
  have n:=(f _ j).1;have u:=(h.obj id o ho).lt;simp[a7.later]at n;omega
 frlt c H:=by
  rcases H with hf|j
  .exact CD (h.frlt c hf) hg.size
  exact(f c j).2
 inj:=h.inj
def a7.install(m:a7)(s c k:Nat)(o:gr):a7:=⟨m.w,dz m.blk s ((m.blk s).1+1,some o),dz m.σ s c,dz m.κ s k,λx=>m.fr x/\x≠c⟩
theorem anl{s c k:Nat}{o:gr}{x:Nat}(h:(m.install s c k o).iF x):x=c\/m.iF x:=by
 obtain⟨id,O,ho,hm,f⟩:=h;simp[a7.install,bG]at ho f;by_cases H:id=s
 .grind
 simp[H,if_false]at ho f;exact .inr ⟨id,O,ho,hm,f⟩
theorem Xm{s c k:Nat}{o:gr}(H:m.fr c){x:Nat}(h:(m.install s c k o).own x):m.own x:=by
 rcases h with h|h
 .exact .inl h.1
 rcases anl h with rfl|h
 .exact .inl H
 exact .inr h
theorem VF{M:a7}{s c k:Nat}{o:gr}(h:hs m M)(n:M.fr c)(u:m.w.heap.size<=c\/m.iF c):hs m (M.install s c k o) where
 os:=h.os
 tape:=h.tape
 output:=h.output
 size:=h.size
 keep:=h.keep
 iF x H hm:=by
  rcases anl hm with rfl|hm
  .grind
  exact h.iF x H hm
 less x H E hm:=h.less x H E (Xm n hm)
 gen id:=by
  simp[a7.install,bG];have:=h.gen id
  grind
 ref id f af:=by
  have hg:=h.gen id;simp[a7.install,bG]at f af |-;by_cases j:id=s
  .grind
  simp[j,if_false]at f af |-;exact h.ref id f af
theorem SX{s c k:Nat}{o:gr}(h:dW T m)(y:m.fr c)(D:T.heap.size<=c)(ho:vS (m.install s c k o) s o):dW T (m.install s c k o):=by
 have E:∀x,x<m.w.heap.size-> ¬m.own x->(m.install s c k o).w.heap[x]?=m.w.heap[x]? /\ ¬(m.install s c k o).own x:=λx _ N=>⟨rfl,λh=>N (Xm y h)⟩
 have F:wK m (m.install s c k o):=by
  refine⟨E,λid=>?_,λid f af=>?_⟩
  .simp only[a7.install,bG]
   grind
  simp only[a7.install,bG]at f af |-
  grind
 exact{
  os:=h.os
  tape:=h.tape
  output:=h.output
  size:=h.size
  base:=h.base
  obj:=by
   intro id O Q;by_cases H:id=s
   .subst H;simp only[a7.install,bG,if_true,jb]at Q;exact Q▸ho
   simp only[a7.install,bG,H,if_false]at Q;exact(h.obj id O Q).ev F (by simp[a7.install,bG,H]) (by simp[a7.install,bG,H]) rfl
  eO:=by
   intro id O Q hm;by_cases H:id=s
   .subst H;simp only[a7.install,bG,if_true];exact⟨D,λh=>h.2 rfl⟩
   simp only[a7.install,bG,H,if_false]at Q |-;exact⟨(h.eO id O Q hm).1,λhf=>(h.eO id O Q hm).2 hf.1⟩
  frlt:=λx L=>h.frlt x L.1
  inj:=by
   intro id v A z n B j M f;by_cases H:id=s<;>by_cases u:v=s
   .rw[H,u]
   .subst H;simp only[a7.install,bG,u,if_true,if_false]at j f;exact((h.eO v z j M).2 (f▸y)).elim
   .subst u;simp only[a7.install,bG,H,if_true,if_false]at n f;exact((h.eO id A n B).2 (f.symm▸y)).elim
   simp only[a7.install,bG,H,u,if_false]at n j f;exact h.inj id v A z n B j M f}
def a7.sG(m:a7)(id:Nat):a7:=⟨m.w,dz m.blk id ((m.blk id).1,none),m.σ,m.κ,λc=>m.fr c\/c=m.σ id⟩
theorem aDL{id:Nat}{o:gr}(ho:(m.blk id).2=some o)(hm:o.iF){x:Nat}(h:(m.sG id).own x):m.own x:=by
 rcases h with(h|h)|⟨j,O,f,u,n⟩
 .exact .inl h
 .exact .inr ⟨id,o,ho,hm,h.symm⟩
 simp[a7.sG,bG]at f n;by_cases H:j=id
 .simp[H]at f
 simp[H,if_false]at f;exact .inr ⟨j,O,f,u,n⟩
theorem NN{id:Nat}{o:gr}(ho:(m.blk id).2=some o)(hm:o.iF):hs m (m.sG id) where
 os:=rfl
 tape:=rfl
 output:=rfl
 size:=cP _
 keep _ _ _:=rfl
 iF x _ h:=by
  obtain⟨f,O,j,u,n⟩:=h;simp[a7.sG,bG]at j n;by_cases H:f=id
  .simp[H]at j
  simp[H,if_false]at j;exact⟨f,O,j,u,n⟩
 less x _ y h:=y (aDL ho hm h)
 gen f:=by
  simp[a7.sG,bG]
  grind
 ref f v af:=by
  simp[a7.sG,bG]at v af |-
  grind
theorem agK{id:Nat}{o:gr}(h:dW T m)(ho:(m.blk id).2=some o)(hm:o.iF):dW T (m.sG id) where
 os:=h.os
 tape:=h.tape
 output:=h.output
 size:=h.size
 base:=h.base
 obj n O f:=by
  simp[a7.sG,bG]at f;by_cases H:n=id
  .simp[H]at f
  simp[H,if_false]at f;exact(h.obj n O f).ev (NN ho hm).zero rfl rfl rfl
 eO n O f j:=by
  simp only[a7.sG,bG]at f |-;by_cases H:n=id
  .simp[H]at f
  simp[H,if_false]at f;refine⟨(h.eO n O f j).1,?_⟩;rintro(hf|hf)
  .exact(h.eO n O f j).2 hf
  exact H (h.inj n id O o f j ho hm hf)
 frlt c z:=by
  rcases z with hf|rfl
  .exact h.frlt c hf
  exact(h.obj id o ho).lt
 inj KI KJ A y f x j M v:=by
  simp[a7.sG,bG]at f j v;by_cases H:KI=id
  .simp[H]at f
  by_cases u:KJ=id
  .simp[u]at j
  simp[H,u,if_false]at f j;exact h.inj KI KJ A y f x j M v
def a7.kS(m:a7)(M:World)(id:Nat)(o:gr):a7:=⟨M,dz m.blk id ((m.blk id).1,some o),m.σ,m.κ,m.fr⟩
section
variable {m:a7} {M:World} {id:Nat} {o old:gr} (ho:(m.blk id).2=some old) (hm:old.iF)
include ho hm
theorem azu{x:Nat}(h:(m.kS M id o).own x):m.own x:=by
 rcases h with h|⟨n,O,f,u,j⟩
 .exact .inl h
 simp[a7.kS,bG]at f j;by_cases H:n=id
 .exact .inr ⟨id,old,ho,hm,H▸j⟩
 simp[H,if_false]at f;exact .inr ⟨n,O,f,u,j⟩
theorem Mj(E:mx ((m.blk id).1,some o)=mx ((m.blk id).1,some old))(z:M.os=m.w.os)(A:M.tape=m.w.tape)(Q:M.output=m.w.output)(af:M.heap.size=m.w.heap.size)
  (B:∀c,c≠m.σ id->M.heap[c]?=m.w.heap[c]?):hs m (m.kS M id o) where
 os:=z
 tape:=A
 output:=Q
 size:=EA af.symm
 keep c _ u:=B c λe=>u ⟨id,old,ho,hm,e.symm⟩
 iF x _ h:=by
  obtain⟨f,O,v,y,n⟩:=h;simp[a7.kS,bG]at v n;by_cases H:f=id
  .exact⟨id,old,ho,hm,H▸n⟩
  simp[H,if_false]at v;exact⟨f,O,v,y,n⟩
 less x _ u h:=u (azu ho hm h)
 gen f:=by
  simp[a7.kS,bG]
  grind
 ref f D j:=by
  simp[a7.kS,bG]at D j |-
  grind
theorem OU(h:dW T m)(z:mx ((m.blk id).1,some o)=mx ((m.blk id).1,some old))(Z:M.os=m.w.os)(B:M.tape=m.w.tape)(Q:M.output=m.w.output)(af:M.heap.size=m.w.heap.size)
  (x:∀c,c≠m.σ id->M.heap[c]?=m.w.heap[c]?) (N:vS (m.kS M id o) id o):dW T (m.kS M id o) where
 os:=Z.trans h.os
 tape:=B.trans h.tape
 output:=Q.trans h.output
 size:=ob h.size (EA af.symm)
 base c y:=by have:=(h.eO id old ho hm).1;exact(x c J).trans (h.base c y)
 obj j O f:=by
  simp[a7.kS,bG]at f;by_cases H:j=id
  .grind
  simp[H,if_false]at f;refine(h.obj j O f).ev (Mj ho hm z Z B Q af x).zero rfl rfl (x _ λe=>?_);cases E:O.iF with
  |true=>exact H (h.inj j id O old f E ho hm e)
  |false=>exact(h.obj j O f).calm E (.inr ⟨id,old,ho,hm,e.symm⟩)
 eO j O f n:=by
  simp[a7.kS,bG]at f |-;by_cases H:j=id
  .subst H;exact h.eO j old ho hm
  simp[H,if_false]at f;exact h.eO j O f n
 frlt c y:=by rw[show(m.kS M id o).w.heap.size=m.w.heap.size from af];exact h.frlt c y
 inj KI KJ L F f D n A v:=by
  simp[a7.kS,bG]at f n v;by_cases H:KI=id<;>by_cases u:KJ=id
  .rw[H,u]
  .simp[u,if_false]at n;exact H▸h.inj id KJ old F ho hm n A (H▸v)
  .simp[H,if_false]at f;exact u▸h.inj KI id L old f D ho hm (u▸v)
  simp[H,u,if_false]at f n;exact h.inj KI KJ L F f D n A v
end
end
def SC:Value->Option PV
 | .bool b=>some (.bool b)
 | .int k n=>some (.int k n)
 | .string s=>some (.str s)
 | .pointer none=>some .Bm
 | .slice none 0 0=>some .nils
 | .map none=>some .uw
 | .nilFunc=>some .Aa
 | .nilIface=>some .nili
 |_=>none
def LZ:List Value->Option dR
 |[]=>some []
 |v::r=>match SC v,LZ r with
  |some x,some N=>some (x::N)
  |_,_=>none
def acM:Value->Option V
 | .agg D=>(LZ D.toList).map λl=>.agg (l.map .p)
 |v=>(SC v).map λx=>.one (.p x)
def dr:Operand->Option fc
 | .tmp t=>some (.t t)
 | .const (.int .i64 n)=>some (.i n)
 | .const (.bool b)=>some (.b b)
 | .const v=>(acM v).map .k
 | .func f=>some (.k (.one (.p (.fn f [] []))))
 | .global _=>none
def rW:List Operand->Option ve
 |[]=>some []
 |a::r=>match dr a,rW r with
  |some x,some N=>some (x::N)
  |_,_=>none
def AI:Option Operand->Option (Option fc)
 |none=>some none
 |some a=>(dr a).map some
def Ct(P:Program)(t:TypeId):Option dR:=
 match P.info? t with
 |some i=>match i.zero with
  |some (.agg D)=>if D.size=i.size then LZ D.toList else none
  |some v=>if i.size=1 then(SC v).map λx=>[x]else none
  |none=>none
 |none=>none
def sZ(P:Program)(t:TypeId):Option eF:=
 match P.underlying t,P.info? t with
 |some (.struct _),some i=>some (some i.size)
 |some (.array _ _),some i=>some (some i.size)
 |some _,some i=>if i.size=1 then some none else none
 |_,_=>none
def zm(P:Program)(t:TypeId):eF:=(P.info? t).map (·.size)
def Ef(place:Nat->Option (Nat×Nat))(z:Nat):List (Nat×Operand)->Option (List (Nat×Nat×fc))
 |[]=>some []
 |(i,x)::r=>match place i,dr x,Ef place z r with
  |some (E,n),some a,some q=>if E+n<=z then some ((E,n,a)::q)else none
  |_,_,_=>none
def KV:Nat->List (Nat×Operand)->Option ve
 |_,[]=>some []
 |k,(i,x)::r=>match dr x,KV (k+1) r with
  |some a,some q=>if i=k then some (a::q)else none
  |_,_=>none
def Wk(P:Program)(t:TypeId):Option Bool:=
 match P.underlying t with
 |some (.int _)=>some true
 |some .bool=>some false
 |_=>none
def K9(P:Program):Nat->List Field->Option dK
 |_,[]=>some []
 |k,f::r=>match Wk P f.type,K9 P (k+1) r with
  |some b,some B=>if f.offset=k/\f.name≠ "_" then some (b::B)else none
  |_,_=>none
def K0:Operand->Bool
 | .const .nilIface=>true
 |_=>false
def PH(P:Program)(t:TypeId)(x y:Operand):Option zu:=
 match P.underlying t with
 |some (.interface _)=>if K0 x||K0 y then some .ifc else none
 |some .bool=>some .bool
 |some (.pointer _)=>some .ptr
 |some (.slice _)=>some .slc
 |some (.map _ _)=>some .map
 |some (.func _ _ _)=>some .fnc
 |some (.struct fs)=>if !P.stoodInHeld t&& !P.eqGuardType P.depth t then(K9 P 0 fs.toList).map .str else none
 |_=>none
def CQ(P:Program)(t:TypeId):Option (TypeId×Nat×Nat×dR):=
 match P.underlying t with
 |some (.slice e)=>match P.info? e,Ct P e with
  |some i,some z=>if 0<i.size/\0<i.bytes then some (e,i.size,i.bytes,z)else none
  |_,_=>none
 |_=>none
def keyOf(P:Program)(k:TypeId):eF:=
 match P.underlying k with
 |some (.int _)=>some 0
 |some .string=>some 1
 |some .bool=>some 2
 |_=>none
def W_(P:Program)(t:TypeId):Bool:=
 match P.info? t with
 |some i=>match i.zero with
  |some (.agg _)=>true
  |_=>false
 |none=>false
def JB(P:Program)(A:Nat)(o:Oper):Option s4:=
 match o.op with
 | .move x=>(dr x).map .rm
 | .assign x=>(dr x).map .rm
 | .pick c a b=>match dr c,dr a,dr b with
  |some c,some a,some b=>some (.pick c a b)
  |_,_,_=>none
 | .alloc t=>(Ct P t).map (.alloc A)
 | .box _ x=>(dr x).map (.box A)
 | .build t ps=>match P.underlying t,Ct P t with
  |some (.struct fs),some z=>if fs.all λf=>(P.info? f.type).isSome then
    (Ef (λi=>(fs[i]?).map λf=>(f.offset,P.cellsOf f.type)) (I z) ps.toList).map (.build z)
   else none
  |some (.array _ e),some z=>match P.info? e with
   |some i=>(Ef (λk=>some (k*i.size,i.size)) (I z) ps.toList).map (.build z)
   |none=>none
  |_,_=>none
 | .buildSlice t n ps=>match CQ P t,KV 0 ps.toList with
  |some (e,j,_,_),some as=>if I as=n/\n*j<=16777216 then some (.Pg A e j as)else none
  |_,_=>none
 | .load t a=>match sZ P t,dr a with
  |some k,some a=>some (.load k a)
  |_,_=>none
 | .store t a x=>match zm P t,dr a,dr x with
  |some n,some a,some x=>some (.store n a x)
  |_,_,_=>none
 | .nilCheck x=>(dr x).map .R0
 | .binOp op t x y _=>match dr x,dr y with
  |some a,some b=>match P.underlying t with
   |some (.int _)=>some (.bin op a b)
   |some .string=>some (.bin op a b)
   |_=>match op,PH P t x y with
    | .eql,some k=>some (.eqc k false a b)
    | .neq,some k=>some (.eqc k true a b)
    |_,_=>none
  |_,_=>none
 | .unOp op _ x=>match op with
  | .not=>(dr x).map (.un .not)
  | .neg=>(dr x).map (.un .neg)
  |_=>none
 | .convert s d x=>match P.underlying s,P.underlying d,dr x with
  |some (.int _),some (.int k),some a=>some (.conv k a)
  |some (.slice e),some .string,some a=>match P.underlying e with
   |some (.int .u8)=>some (.bstr a)
   |_=>none
  |_,_,_=>none
 | .makeFunc (.func f) a b=>match rW a.toList,rW b.toList with
  |some x,some y=>some (.mkfn f x y)
  |_,_=>none
 | .makeMap t none=>match P.underlying t with
  |some (.map _ e)=>(sZ P e).map λk=>.mkmap A k.isSome
  |_=>none
 | .makeSlice t l c=>match CQ P t,dr l,dr c with
  |some (e,j,bytes,z),some l,some c=>some (.Ry A e j bytes z l c)
  |_,_,_=>none
 | .slice t x lo H none=>match dr x,AI lo,AI H with
  |some a,some l,some h=>match P.underlying t with
   |some (.slice e)=>(zm P e).map λj=>.slice j a l h
   |some .string=>some (.sslice a l h)
   |_=>none
  |_,_,_=>none
 | .fieldAddr s x f=>match P.underlying s,dr x with
  |some (.struct fs),some a=>match fs[f]? with
   |some d=>if P.cellsOf d.type≠0 then some (.EB d.offset a)else none
   |none=>none
  |_,_=>none
 | .field t x f=>match P.underlying t,dr x with
  |some (.struct fs),some a=>match fs[f]? with
   |some d=>(sZ P d.type).map λk=>.fld d.offset k a
   |none=>none
  |_,_=>none
 | .indexAddr t x i=>match dr x,dr i with
  |some a,some b=>match P.underlying t with
   |some (.slice e)=>(zm P e).map λj=>.Q7 j a b
   |some (.array n e)=>(zm P e).map λj=>.O2 n j a b
   |_=>none
  |_,_=>none
 | .index t x i=>match dr x,dr i with
  |some a,some b=>match P.underlying t with
   |some (.array n e)=>match zm P e,sZ P e with
    |some j,some k=>some (.aidx n j k a b)
    |_,_=>none
   |some .string=>some (.sidx a b)
   |_=>none
  |_,_=>none
 | .lookup t x k ok=>match P.underlying t,dr x,dr k with
  |some (.map B e),some a,some b=>match Ct P e,sZ P e with
   |some z,some q=>match keyOf P B with
    |some kd=>if W_ P e=q.isSome then some (.lookup kd z q.isSome ok a b)else none
    |none=>none
   |_,_=>none
  |_,_,_=>none
 | .mapUpdate t m k v=>match P.underlying t,dr m,dr k,dr v with
  |some (.map B e),some a,some b,some c=>match sZ P e with
   |some q=>(keyOf P B).map λkd=>.mupd kd q.isSome a b c
   |none=>none
  |_,_,_,_=>none
 | .insert t m k v=>match P.underlying t,dr m,dr k,dr v with
  |some (.map B e),some a,some b,some c=>match sZ P e with
   |some q=>(keyOf P B).map λkd=>.mupd kd q.isSome a b c
   |none=>none
  |_,_,_,_=>none
 | .extract x i=>(dr x).map λa=>.extract a i
 | .call c=>match c.callee,rW c.args.toList with
  | .value f,some as=>(dr f).map λg=>.call A g as
  | .builtin .len,some [a]=>match c.argTypes[0]? with
   |some t=>match P.underlying t with
    |some .string=>some (.slen a)
    |some (.slice _)=>some (.Vd a)
    |some (.map _ _)=>some (.mlen a)
    |_=>none
   |none=>none
  | .builtin .append,some [a,b]=>match c.argTypes[0]?,c.argTypes[1]? with
   |some t,some u=>match CQ P t with
    |some (e,j,bytes,_)=>if t=u/\c.argTypes.size=2 then some (.append A e j bytes a b)else none
    |none=>none
   |_,_=>none
  | .builtin .max,some [a,b]=>some (.max a b)
  | .builtin .min,some [a,b]=>some (.min a b)
  | .builtin .clear,some [a]=>match c.argTypes[0]? with
   |some t=>(CQ P t).map λq=>.clear q.2.2.2 a
   |none=>none
  |_,_=>none
 |_=>none
def fc.tmps:fc->aD
 | .t n=>[n]
 |_=>[]
def F6:ve->aD
 |[]=>[]
 |a::r=>a.tmps++F6 r
def ad6:Option fc->aD
 |some a=>a.tmps
 |none=>[]
def acD:List (Nat×Nat×fc)->aD
 |[]=>[]
 |(_,_,a)::r=>a.tmps++acD r
def s4.tmps:s4->aD
 | .rm x| .box _ x| .load _ x| .R0 x| .un _ x| .conv _ x| .bstr x| .EB _ x| .fld _ _ x| .extract x _| .slen x| .Vd x| .mlen x| .clear _ x=>x.tmps
 | .pick c a b=>c.tmps++a.tmps++b.tmps
 | .alloc _ _| .mkmap _ _| .bad=>[]
 | .build _ ps=>acD ps
 | .Pg _ _ _ ps=>F6 ps
 | .store _ a x| .bin _ a x| .eqc _ _ a x| .Q7 _ a x| .O2 _ _ a x| .aidx _ _ _ a x| .sidx a x| .lookup _ _ _ _ a x| .append _ _ _ _ a x| .max a x| .min a x=>a.tmps++x.tmps
 | .mkfn _ a b=>F6 a++F6 b
 | .Ry _ _ _ _ _ a b=>a.tmps++b.tmps
 | .slice _ x a b| .sslice x a b=>x.tmps++ad6 a++ad6 b
 | .mupd _ _ a b c=>a.tmps++b.tmps++c.tmps
 | .call _ f as=>f.tmps++F6 as
def lI.Lp(o:lI):aD:=
 o.op.tmps++match o.guard with
  |some (t,_)=>[t]
  |none=>[]
def Jf(a b:lI):Bool:=
 (match a.dst with
  |some d=> !b.Lp.contains d&&b.dst !=some d
  |none=>true)&&
 (match b.dst with
  |some d=> !a.Lp.contains d
  |none=>true)
def VV(o:lI):Nat->fx->Bool
 |_,[]=>true
 |j,x::r=>(o.anc.testBit j||Jf x o)&&VV o (j+1) r
def R7:fx->fx->Bool
 |[],_=>true
 |o::os,f=>VV o 0 f&&R7 os (f++[o])
def KM(P:Program)(f:Nat)(o:Oper):s4:=(JB P f o).getD .bad
def ao5(n:Nat):eF->Bool
 |some d=>decide (d<n)
 |none=>true
def aao(dst:Nat->eF):Option (Nat×Bool)->Option (Option (Nat×Bool))
 |none=>some none
 |some (j,w)=>(dst j).map λt=>some (t,w)
def Gt(P:Program)(dst:Nat->eF)(base n:Nat)(anc:Nat)(o:Oper):Option lI:=if ao5 n o.dst then(aao dst o.guard).map λg=>⟨o.dst,KM P base o,g,anc⟩else none
def zw(P:Program)(dst anc:Nat->eF)(base n:Nat):Nat->List Oper->Option fx
 |_,[]=>some []
 |i,o::r=>match Gt P dst ((base+i)*64) n ((anc i).getD 0) o,zw P dst anc base n (i+1) r with
  |some x,some N=>some (x::N)
  |_,_=>none
def LO(ops:Array Oper):Bool:=(List.range ops.size).all λi=>match ops[i]? with
 |some o=>o.after.toList.all λe=> !Region.binds .any e||decide (e.on<i)
 |none=>true
def rf(P:Program)(f n:Nat):Code->Option aM
 | .skip=>some .skip
 | .region id ops D=>
  let b:=if D then Region.before ops else #[]
  match zw P (λj=>(ops[j]?).bind (·.dst)) (λi=>b[i]?) ((f*1000+id)*1000) n 0 ops.toList with
  |some N=>if D then(if LO ops&&R7 N []then some (.region true N)else none)else some (.region false N)
  |none=>none
 | .seq a b=>match rf P f n a,rf P f n b with
  |some x,some y=>some (.seq x y)
  |_,_=>none
 | .cond c a b=>match dr c,rf P f n a,rf P f n b with
  |some c,some x,some y=>some (.cond c x y)
  |_,_,_=>none
 | .block id c=>(rf P f n c).map (.block id)
 | .loop c=>(rf P f n c).map .loop
 | .exit id=>some (.exit id)
 | .scope c=>rf P f n c
 | .label _=>some .skip
 | .ret=>some .ret
 |_=>some .bad
def CA(P:Program):List ResultVar->Option (List (Nat×Option eF))
 |[]=>some []
 | .tmp t::r=>(CA P r).map ((t,none):: ·)
 | .cell t L::r=>match sZ P L,CA P r with
  |some k,some q=>some ((t,some k)::q)
  |_,_=>none
def Gb(P:Program)(f:Nat):Option aS:=
 match P.funcs[f]? with
 |none=>none
 |some fn=>match fn.body with
  |none=>none
  |some c=>if fn.name== "runtime.NumGoroutine" then none else
   match rf P f fn.ntmps c,CA P fn.results.toList with
   |some b,some r=>some ⟨fn.ntmps,r,b⟩
   |_,_=>none
variable {P:Program} {T:World}
section
variable{m:a7}{v:Value}
def ll(m:a7)(B:bP)(tmps:Array Value):Prop:=∀t,c9 m (B t) (tmps.getD t undef)
theorem ll.ev{m':a7}(h:hs m m'){B:bP}{tmps:Array Value}(hr:ll m B tmps):ll m' B tmps:=λt=>(hr t).ev h.zero
theorem c9.one{c:cG}:c9 m (.one c) v↔gh m c v:=Iff.rfl
theorem c9.agg:c9 m (.agg D) v↔ ∃arr,v=.agg arr/\eE m D arr.toList:=Iff.rfl
theorem c9.of1{x:V}(h:qu m x v):c9 m x v:=by
 cases x with
 |tup F=>exact h.elim
 |_=>exact h
theorem abv{w:World}{own:Nat->Prop}{x:PV}(h:SC v=some x):dd w own x v:=by
 unfold SC at h;split at h<;>first
  |(cases h;constructor;done)
  |cases h
theorem ahR{w:World}{own:Nat->Prop}:∀ {F:List Value}{N:dR},LZ F=some N->eJ w own N F:=by
 intro F
 induction F with
 |nil=>intro N h;simp[LZ]at h;subst h;exact⟨rfl,λj x u a _=>by simp at a⟩
 |cons v r f=>
  intro N h;simp[LZ]at h;split at h
  .rename_i x y m H;cases h;obtain⟨hl,hr⟩:=f H;refine⟨by simp[hl],λj z u a b=>?_⟩;cases j with
   |zero=>simp at a b;subst a b;exact abv m
   |succ j=>simp at a b;exact hr j z u a b
  cases h
theorem eJ.toC(h:eJ m.w m.own N F):eE m (N.map .p) F:=by refine⟨by simp[h.1],λj x u a b=>?_⟩;simp at a;obtain⟨y,H,rfl⟩:=a;exact .p (h.2 j y u H b)
theorem aBD{x:V}(h:acM v=some x):c9 m x v:=by
 unfold acM at h;split at h
 .simp at h;obtain⟨N,H,rfl⟩:=h;exact c9.agg.2 ⟨_,rfl,(ahR H).toC⟩
 simp at h;obtain⟨y,H,rfl⟩:=h;exact c9.one.2 (.p (abv H))
theorem gv{B:bP}{a:Act}(h:dr x=some y)(hr:ll m B a.tmps):c9 m (ev B y) (a.eval x):=by
 unfold dr at h;split at h
 .cases h;exact hr _
 .cases h;exact c9.one.2 (.p (.int _ _))
 .cases h;exact c9.one.2 (.p (.bool _))
 .simp at h;obtain⟨v,H,rfl⟩:=h;exact aBD H
 .cases h;exact c9.one.2 (.p (.fn #[] #[] rfl rfl (λj x u a=>by simp at a) (λj x u a=>by simp at a)))
 cases h
def aFF(P:Program)(ρ:Operand->Value)(o:Oper)(w:World)(x:Value)(M:World):Prop:=
 (execOp ρ o).run P w=.ok (.value x) M\/((execOp ρ o).run P w=.ok .skip M/\x=undef)
def iK(P:Program)(T:World)(ρ:Operand->Value)(o:Oper)(m:a7)(v:V)(u:lq):Prop:=∃x M,aFF P ρ o m.w x M.w/\dW T M/\hs m M/\M.fr=m.fr/\M.blk=app u m.blk/\c9 M v x
theorem iK.calm{ρ:Operand->Value}{o:Oper}{v:V}{x:Value}(h:dW T m)(f:(execOp ρ o).run P m.w=.ok (.value x) m.w)(H:c9 m v x):iK P T ρ o m v []:=
 ⟨x,m,.inl f,h,hs.refl m,rfl,rfl,H⟩
section
variable {m:a7} {B:bP} {a:Act} {o:Oper} (aB:dW T m) (hr:ll m B a.tmps)
include aB hr
theorem anT(ho:o.op=.move x\/o.op=.assign x)(h:dr x=some y):iK P T a.eval o m (ev B y) []:=
 .calm aB (by rcases ho with ho|ho<;>simp[execOp,ho]) (gv h hr)
theorem aGv{c y:Operand}{t:Bool}(ho:o.op=.pick c x y)(n:dr c=some c')(u:dr x=some Z)(H:dr y=some y')
  (f:ev B c'=.one (.p (.bool t))):iK P T a.eval o m (if t then ev B Z else ev B y') []:=by
 have h:=gv n hr;rw[f]at h;obtain⟨⟩:gh m _ _:=h;rename_i hp;generalize j:a.eval c=b at hp;cases hp;refine .calm (x:=if t then a.eval x else a.eval y) aB ?_ ?_
 .simp[execOp,ho,j,asBool]
 cases t
 .exact gv H hr
 exact gv u hr
end
theorem HE{b:Bool}(h:c9 m (.one (.p (.bool b))) v):v=.bool b:=jp
theorem Ez{k:IntKind}{n:Int}(h:c9 m (.one (.p (.int k n))) v):v=.int k n:=jp
theorem OR{s:ByteArray}(h:c9 m (.one (.p (.str s))) v):v=.string s:=jp
theorem VL(h:c9 m (.one (.p .nils)) v):v=.slice none 0 0:=jp
theorem asM(h:c9 m (.one (.p .zs)) v):∃a,v=.slice a 0 0:=by obtain⟨hp⟩:gh m _ v:=h;cases hp;exact⟨_,rfl⟩
theorem apu(h:c9 m (.one (.p .uw)) v):v=.map none:=jp
theorem pJ{x:PV}(h:dd m.w m.own x v):c9 m (.one (.p x)) v:=c9.one.2 (.p h)
def a7.fresh(m:a7)(O:Obj)(s k:Nat)(o:gr):a7:=(m.later (m.w.alloc O) (· =m.w.heap.size)).install s m.w.heap.size k o
theorem adl(aB:dW T m)(O:Obj)(s k:Nat)(o:gr):(m.fresh O s k o).fr=m.fr:=by
 funext c;simp only[a7.fresh,a7.install,a7.later];apply propext;constructor
 .grind
 intro h;exact⟨.inl h,λe=>by have:=aB.frlt c h;omega⟩
theorem VY(O:Obj)(s k:Nat)(o:gr):hs m (m.fresh O s k o):=VF (NT (jQ.alloc m.w O) λc h=>EA h.symm) (.inr rfl) (.inl (cP _))
theorem agy(O:Obj)(s k:Nat)(o:gr):(m.fresh O s k o).w.heap[(m.fresh O s k o).σ s]?=some O:=by
 have:(m.fresh O s k o).σ s=m.w.heap.size:=by simp[a7.fresh,a7.install,bG]
 rw[this];exact heap_alloc_new m.w O
theorem aqt(aB:dW T m)(O:Obj)(s k:Nat)(o:gr)(ho:vS (m.fresh O s k o) s o):dW T (m.fresh O s k o):=SX (Po aB (jQ.alloc m.w O) λc h=>by subst h;exact⟨cP _,aG⟩) (.inr rfl) aB.size ho
theorem adm(m:a7)(O:Obj)(s k:Nat)(o:gr):(m.fresh O s k o).blk=app [(s,((m.blk s).1+1,some o))] m.blk:=rfl
theorem api(aB:dW T m)(s:Nat)(t:TypeId)(D:eC)(arr:Array Value)(h:eE m D arr.toList):
  dW T (m.fresh (.cells arr t) s 0 (.var D))/\c9 (m.fresh (.cells arr t) s 0 (.var D)) (.one (.aW s ((m.blk s).1+1) 0)) (.pointer (some ⟨m.w.heap.size,0,none⟩)):=by
 refine⟨aqt aB _ s 0 _ ⟨arr,t,agy _ s 0 _,h.ev (VY _ s 0 _).zero⟩,c9.one.2 (.aW _ ?_ λ_ _=>?_)⟩
 .simp[a7.fresh,a7.install,a7.later,bG]
 simp[a7.fresh,a7.install,bG]
theorem OA{t:TypeId}(h:Ct P t=some z):∃v i,P.info? t=some i/\i.zero=some v/\v.cells.size=i.size/\I z=i.size/\ ∀w own,eJ w own z v.cells.toList:=by
 unfold Ct at h;split at h
 .rename_i i H;split at h
  .rename_i D m;split at h
   .rename_i af;have hr:=λw own=>ahR (w:=w) (own:=own) h;refine⟨_,i,H,m,by simpa [Value.cells]using af,?_,λw own=>by simpa [Value.cells]using hr w own⟩;have:=(hr default (λ_=>False)).1;simp at this;omega
   cases h
  .rename_i v m A;split at h
   .rename_i af;simp at h;obtain⟨x,n,rfl⟩:=h;have hr:=λw own=>abv (w:=w) (own:=own) n;have f:=(hr default (λ_=>False)).cells;refine⟨v,i,H,A,by simp[f,af],by simp[af],λw own=>?_⟩;rw[f];refine⟨rfl,λj y u a b=>?_⟩
    grind
   cases h
  cases h
 cases h
section
variable {m:a7} {B:bP} {a:Act} {o:Oper} (aB:dW T m) (hr:ll m B a.tmps)
include aB
theorem axp{t:TypeId}{s:Nat}(ho:o.op=.alloc t)(n:Ct P t=some z):
  iK P T a.eval o m (.one (.aW s ((m.blk s).1+1) 0)) [(s,((m.blk s).1+1,some (.var (z.map .p))))]:=by
 obtain⟨v,i,j,h,af,hl,E⟩:=OA n;obtain⟨f,H⟩:=api aB s t _ v.cells (E m.w m.own).toC;refine⟨_,_,.inl ?_,f,VY _ s 0 _,adl aB _ s 0 _,adm _ _ s 0 _,H⟩;simp[execOp,ho,Instr.alloc,zeroValue,typeInfo,j,h,newVar,newRow];rfl
include hr
theorem atd{t:TypeId}{s:Nat}(ho:o.op=.box t x)(v:dr x=some y)(H:vP (ev B y)=some D):
  iK P T a.eval o m (.one (.aW s ((m.blk s).1+1) 0)) [(s,((m.blk s).1+1,some (.var D)))]:=by
 have f:=gv v hr;have A:eE m D (a.eval x).cells.toList:=by
  generalize ev B y=w at H f;cases w with
  |undef=>simp[vP]at H
  |tup F=>simp[vP]at H
  |one c=>
   simp[vP]at H;subst H;rw[(c9.one.1 f).cells];refine⟨rfl,λj y u p q=>?_⟩;cases j with
   |zero=>simp at p q;subst p q;exact f
   |succ j=>simp at p
  |agg E=>simp[vP]at H;subst H;obtain⟨arr,e,h⟩:=c9.agg.1 f;rw[e];exact h
 obtain⟨z,n⟩:=api aB s t D _ A;refine⟨_,_,.inl ?_,z,VY _ s 0 _,adl aB _ s 0 _,adm _ _ s 0 _,n⟩;simp[execOp,ho,Instr.box,newVar,newRow];rfl
end
end
theorem Lg{α:Type}:∀ {A:List (List α)},(∀e∈A,I e=j)->I A.flatten=I A*j:=by
 intro A
 induction A with
 |nil=>intro _;simp
 |cons e r f=>grind
theorem IF{α:Type}:∀ {A:List (List α)},(∀e∈A,I e=j)->∀ {i:Nat}{e:List α},A[i]?=some e->∀ {m:Nat},m<j->A.flatten[i*j+m]?=e[m]? :=by
 intro A
 induction A with
 |nil=>intro _ i e h;simp at h
 |cons x r v=>
  intro h i e H m u;have f:=h x aG;cases i with
  |zero=>grind
  |succ i=>simp at H;simp only[tR];rw[uJ (by rw[f,lR];omega),<- (v (λy n=>h y aIz) H u)];congr 1;rw[f,lR];omega
theorem Sb{α:Type}{A:List (List α)}(h:∀e∈A,I e=j){i:Nat}{e:List α}(H:A[i]?=some e):I e=j:=h e (a8 H)
theorem KP{w:World}{b k:Nat}(h:w.heap[b]?=some (.cells H L Y)):w.cell? ⟨b,k,none⟩=H[k]? :=cell_of_row w b k H L Y h
def EI (m:a7)(v:Value)(D:eC):Prop:=∃b o F,v=.pointer (some ⟨b,o,none⟩)/\eE m D F/\ ∀(j:Nat) (u:Value),F[j]?=some u->m.w.cell? ⟨b,o+j,none⟩=some u
theorem EI.row{b o:Nat}(h:m.w.heap[b]?=some (.cells H L Y))(hl:o+I D<=H.size)
  (f:∀(j:Nat) (x:cG) (u:Value),D[j]?=some x->H[o+j]?=some u->gh m x u):EI m (.pointer (some ⟨b,o,none⟩)) D:=by
 refine⟨b,o,(H.toList.drop o).take (I D),rfl,⟨by simp;omega,λj x u p q=>?_⟩,λj u q=>?_⟩
 .grind
 rw[sB]at q;split at q
 .rw[KP h];simpa using q
 cases q
theorem akc(aB:dW T m){x:V}{v:Value}{rd:aD}(h:Ek m.blk x=some (D,rd))(hv:c9 m x v):EI m v D:=by
 unfold Ek at h;split at h
 .rename_i ps;simp only[jb,nR]at h;obtain⟨rfl,rfl⟩:=h;obtain⟨hp⟩:gh m _ v:=hv;cases hp with
  |box b o f ho hc hr=>
   refine⟨b,o,(List.range (I ps)).map f,rfl,⟨aG,λF x u p q=>?_⟩,λF u q=>?_⟩
   .simp only[fX,gW]at p q;obtain⟨y,X,rfl⟩:=p;obtain⟨k,R,rfl⟩:=q;have Du:k=F:=by
     rw[wZ (by have:=bN.1 X;obtain⟨h,_⟩:=this;exact h)]at R
     simpa using R.symm
    subst Du;exact .p (hr k y X)
   simp only[fX,gW]at q;obtain⟨k,R,rfl⟩:=q;have aw:F<I ps:=by have:=bN.1 R;obtain⟨h,_⟩:=this;simpa using h
   rw[wZ aw]at R;simp at R;subst R;exact hc F _ (vA aw)
 .rename_i id g E;cases hv with
  |aW a hg N=>
   split at h
   .rename_i g' CW z;split at h
    .rename_i O;simp only[jb,nR]at h;obtain⟨rfl,rfl⟩:=h;have bh:(m.blk id).2=some (.var CW):=by rw[z]
     have N:=N aHX aH5;subst N;obtain⟨H,L,B,hl,hc⟩:=aB.obj id _ bh;simp at hl;by_cases ho:E<=I CW
     .exact EI.row B fd λF x u p q=>hc (E+F) x u (by simpa using p) (by simpa using q)
     exact aID
    cases h
   .rename_i g' CW z;split at h
    .rename_i O;simp only[jb,nR]at h;obtain⟨rfl,rfl⟩:=h;have bh:(m.blk id).2=some (.fvar CW):=by rw[z]
     have N:=N aHX aH5;subst N;obtain⟨H,L,Y,B,hp,_⟩:=aB.obj id _ bh;have hl:=hp.1;simp at hl;by_cases ho:E<=I CW
     .refine EI.row B fd λF x u p q=>?_;simp only[fX,gW]at p;obtain⟨y,X,rfl⟩:=p;exact .p (hp.2 (E+F) y u (by simpa using X) (by simpa using q))
     exact aID
    cases h
   cases h
 .rename_i id g i E;cases hv with
  |eo a hg N=>
   have Z:∀(j:Nat) (e:eC) (H:Array Value) (L:TypeId) (Y:Nat×Nat),m.w.heap[m.σ id]?=some (.cells H L Y)->I e=j->(i+1)*j<=H.size->
     a=⟨m.σ id,i*j+E,none⟩->(∀(F:Nat) (x:cG) (u:Value),e[F]?=some x->H[i*j+F]?=some u->gh m x u)->EI m (.pointer (some a)) (e.drop E):=by
    intro j e H L Y B M aw De hc;subst De;rw[lR,MJ]at aw;by_cases ho:E<=I e
    .exact EI.row B fd λF x u p q=>hc (E+F) x u (by simpa using p) (by rw[<-FT];exact q)
    exact aID
   have pure:∀(L j:Nat) (A:dy) (e:dR) (H:Array Value) (Y:Nat×Nat),m.w.heap[m.σ id]?=some (.cells H L Y)->(∀e∈A,I e=j)->I A*j<=H.size->
     eJ m.w m.own A.flatten (H.toList.take (I A*j))->A[i]?=some e->a=⟨m.σ id,i*j+E,none⟩->EI m (.pointer (some a)) ((e.drop E).map .p):=by
    intro L j A e H Y B n ab Q M De;have eo:=Sb n M;have jA:(i+1)*j<=I A*j:=oo _ ((bN.1 M).1);rw[uN];refine Z j (e.map .p) H L Y B (by simpa using eo) J De λF x u p q=>?_;simp only[fX,gW]at p;obtain⟨y,X,rfl⟩:=p;have hj:F<j:=by have:=(bN.1 X).1;omega
    refine .p (Q.2 (i*j+F) y u (by rw[IF n M hj];exact X) ?_);rw[lR]at jA;rw[sB,aI J]
    simpa using q
   split at h
   .rename_i g' L j A z;split at h
    .rename_i O;simp only[gW,nR]at h;obtain⟨e,M,rfl,rfl⟩:=h;obtain⟨H,B,mF,n,hl,hm,dV,Q⟩:=aB.obj id _ (by rw[z]);exact pure L j A e H _ B n atR Q M (N j aHX (by rw[z];rfl))
    cases h
   .rename_i g' L j A z;split at h
    .rename_i O;simp only[gW,nR]at h;obtain⟨e,M,rfl,rfl⟩:=h;obtain⟨H,Y,B,mF,n,hl,hm,dV,Q,_⟩:=aB.obj id _ (by rw[z]);exact pure L j A e H _ B n atR Q M (N j aHX (by rw[z];rfl))
    cases h
   .rename_i g' L j A z;split at h
    .rename_i O;simp only[gW,nR]at h;obtain⟨e,M,rfl,rfl⟩:=h;obtain⟨H,B,mF,n,hl,hm,dV,Q⟩:=aB.obj id _ (by rw[z]);have eo:=Sb n M;have jA:(i+1)*j<=I A*j:=oo _ ((bN.1 M).1);have ad:I A*j<=m.κ id*j:=oo _ hl;refine Z j e H L _ B eo J (N j aHX (by rw[z];rfl)) λF x u p q=>?_;have hj:F<j:=by have:=(bN.1 p).1;omega
     refine Q.2 (i*j+F) x u (by rw[IF n M hj];exact p) ?_;rw[lR]at jA;rw[sB,aI J]
     simpa using q
    cases h
   cases h
 cases h
theorem asn{t:TypeId}(h:sZ P t=some (some n)):∃d i,P.underlying t=some d/\P.info? t=some i/\i.size=n/\((∃fs,d=.struct fs)\/ ∃k e,d=.array k e):=by
 unfold sZ at h
 grind
theorem aGM{t:TypeId}(h:sZ P t=some none):∃d i,P.underlying t=some d/\P.info? t=some i/\i.size=1/\(∀fs,d≠ .struct fs)/\ ∀k e,d≠ .array k e:=by
 unfold sZ at h
 grind
theorem agt{t:TypeId}(h:sZ P t=some (some n))(w:World):(isAgg t).run P w=.ok true w/\(sizeOf t).run P w=.ok n w:=by
 obtain⟨d,i,j,H,m,f⟩:=asn h;constructor
 .rcases f with⟨fs,rfl⟩|⟨k,e,rfl⟩<;>simp[isAgg,run_underlying j]
 simp[sizeOf,typeInfo,H,m]
theorem apx{t:TypeId}(h:sZ P t=some none)(w:World):(isAgg t).run P w=.ok false w/\(sizeOf t).run P w=.ok 1 w:=by
 obtain⟨d,i,j,H,n,f,m⟩:=aGM h;constructor
 .cases d<;>first
   |exact(f _ rfl).elim
   |exact(m _ _ rfl).elim
   |simp[isAgg,run_underlying j]
 simp[sizeOf,typeInfo,H,n]
theorem ahn{t:TypeId}{k:eF}(E:sZ P t=some k){v:Value}(h:EI m v D){x:V}(H:uo k D=some x):
  ∃a y,v=.pointer (some a)/\(loadVar t a).run P m.w=.ok y m.w/\c9 m x y:=by
 obtain⟨b,o,F,rfl,L,M⟩:=h;cases k with
 |none=>
  obtain⟨z,A⟩:=apx E m.w;cases D with
  |nil=>simp[uo]at H
  |cons c r=>
   simp[uo]at H;subst H;obtain⟨hl,hr⟩:=L;cases F with
   |nil=>simp at hl
   |cons u us=>have B:=M 0 u rfl;refine⟨_,u,rfl,?_,c9.one.2 (hr 0 c u rfl rfl)⟩;rw[Ab]at B;simp[loadVar,z,B]
 |some n=>
  obtain⟨z,A⟩:=agt E m.w;simp only[uo]at H;split at H
  .rename_i N;cases H;obtain⟨hl,hr⟩:=L;refine⟨_,.agg (F.take n).toArray,rfl,?_,c9.agg.2 ⟨_,rfl,by simp;omega,λj x u p q=>?_⟩⟩
   .have f:I (F.take n)=n:=by simp;omega
    have:=run_loadCells_list (P:=P) m.w _ (F.take n) (λj u q=>by
     rw[Addr.add_lit];rw[sB]at q;split at q
     .exact M j u q
     cases q)
    rw[f]at this;simp[loadVar,z,A,this]
   grind
  cases H
section
variable {m:a7} {B:bP} {a:Act} {o:Oper} (aB:dW T m) (hr:ll m B a.tmps)
include aB hr
theorem ar2{t:TypeId}{k:eF}{rd:aD}(ho:o.op=.load t x)(h:sZ P t=some k)(z:dr x=some y)
  (u:Ek m.blk (ev B y)=some (D,rd)) (H:uo k D=some v):iK P T a.eval o m v []:=by
 obtain⟨A,y',j,f,n⟩:=ahn h (akc aB u (gv z hr)) H;exact .calm aB (by simp[execOp,ho,j,Instr.loadAt,Instr.sureAddr,f]) n
theorem atn(ho:o.op=.nilCheck x)(z:dr x=some y)(u:cV (λ_=>false) B m.blk (.R0 y)=.done v [] []):iK P T a.eval o m v []:=by
 have F:=gv z hr;simp[cV]at u;split at u
 .rename_i n;rw[n]at F;cases u;have H:=F;generalize j:a.eval x=b at H F;cases H with
  |aW L hg h=>exact .calm aB adc F
 .rename_i n;rw[n]at F;cases u;have H:=F;generalize j:a.eval x=b at H F;cases H with
  |eo L hg h=>exact .calm aB adc F
 .rename_i n;rw[n]at F;cases u;have H:=F;generalize j:a.eval x=b at H F;cases H with
  |p hp=>cases hp with
   |box N R f Y X O=>exact .calm aB adc F
 .rename_i n;rw[n]at F;cases u;have H:=F;generalize j:a.eval x=b at H F;cases H with
  |hfn A M E D Z Q=>exact .calm aB adc F
 .rename_i n;rw[n]at F;cases u;have H:=F;generalize j:a.eval x=b at H F;cases H with
  |p hp=>cases hp with
   |fn A M E D Z Q=>exact .calm aB adc F
 cases u
end
section
variable{F:List Value}{E:Nat}
theorem dd.norm{w:World}{own:Nat->Prop}{x:PV}{v:Value}(h:dd w own x v):dd w own x.norm v:=by
 cases h<;>first
  |exact .By none 0 (λ_=>rfl) _
  |exact .By _ 0 (λ_=>rfl) (bj _)
  |(simp[PV.norm];constructor<;>assumption)
theorem ayy{c:cG}{x:PV}{v:Value}(h:VJ c=some x)(hr:gh m c v):dd m.w m.own x v:=by
 cases hr<;>simp[VJ]at h
 rename_i hp;subst h;exact hp.norm
theorem RG:∀ {D:eC}{N:dR}{F:List Value},Ev D=some N->eE m D F->eJ m.w m.own N F:=by
 intro D
 induction D with
 |nil=>intro N F h hr;simp[Ev]at h;subst h;exact⟨hr.1,λj x u a=>by simp at a⟩
 |cons c r n=>
  intro N F h hr;simp[Ev]at h;split at h
  .rename_i x Y y H;cases h;cases F with
   |nil=>simp[eE]at hr
   |cons v us=>
    obtain⟨hl,f⟩:=n H ⟨by simpa using hr.1,λj x u a b=>hr.2 (j+1) x u ii ii⟩;refine⟨by simp[hl],λj z u a b=>?_⟩;cases j with
    |zero=>simp at a b;subst a b;exact ayy y (hr.2 0 c v rfl rfl)
    |succ j=>simp at a b;exact f j z u a b
  cases h
def Pw {α:Type}(R:α->Value->Prop)(N:List α)(F:List Value):Prop:=I F=I N/\ ∀(j:Nat) (x:α) (u:Value),N[j]?=some x->F[j]?=some u->R x u
theorem Pw.take{α:Type}{R:α->Value->Prop}{N:List α}(h:Pw R N F)(n:Nat):Pw R (N.take n) (F.take n):=by
 refine⟨by simp[h.1],λj x u a b=>?_⟩;rw[sB]at a b;split at a
 .rename_i H;rw[aI H]at b;exact h.2 j x u a b
 cases a
theorem Pw.drop{α:Type}{R:α->Value->Prop}{N:List α}(h:Pw R N F)(n:Nat):Pw R (N.drop n) (F.drop n):=
 ⟨by simp[h.1],λj x u a b=>h.2 (n+j) x u ii ii⟩
theorem Pw.append{α:Type}{R:α->Value->Prop}{N y:List α}(h:Pw R N F)(k:Pw R y us):Pw R (N++y) (F++us):=by
 refine⟨by simp[h.1,k.1],λj x u a b=>?_⟩;by_cases H:j<I N
 .rw[yY H]at a;rw[yY (by rw[h.1];exact H)]at b;exact h.2 j x u a b
 rw[uJ J]at a;rw[uJ (by rw[h.1];omega),h.1]at b;exact k.2 _ x u a b
theorem Pw.gE{α:Type}{R:α->Value->Prop}{N y:List α}(h:Pw R N F)(k:Pw R y us)(E:Nat):Pw R (gE N E y) (gE F E us):=by unfold Abs.gE;rw[k.1];exact((h.take E).append k).append (h.drop _)
theorem To{α:Type}{D N:List α}(h:E+I N<=I D):I (gE D E N)=I D:=by simp[gE];omega
theorem ahC{α:Type}{D N:List α}(h:E+I N<=n)(H:n<=I D):(gE D E N).take n=gE (D.take n) E N:=by
 unfold gE;rw[LA,LA,Gi,List.drop_take];simp;rw[zx (by omega:E<=I D),Gi,zx (by omega:E<=n),Nat.min_eq_right J]
 grind [eT]
theorem aHr{α:Type}{a D N:List α}:gE (a++D) (I a+E) N=a++gE D E N:=by
 unfold gE;rw[LA,abn];rw[eT (by omega:I a<=I a+E),Xs J]
 grind
theorem aD5{α:Type}{a D N:List α}(h:E+I N<=I a):gE (a++D) E N=gE a E N++D:=by
 unfold gE
 grind
theorem avQ{α:Type}{ps:List α}:∀ {A:List (List α)},(∀e∈A,I e=j)->∀ {i:Nat}{e:List α},A[i]?=some e->E+I ps<=j->
  (A.set i (gE e E ps)).flatten=gE A.flatten (i*j+E) ps:=by
 intro A
 induction A with
 |nil=>intro _ i e h;simp at h
 |cons x r n=>
  intro h i e H hl;have u:=h x aG;cases i with
  |zero=>simp at H;subst H;simp;rw[aD5 J]
  |succ i=>
   simp at H;simp;rw[n (λy f=>h y aig) H hl];have m:(i+1)*j+E=I x+(i*j+E):=by rw[u,lR];omega
   rw[m,aHr]
theorem WU{w:World}{g:Nat}{new:Array Value}(h:w.heap[g]?=some (.cells H L Y)):(w.setRow g new).heap[g]?=some (.cells new L Y):=setRow_heap w g H new L Y h
theorem eE.pw:eE m D F↔Pw (gh m) D F:=Iff.rfl
theorem eJ.pw{w:World}{own:Nat->Prop}{D:dR}:eJ w own D F↔Pw (dd w own) D F:=Iff.rfl
theorem eE.one(h:eE m D F):∀v∈F,v.oneCell':=nl
theorem aeg{x:V}{v:Value}(h:vP x=some D)(hr:c9 m x v):eE m D v.cells.toList:=by
 cases x with
 |undef=>simp[vP]at h
 |tup F=>simp[vP]at h
 |one c=>
  simp[vP]at h;subst h;rw[(c9.one.1 hr).cells];refine⟨rfl,λj y u p q=>?_⟩;cases j with
  |zero=>simp at p q;subst p q;exact hr
  |succ j=>simp at p
 |agg f=>simp[vP]at h;subst h;obtain⟨arr,e,h⟩:=c9.agg.1 hr;rw[e];exact h
section
variable {m:a7} {B:bP} {a:Act} {o:Oper} (aB:dW T m) (hr:ll m B a.tmps)
include aB hr
theorem as9{t:TypeId}{v:Operand}{v':fc}{r:V}{rd:aD}(ho:o.op=.store t x v)(hn:zm P t=some n)(hx:dr x=some Z)(hv:dr v=some v')
  (hc:vP (ev B v')=some D) (y:Dc m.blk (ev B Z) n D=.done r u rd):iK P T a.eval o m r u:=by
 have Y:=aeg hc (gv hv hr);have N:=gv hx hr;unfold zm at hn;simp only[gW]at hn;obtain⟨i,hi,kh⟩:=hn;have R:=Y.1;simp only[RE]at R;unfold Dc at y;split at y
 .cases y
 rename_i F;have F:I D=n:=by simpa using F
 have UK:=Y.one;split at y
 .rename_i id g E he;rw[he]at N;have N:=N;generalize hb:a.eval x=b at N;cases N with
  |aW ad hg Q=>
   split at y
   .rename_i g' CW z;split at y
    .rename_i Dk;obtain⟨ke,ab⟩:=Dk;cases y;have M:(m.blk id).2=some (.var CW):=by rw[z]
     have Q:=Q (by rw[z];exact ke) (by rw[M];rfl);subst Q;obtain⟨H,L,hh,eD⟩:=aB.obj id _ M;have eh:=eD.1;simp at eh;have O:=run_storeCells_at P (m.σ id) E L (a.eval v).cells.toList 0 H m.w hh fd UK;simp only[Ab]at O;generalize f:m.w.setRow (m.σ id) (H.toList.take E++(a.eval v).cells.toList++H.toList.drop (E+(a.eval v).cells.toList.length)).toArray=W at O;have HY:W.heap.size=m.w.heap.size:=by rw[<-f];simp
     have HX:∀c,c≠m.σ id->W.heap[c]?=m.w.heap[c]? :=λc hc=>by rw[<-f];exact setRow_other m.w (m.σ id) c _ hc
     have X:=Mj (o:=.var (gE CW E D)) M rfl aH1 v1 v1 v1 HY HX;have Iv:vS (m.kS W id (.var (gE CW E D))) id (.var (gE CW E D)):=by
      refine⟨_,L,by rw[<-f];exact WU hh,?_⟩;have:=eE.pw.2 ((eE.pw.1 (eD.ev X.zero)).gE (eE.pw.1 (Y.ev X.zero)) E)
      simpa [gE]using this
     refine⟨undef,m.kS W id (.var (gE CW E D)),.inr ⟨?_,rfl⟩,OU M rfl aB aH1 v1 v1 v1 HY HX Iv,X,rfl,?_,rfl⟩
     .simp only[execOp,ho,hb,Instr.storeAt,Instr.sureAddr,storeVar,sizeOf,typeInfo];simp[hi,R,F,kh,O,a7.kS]
     simp[a7.kS,app,z,ke]
    cases y
   cases y
 .rename_i id g i' E he;rw[he]at N;have N:=N;generalize hb:a.eval x=b at N;cases N with
  |eo ad hg Q=>
   split at y
   .rename_i g' L j A z;split at y
    .rename_i e ps Ib Ck;split at y
     .rename_i Dk;obtain⟨ke,ab⟩:=Dk;cases y;have M:(m.blk id).2=some (.arr L j A):=by rw[z]
      have Q:=Q j (by rw[z];exact ke) (by rw[z];rfl);subst Q;obtain⟨H,hh,mF,wm,hl,hm,Kd,eD⟩:=aB.obj id _ M;have eo:=Sb wm Ib;have jA:(i'+1)*j<=I A*j:=oo _ ((bN.1 Ib).1);have ak:I A*j<=m.κ id*j:=oo _ hl;rw[lR,MJ]at jA;have ag:I ps=I D:=by rw[<-Y.1];exact(RG Ck Y).1.symm
      have O:=run_storeCells_at P (m.σ id) (i'*j+E) L (a.eval v).cells.toList 0 H m.w hh fd UK;simp only[Ab]at O;generalize f:m.w.setRow (m.σ id) (H.toList.take (i'*j+E)++(a.eval v).cells.toList++H.toList.drop (i'*j+E+(a.eval v).cells.toList.length)).toArray=W at O;have HY:W.heap.size=m.w.heap.size:=by rw[<-f];simp
      have HX:∀c,c≠m.σ id->W.heap[c]?=m.w.heap[c]? :=λc hc=>by rw[<-f];exact setRow_other m.w (m.σ id) c _ hc
      have X:=Mj (o:=.arr L j (A.set i' (gE e E ps))) M rfl aH1 v1 v1 v1 HY HX;have Iv:vS (m.kS W id (.arr L j (A.set i' (gE e E ps)))) id (.arr L j (A.set i' (gE e E ps))):=by
       refine⟨_,by rw[<-f];exact WU hh,mF,?_,by rw[oF];exact hl,hm,?_,?_⟩
       .intro e' EL;rcases adj EL with h|h
        .exact wm e' h
        rw[h,To J];exact eo
       .simp[a7.kS];omega
       rw[oF,avQ wm Ib J];have h1:=(eJ.pw.1 (eD.ev X.zero)).gE (eJ.pw.1 ((RG Ck Y).ev X.zero)) (i'*j+E);rw[<-ahC fd fd]at h1
       simpa [gE]using(eJ.pw.2 h1)
      refine⟨undef,m.kS W id (.arr L j (A.set i' (gE e E ps))),.inr ⟨?_,rfl⟩,OU M rfl aB aH1 v1 v1 v1 HY HX Iv,X,rfl,?_,rfl⟩
      .simp only[execOp,ho,hb,Instr.storeAt,Instr.sureAddr,storeVar,sizeOf,typeInfo];simp[hi,R,F,kh,O,a7.kS]
      simp[a7.kS,app,z,ke]
     cases y
    cases y
   cases y
 cases y
end
end
theorem Bx{x:V}{v:Value}(h:ug x=some n)(hr:c9 m x v):∃k,v=.int k (n:Int):=by
 unfold ug at h;split at h
 .rename_i k z;split at h
  .rename_i H;cases h;exact⟨k,by rw[Ez hr,Hy H]⟩
  cases h
 cases h
theorem Va{t:TypeId}(h:zm P t=some n)(w:World):(sizeOf t).run P w=.ok n w:=by unfold zm at h;simp at h;obtain⟨i,H,rfl⟩:=h;simp[sizeOf,typeInfo,H]
section
variable {m:a7} {B:bP} {a:Act} {o:Oper} (aB:dW T m) (hr:ll m B a.tmps)
include aB hr
theorem awv{s:TypeId}{fs:Array Field}{d:Field}(ho:o.op=.fieldAddr s x f)(af:P.underlying s=some (.struct fs))(hf:fs[f]?=some d)
  (R:P.cellsOf d.type≠0) (hx:dr x=some y) (u:cV (λ_=>false) B m.blk (.EB d.offset y)=.done v [] []):iK P T a.eval o m v []:=by
 have F:=gv hx hr;have Q:∃n,(sizeOf d.type).run P m.w=.ok n m.w/\n≠0:=by
  unfold Program.cellsOf at R;cases X:P.info? d.type with
  |none=>simp[X]at R
  |some i=>exact⟨i.size,by simp[sizeOf,typeInfo,X],by simpa [X]using R⟩
 obtain⟨n,hn,jq⟩:=Q;have run:∀L,a.eval x=.pointer (some L)->(execOp a.eval o).run P m.w=.ok (.value (.pointer (some (L.add d.offset)))) m.w:=by intro L sK;simp[execOp,ho,sK,Instr.fieldAt,run_underlying af,hf,Instr.sureAddr,fieldPlace,hn,jq]
 simp only[cV]at u;split at u
 .rename_i id g E M;rw[M]at F;cases u;have H:=F;generalize A:a.eval x=b at H;cases H with
  |aW L hg h=>exact .calm aB (run _ A) (c9.one.2 (.aW _ hg λO N=>by rw[h O N,Addr.add_lit]))
 .rename_i id g i E M;rw[M]at F;cases u;have H:=F;generalize A:a.eval x=b at H;cases H with
  |eo L hg h=>exact .calm aB (run _ A) (c9.one.2 (.eo _ hg λj O N=>by rw[h j O N,Addr.add_lit,FT]))
 .rename_i D M;rw[M]at F;cases u;have H:=F;generalize A:a.eval x=b at H;cases H with
  |p hp=>cases hp with
   |box Y o' f' qW oX Z=>
    refine .calm aB (run _ A) (pJ ?_);rw[Addr.add_lit];refine .box Y (o'+d.offset) (λab=>f' (d.offset+ab)) (λh=>qW λe=>h aIA) (λab z h=>?_) λab z h=>Z _ z Do
    grind
 cases u
theorem aF2{t e:TypeId}{i:Operand}(ho:o.op=.indexAddr t x i)(ht:P.underlying t=some (.slice e))(af:zm P e=some j)
  (hx:dr x=some Z) (hi:dr i=some i') (u:cV (λ_=>false) B m.blk (.Q7 j Z i')=.done v [] []):iK P T a.eval o m v []:=by
 have F:=gv hx hr;have Nj:=gv hi hr;have run:∀L len O k (n:Nat),a.eval x=.slice (some L) len O->a.eval i=.int k (n:Int)->n<len->(execOp a.eval o).run P m.w=.ok (.value (.pointer (some (L.add (n*j))))) m.w:=by intro L len O k n X N h3;simp[execOp,ho,X,N,Instr.indexAt,asIntOf,run_underlying ht,Va af,h3]
 simp only[cV]at u;split at u
 .rename_i n A Y he;obtain⟨k,R⟩:=Bx Y Nj;rw[he]at F;split at u
  .rename_i el eo;split at u
   .rename_i H;cases u;have D:=F;generalize Q:a.eval x=b at D;cases D with
    |p hp=>
     generalize o9:(PV.sl A)=pv at hp;cases hp<;>first
      |cases o9
      |skip
     .simp at eo
     rename_i b' o' O M f Dx qW zM y nN GI;have Z0:M=j:=by rw[<-Sb y eo];exact H
     subst Z0;refine .calm aB (run _ _ _ k n Q R ((bN.1 eo).1)) (pJ ?_);rw[Addr.add_lit];refine .box b' (o'+n*M) (λab=>f (n*M+ab)) (λh=>qW ?_) (λab z h=>?_) λab z h=>?_
     .intro e0;cases el with
      |nil=>exact h rfl
      |cons c r=>have:=IF y eo (m:=0) (by rw[<-H];simp);rw[e0]at this;simp at this
     .rw[FT];exact nN _ z M2
     exact GI _ z M2
   cases u
  cases u
 .rename_i n id g z E len Y he;obtain⟨k,R⟩:=Bx Y Nj;rw[he]at F;split at u
  .rename_i aw;cases u;have D:=F;generalize Q:a.eval x=b at D;cases D with
   |hsl L O hg hl hm h=>refine .calm aB (run _ _ _ k n Q R aw.1) (c9.one.2 (.eo _ hg λs X N=>?_));obtain⟨e1,e2,_⟩:=h s X N;rw[e2 (.inr J),Addr.add_lit,e1,aw.2];simp[lR]
  cases u
 cases u
theorem awm{t e:TypeId}{i:Operand}(ho:o.op=.indexAddr t x i)(Y:P.underlying t=some (.array ln e))(af:zm P e=some j)
  (hx:dr x=some Z) (hi:dr i=some i') (H:cV (λ_=>false) B m.blk (.O2 ln j Z i')=.done v [] []):iK P T a.eval o m v []:=by
 have F:=gv hx hr;have R:=gv hi hr;have run:∀N k (n:Nat),a.eval x=.pointer (some N)->a.eval i=.int k (n:Int)->n<ln->(execOp a.eval o).run P m.w=.ok (.value (.pointer (some (N.add (n*j))))) m.w:=by intro N k n M u h3;simp[execOp,ho,M,u,Instr.indexAt,asIntOf,run_underlying Y,Va af,h3,Instr.sureAddr]
 simp only[cV]at H;split at H
 .rename_i n id g E O Q;obtain⟨k,L⟩:=Bx O R;rw[Q]at F;split at H
  .rename_i A;cases H;have f:=F;generalize y:a.eval x=b at f;cases f with
   |aW N hg h=>exact .calm aB (run _ k n y L A) (c9.one.2 (.aW _ hg λM u=>by rw[h M u,Addr.add_lit]))
  cases H
 .rename_i n id g X E O Q;obtain⟨k,L⟩:=Bx O R;rw[Q]at F;split at H
  .rename_i A;cases H;have f:=F;generalize y:a.eval x=b at f;cases f with
   |eo N hg h=>exact .calm aB (run _ k n y L A) (c9.one.2 (.eo _ hg λs M u=>by rw[h s M u,Addr.add_lit,FT]))
  cases H
 .rename_i n D O Q;obtain⟨k,L⟩:=Bx O R;rw[Q]at F;split at H
  .rename_i A;cases H;have f:=F;generalize y:a.eval x=b at f;cases f with
   |p hp=>cases hp with
    |box b' o' f' qW oX Cl=>refine .calm aB (run _ k n y L A) (pJ ?_);rw[Addr.add_lit];refine .box b' (o'+n*j) (λX=>f' (n*j+X)) (λh=>qW λe=>h aIA) (λX z h=>?_) λX z h=>Cl _ z Do;rw[FT];exact oX _ z Do
  cases H
 cases H
theorem ajU{t:TypeId}{k:eF}(B:sZ P t=some k){arr:Array Value}(v:eE m D arr.toList){x:V}(h:uo k (D.drop E)=some x):
  ∃y,(part t arr E).run P m.w=.ok y m.w/\c9 m x y:=by
 have N:=aB;have M:=hr;have hl:=v.1;simp at hl;cases k with
 |none=>
  obtain⟨f,z⟩:=apx B m.w;cases H:D.drop E with
  |nil=>simp[H,uo]at h
  |cons c r=>
   simp[H,uo]at h;subst h;have F:D[E]?=some c:=by
    have:=congrArg (·[0]?) H
    exact aIE
   have A:E<arr.size:=by rw[hl];exact(bN.1 F).1
   refine⟨arr[E],by simp[part,f,A],c9.one.2 (v.2 E c _ F aIl)⟩
 |some n=>
  obtain⟨f,z⟩:=agt B m.w;simp only[uo]at h;split at h
  .rename_i L;cases h;simp at L;refine⟨.agg (arr.extract E (E+n)),by simp[part,f,z],c9.agg.2 ⟨_,rfl,by simp;omega,λj x u p q=>?_⟩⟩;rw[sB]at p;split at p
   .rename_i O;simp at p;refine v.2 (E+j) x u p ?_
    grind
   cases p
  cases h
theorem av9{t:TypeId}{fs:Array Field}{d:Field}{k:eF}(ho:o.op=.field t x f)(af:P.underlying t=some (.struct fs))(hf:fs[f]?=some d)
  (n:sZ P d.type=some k) (j:dr x=some y) (h:ev B y=.agg D) (u:uo k (D.drop d.offset)=some v):iK P T a.eval o m v []:=by
 have F:=gv j hr;rw[h]at F;obtain⟨arr,e,E⟩:=c9.agg.1 F;obtain⟨z,A,H⟩:=ajU (aB:=aB) (hr:=hr) n E u;exact .calm aB (by simp[execOp,ho,e,Instr.field,run_underlying af,hf,asAgg,A]) H
theorem aAg{t e:TypeId}{i:Operand}{k:eF}(ho:o.op=.index t x i)(u:P.underlying t=some (.array ln e))(af:zm P e=some j)
  (M:sZ P e=some k) (E:dr x=some Z) (y:dr i=some i') (F:ug (ev B i')=some n) (A:n<ln) (h:ev B Z=.agg D) (N:uo k (D.drop (n*j))=some v):iK P T a.eval o m v []:=by
 have f:=gv E hr;obtain⟨X,L⟩:=Bx F (gv y hr);rw[h]at f;obtain⟨arr,Q,R⟩:=c9.agg.1 f;obtain⟨z,O,H⟩:=ajU (aB:=aB) (hr:=hr) M R N;exact .calm aB (by simp[execOp,ho,Q,L,Instr.index,asIntOf,run_underlying u,Va af,A,O]) H
theorem atB{t:TypeId}{i:Operand}{s:ByteArray}{b:UInt8}(ho:o.op=.index t x i)(H:P.underlying t=some .string)
  (y:dr x=some Z) (u:dr i=some i') (z:ug (ev B i')=some n) (h:ev B Z=.one (.p (.str s))) (j:s[n]?=some b):iK P T a.eval o m (.one (.p (.int .u8 b.toNat))) []:=by
 have f:=gv y hr;obtain⟨A,v⟩:=Bx z (gv u hr);rw[h]at f;exact .calm aB (by simp[execOp,ho,OR f,v,Instr.index,asIntOf,run_underlying H,j]) (pJ (.int _ _))
end
theorem ayb{op:BinOp}{t:TypeId}{k f:IntKind}{x y:Int}{v:PV}(w:World)(m:k=f\/op=.shl\/op=.shr)(h:K4 op k x y=some v):
  ∃u,(binOp op t (.int k x) (.int f y)).run P w=.ok u w/\ ∀own,dd w own v u:=by
 by_cases af:op=.shl\/op=.shr
 .rcases af with rfl|rfl
  .simp only[K4]at h;split at h
   .cases h
   exact aIL
  simp only[K4]at h;split at h
  .cases h
  exact aIL
 have j:k=f:=ii
 subst j;cases op<;>simp only[K4]at h<;>first
  |cases h
  |skip
 all_goals first
  |exact(af (.inl rfl)).elim
  |exact(af (.inr rfl)).elim
  |(exact⟨_,by simp[binOp,Op.intArith,Op.intCmp,Op.intBits],λown=>.int _ _⟩)
  |(exact⟨_,by simp[binOp,Op.intArith,Op.intCmp],λown=>.bool _⟩)
  |(split at h
    .cases h
    rename_i H;cases h;exact⟨_,by simp[binOp,Op.intDiv,H],λown=>.int _ _⟩)
theorem aFx{op:BinOp}{t:TypeId}{x y:ByteArray}{v:PV}(w:World)(h:FR op x y=some v):
  ∃u,(binOp op t (.string x) (.string y)).run P w=.ok u w/\ ∀own,dd w own v u:=by
 cases op<;>simp only[FR]at h<;>first
  |cases h
  |skip
 all_goals first
  |exact⟨_,by simp[binOp,Op.stringOp],λown=>.bool _⟩
  |(split at h
    .rename_i hl;cases h;refine⟨.string _,?_,λown=>.str _⟩;have:¬((x.size:Int)+(y.size:Int)>9223372036854775807):=J;simp[binOp,Op.stringOp,this]
    cases h)
section
variable {m:a7} {B:bP} {a:Act} {o:Oper} (aB:dW T m) (hr:ll m B a.tmps)
include aB hr
theorem ara{op:BinOp}{t:TypeId}{y:Operand}(ho:o.op=.binOp op t x y L)(F:dr x=some Z)(D:dr y=some y')
  (h:SF op (ev B Z) (ev B y')=some v):iK P T a.eval o m v []:=by
 have f:=gv F hr;have H:=gv D hr;unfold SF at h;split at h
 .rename_i k p O q E n;rw[E]at f;rw[n]at H;split at h
  .rename_i M;simp at h;obtain⟨u,j,rfl⟩:=h;obtain⟨z,A,N⟩:=ayb (P:=P) (t:=t) m.w M j;refine .calm aB ?_ (pJ (N _));have hg:(eqGuard op t x y (.int k p) (.int O q)).run P m.w=.ok () m.w:=by cases op<;>simp[eqGuard]
   simp[execOp,ho,Ez f,Ez H,hg,A]
  cases h
 .rename_i p q E n;rw[E]at f;rw[n]at H;simp at h;obtain⟨u,j,rfl⟩:=h;obtain⟨z,A,N⟩:=aFx (P:=P) (t:=t) m.w j;refine .calm aB ?_ (pJ (N _));have hg:(eqGuard op t x y (.string p) (.string q)).run P m.w=.ok () m.w:=by cases op<;>simp[eqGuard]
  simp[execOp,ho,OR f,OR H,hg,A]
 cases h
theorem aEC{t:TypeId}{b:Bool}(ho:o.op=.unOp .not t x)(f:dr x=some Z)(H:ev B Z=.one (.p (.bool b))):iK P T a.eval o m (.one (.p (.bool (!b)))) []:=by have h:=gv f hr;rw[H]at h;exact .calm aB (by simp[execOp,ho,HE h,Op.unary]) (pJ (.bool _))
theorem ayc{t:TypeId}{k:IntKind}{n:Int}(ho:o.op=.unOp .neg t x)(f:dr x=some Z)(H:ev B Z=.one (.p (.int k n))):iK P T a.eval o m (.one (.p (.int k (k.wrap (0-n))))) []:=by have h:=gv f hr;rw[H]at h;exact .calm aB (by simp[execOp,ho,Ez h,Op.unary,Op.intArith]) (pJ (.int _ _))
theorem aBt{s d:TypeId}{j k f:IntKind}{n:Int}(ho:o.op=.convert s d x)(af:P.underlying s=some (.int j))(H:P.underlying d=some (.int k))(v:dr x=some Z)
  (u:ev B Z=.one (.p (.int f n))):iK P T a.eval o m (.one (.p (.int k (k.wrap n)))) []:=by
 have h:=gv v hr;rw[u]at h;exact .calm aB (by simp[execOp,ho,Ez h,convert,run_underlying af,run_underlying H,Conv.intToInt]) (pJ (.int _ _))
theorem ani:∀ {N:List Operand}{Y:ve}{D:eC},rW N=some Y->AH B Y=some D->eE m D (N.map a.eval):=by
 intro N
 induction N with
 |nil=>intro Y D H h;simp[rW]at H;subst H;simp[AH]at h;subst h;exact⟨rfl,λj x u p=>by simp at p⟩
 |cons x r A=>
  intro Y D H h;simp[rW]at H;split at H
  .rename_i y f E L;cases H;simp[AH]at h;split at h
   .rename_i c q v F;cases h;obtain⟨hl,n⟩:=A L F;refine⟨by simpa using hl,λj z u p q=>?_⟩;cases j with
    |zero=>simp at p q;subst p q;have:=gv E hr;rwa[v]at this
    |succ j=>simp at p q;exact n j z u p ii
   cases h
  cases H
theorem aA2{f:FuncId}{x y:Array Operand}{Z y':ve}{n:eC}(ho:o.op=.makeFunc (.func f) x y)(E:rW x.toList=some Z)(A:rW y.toList=some y')
  (F:AH B Z=some D) (v:AH B y'=some n):iK P T a.eval o m (.one (.hfn f D n)) []:=by
 have H:=ani (aB:=aB) (hr:=hr) E F;have h:=ani (aB:=aB) (hr:=hr) A v;refine .calm (x:=.func _ (x.map a.eval) (y.map a.eval)) aB (by simp[execOp,ho,Instr.makeFunc]) (c9.one.2 (.hfn _ _ ?_ ?_ ?_ ?_))
 .have:=H.1;exact aIE
 .have:=h.1;exact aIE
 .intro j z u p q;exact H.2 j z u p ii
 intro j z u p q;exact h.2 j z u p ii
theorem awK{i:Nat}{F:dG}(ho:o.op=.extract x i)(n:dr x=some Z)(f:ev B Z=.tup F)(h:F[i]?=some v):iK P T a.eval o m v []:=by
 have H:=gv n hr;rw[f]at H;obtain⟨arr,e,hl,j⟩:=H;have A:i<arr.size:=by rw[hl];exact(bN.1 h).1
 exact .calm (x:=arr[i]) aB (by simp[execOp,ho,e,Instr.extract,A]) (.of1 (j i v _ h aIl))
theorem aiH{x:V}{v:Value}(h:Eg x=some n)(H:c9 m x v):∃f O,v=.slice f n O/\n<=O/\O<=maxLen:=by
 unfold Eg at h;split at h
 .cases h;exact⟨none,0,VL H,cP _,bj _⟩
 .cases h;obtain⟨hp⟩:gh m _ v:=H;rename_i A;generalize j:(PV.sl A)=pv at hp;cases hp<;>cases j
  .exact⟨_,_,rfl,bj _,by assumption⟩
  grind
 .cases h;cases H with
  |hsl f O hg hl hm h=>exact⟨_,_,rfl,hl,hm⟩
 cases h
theorem aGX{c:Call}{t e:TypeId}(ho:o.op=.call c)(j:c.callee=.builtin .len)(h:c.args= #[x])(M:c.argTypes[0]?=some t)(f:P.underlying t=some (.slice e))
  (u:dr x=some Z) (v:Eg (ev B Z)=some n):iK P T a.eval o m (.one (.p (.int .i64 n))) []:=by
 obtain⟨A,O,H,_⟩:=aiH (aB:=aB) (hr:=hr) v (gv u hr);refine .calm aB ?_ (pJ (.int _ _));simp[execOp,ho,resolve,j,h,invoke,builtin,Builtin.len_,M,H,run_underlying f,goInt]
theorem axe{c:Call}{t:TypeId}{s:ByteArray}(ho:o.op=.call c)(j:c.callee=.builtin .len)(h:c.args= #[x])(M:c.argTypes[0]?=some t)(f:P.underlying t=some .string)
  (n:dr x=some Z) (u:ev B Z=.one (.p (.str s))):iK P T a.eval o m (.one (.p (.int .i64 s.size))) []:=by
 have H:=gv n hr;rw[u]at H;refine .calm aB ?_ (pJ (.int _ _));simp[execOp,ho,resolve,j,h,invoke,builtin,Builtin.len_,M,OR H,run_underlying f,goInt]
theorem aAr{c:Call}{y:Operand}{k v:IntKind}{p q:Int}(ho:o.op=.call c)(u:c.callee=.builtin .max)(h:c.args= #[x,y])
  (z:dr x=some Z) (H:dr y=some y') (n:ev B Z=.one (.p (.int k p))) (j:ev B y'=.one (.p (.int v q))):iK P T a.eval o m (.one (.p (.int k (if q>p then q else p)))) []:=by
 have g1:=gv z hr;have f:=gv H hr;rw[n]at g1;rw[j]at f;refine .calm aB ?_ (pJ (.int _ _));simp[execOp,ho,resolve,u,h,invoke,builtin,Builtin.max_,Builtin.max2,Ez g1,Ez f]
theorem ayr{c:Call}{y:Operand}{k v:IntKind}{p q:Int}(ho:o.op=.call c)(u:c.callee=.builtin .min)(h:c.args= #[x,y])
  (z:dr x=some Z) (H:dr y=some y') (n:ev B Z=.one (.p (.int k p))) (j:ev B y'=.one (.p (.int v q))):iK P T a.eval o m (.one (.p (.int k (if q<p then q else p)))) []:=by
 have g1:=gv z hr;have f:=gv H hr;rw[n]at g1;rw[j]at f;refine .calm aB ?_ (pJ (.int _ _));simp[execOp,ho,resolve,u,h,invoke,builtin,Builtin.min_,Builtin.min2,Ez g1,Ez f]
end
section
variable{j:Nat}
theorem aC2:∀(u:lq) (blk:aH) (id:Nat),(app u blk id=blk id/\ ∀e∈u,e.1≠id)\/ ∃e∈u,e.1=id/\app u blk id=e.2:=by
 intro u
 induction u with
 |nil=>intro blk id;exact .inl ⟨rfl,λe h=>by simp at h⟩
 |cons x r n=>
  intro blk id;obtain⟨i,o⟩:=x;simp only[app];rcases n _ id with⟨f,j⟩|⟨e,m,f,j⟩
  .by_cases H:id=i
   .exact .inr ⟨(i,o),aG,H.symm,by rw[f];simp[bG,H]⟩
   refine .inl ⟨by rw[f];simp[bG,H],λe m=>?_⟩
   grind
  grind
theorem Mw{α β γ:Type}{f:α->Option (β×aD)}{R:α->γ->Prop}{T:β->γ->Prop}{fg:aD->Prop}(Q:∀a b,fg (a++b)->fg a/\fg b)
  (hf:∀a b r v,f a=some (b,r)->R a v->fg r->T b v):∀ {N:List α}{y:List β}{r:aD}{F:List γ},iP f N=some (y,r)->fg r->
  (I F=I N/\ ∀(j:Nat) (x:α) (u:γ),N[j]?=some x->F[j]?=some u->R x u)->(I F=I y/\ ∀(j:Nat) (x:β) (u:γ),y[j]?=some x->F[j]?=some u->T x u):=by
 intro N
 induction N with
 |nil=>
  intro y r F h _ hr;simp[iP]at h
  grind
 |cons x t A=>
  intro y r F h hg hr;simp[iP]at h;split at h
  .rename_i b p B q n E;cases h;obtain⟨g1,m⟩:=Q _ _ hg;cases F with
   |nil=>simp at hr
   |cons v us=>
    obtain⟨hl,H⟩:=A E m ⟨by simpa using hr.1,λj x u a b=>hr.2 (j+1) x u ii aHY⟩;refine⟨by simp[hl],λj z u a b=>?_⟩;cases j with
    |zero=>simp at a b;subst a b;exact hf _ _ _ _ n (hr.2 0 x v rfl rfl) g1
    |succ j=>simp at a b;exact H j z u a b
  cases h
def xP(m:a7)(own:Nat->Prop)(r:aD):Prop:=(∀b,own b->m.own b)/\ ∀id∈r,¬own (m.σ id)
theorem xP.app{own:Nat->Prop}{a b:aD}(h:xP m own (a++b)):xP m own a/\xP m own b:=
 ⟨⟨h.1,λid H=>h.2 id mt⟩,⟨h.1,λid H=>h.2 id mt⟩⟩
theorem dd.less{w:World}{own:Nat->Prop}(h:∀b,DI b->own b){x:PV}{v:Value}(hr:dd w own x v):dd w DI x v:=hr.mono λc _ H=>⟨rfl,λho=>H (h c ho)⟩
theorem eJ.less{w:World}{own:Nat->Prop}(h:∀b,DI b->own b){x:dR}{v:List Value}(hr:eJ w own x v):eJ w DI x v:=⟨hr.1,λj x u a b=>(hr.2 j x u a b).less h⟩
theorem afc{α:Type}{N:List α}{R:α->Value->Prop}(h:Pw R N F):∃f:Nat->Value,∀(j:Nat) (x:α),N[j]?=some x->F[j]?=some (f j)/\R x (f j):=by
 refine⟨λj=>F.getD j undef,λj x H=>?_⟩;have:F[j]?=some (F.getD j undef):=by simp[List.getD,vA (by rw[h.1];exact(bN.1 H).1)]
 exact⟨this,h.2 j x _ H this⟩
theorem abM{w:World}{own:Nat->Prop}{b o:Nat}{ps:dR}(n:w.heap[b]?=some (.cells H L Y))(hp:Pw (dd w own) ps (H.toList.drop o |>.take (I ps)))
  (ho:ps≠[]-> ¬own b):dd w own (.box ps) (.pointer (some ⟨b,o,none⟩)):=by
 obtain⟨f,hf⟩:=afc hp;refine .box b o f ho (λj x m=>?_) λj x m=>(hf j x m).2;have h:=(hf j x m).1;rw[sB]at h;split at h
 .rw[KP n];simpa using h
 cases h
theorem amp{w:World}{own:Nat->Prop}{b o j:Nat}(u:w.heap[b]?=some (.cells H L Y))(n:∀e∈A,I e=j)
  (hl:I A<=O) (hm:O<=maxLen) (hp:Pw (dd w own) A.flatten ((H.toList.drop o).take (I A*j))) (ho:¬own b):dd w own (.sl A) (.slice (some ⟨b,o,none⟩) (I A) O):=by
 obtain⟨f,hf⟩:=afc hp;refine .sl b o O j f (λ_=>ho) hl hm n (λv x m=>?_) λv x m=>(hf v x m).2;have h:=(hf v x m).1;rw[sB]at h;split at h
 .rw[KP u];simpa using h
 cases h
theorem Vu{α:Type}:∀ {A:List (List α)},(∀e∈A,I e=j)->∀(n:Nat),(A.drop n).flatten=A.flatten.drop (n*j):=by
 intro A
 induction A with
 |nil=>intro _ n;simp
 |cons e r f=>
  intro h n;cases n with
  |zero=>simp
  |succ n=>
   simp;rw[f (λx H=>h x mt),abn,Xs (by rw[h e aG,lR];omega:I e<=(n+1)*j),gM]
   grind
theorem MF{α:Type}:∀ {A:List (List α)},(∀e∈A,I e=j)->∀(n:Nat),(A.take n).flatten=A.flatten.take (n*j):=by
 intro A
 induction A with
 |nil=>intro _ n;simp
 |cons e r f=>
  intro h n;cases n with
  |zero=>simp
  |succ n=>
   simp;have H:=h e aG;rw[f (λx m=>h x (by simp[m])),LA,eT (by rw[H,lR];omega:I e<=(n+1)*j)]
   grind
theorem JP{α:Type}{R:α->Value->Prop}{len:Nat}{A:List (List α)}{H:List Value}(n:∀e∈A,I e=j)(h:Pw R A.flatten (H.take (I A*j)))(f:E+len<=I A):
  Pw R ((A.drop E).take len).flatten ((H.drop (E*j)).take (I ((A.drop E).take len)*j)):=by
 have m:I ((A.drop E).take len)=len:=fd
 rw[m,MF (λe u=>n e (Ar u)),Vu n];have x:=(h.drop (E*j)).take (len*j);have v:((H.take (I A*j)).drop (E*j)).take (len*j)=(H.drop (E*j)).take (len*j):=by
  rw[List.drop_take,Gi];congr 1;have:E*j+len*j<=I A*j:=by rw[<-lR];exact oo _ f
  omega
 rwa[v]at x
theorem aaT{α:Type}{R:α->Value->Prop}:∀ {ps:List (List α)}{H:List Value},(∀e∈ps,I e=j)->I ps*j<=I H->
  (∀(m:Nat) (e:List α),ps[m]?=some e->Pw R e ((H.drop (m*j)).take j))->Pw R ps.flatten (H.take (I ps*j)):=by
 intro ps
 induction ps with
 |nil=>intro H _ _ _;exact⟨aG,λm x u a=>by simp at a⟩
 |cons e r z=>
  intro H h hl hp;simp[fF,lR,MJ]at hl;have f:=hp 0 e rfl;rw[EF,Lx]at f;have A:=z (H:=H.drop j) (λx n=>h x aIz) ii λm x n=>by have:=hp (m+1) x ii;rw[lR,MJ]at this;rw[Od,Nat.add_comm j];exact this
  have v:=f.append A;have y:H.take j++(H.drop j).take (I r*j)=H.take (I (e::r)*j):=by rw[fF,lR,MJ,Nat.add_comm,List.take_add]
  rwa[y]at v
theorem acK{α:Type}{R:α->Value->Prop}{i:Nat}{A:List (List α)}{e:List α}{H:List Value}(f:∀e∈A,I e=j)(h:Pw R A.flatten (H.take (I A*j)))(m:A[i]?=some e):
  Pw R e ((H.drop (i*j)).take j):=by
 have n:=(bN.1 m).1;have u:=JP (E:=i) (len:=1) f h J;have v:((A.drop i).take 1)=[e]:=by
  rw[U9 n]
  grind
 grind
theorem ace{α β:Type}{f:α->Option (β×aD)}:∀ {N:List α}{y:List β}{r:aD},iP f N=some (y,r)->I y=I N:=by
 intro N
 induction N with
 |nil=>intro y r h;simp[iP]at h;rw[h.1];rfl
 |cons x t j=>
  intro y r h;simp[iP]at h
  grind
theorem aaU{α β:Type}{f:α->Option (β×aD)}:∀ {N:List α}{Y:List β}{r:aD},iP f N=some (Y,r)->∀ {j:Nat}{y:β},Y[j]?=some y->∃x q,N[j]?=some x/\f x=some (y,q)/\ ∀i∈q,i∈r:=by
 intro N
 induction N with
 |nil=>intro Y r h j y H;simp[iP]at h;rw[h.1]at H;simp at H
 |cons x t m=>
  intro Y r h j y H;simp[iP]at h
  grind
theorem M7(aB:dW T m){own:Nat->Prop}:∀(n:Nat) {c:cG}{x:PV}{r:aD}{v:Value},gC m.blk n c=some (x,r)->gh m c v->xP m own r->dd m.w own x v:=by
 intro n
 induction n with
 |zero=>intro c x r v h;simp[gC]at h
 |succ n ih=>
  intro c x r v h hr af;have Uu:∀ {D:eC}{ps:dR}{q:aD}{F:List Value},iP (gC m.blk n) D=some (ps,q)->xP m own q->Pw (gh m) D F->Pw (dd m.w own) ps F:=λX Z h3=>Mw (T:=dd m.w own) (λa b h=>h.app) (λa b r v e1 e2 e3=>ih e1 e2 e3) X Z h3
  have UC:∀ {ps:dR}{F:List Value},eJ m.w m.own ps F->Pw (dd m.w own) ps F:=λh=>eJ.pw.1 (h.less af.1);unfold gC at h;cases c with
  |p y=>simp at h;obtain⟨rfl,rfl⟩:=h;obtain⟨hp⟩:=hr;exact hp.norm.less af.1
  |aW id g E=>
   cases hr with
   |aW a hg ha=>
    simp only at h;split at h
    .rename_i g' D Q;split at h
     .rename_i ke;split at h
      .rename_i ps q hq;cases h;have bh:(m.blk id).2=some (.var D):=by rw[Q]
       have ha:=ha alt aH5;subst ha;obtain⟨H,L,hh,hc⟩:=aB.obj id _ bh;refine abM hh ?_ λ_=>af.2 id aG;have X:=(Uu hq ⟨af.1,λi hi=>af.2 i (by simp[hi])⟩ (eE.pw.1 hc)).drop E;rw[eT (by have:=X.1;omega)];exact X
      cases h
     cases h
    .rename_i g' ps Q;split at h
     .rename_i ke;cases h;have bh:(m.blk id).2=some (.fvar ps):=by rw[Q]
      have ha:=ha alt aH5;subst ha;obtain⟨H,L,Y,hh,hc,_⟩:=aB.obj id _ bh;refine abM hh ?_ λ_=>af.2 id aG;have X:=(UC hc).drop E;rw[eT (by have:=X.1;omega)];exact X
     cases h
    cases h
  |eo id g i E=>
   cases hr with
   |eo a hg ha=>
    have ab:∀(L j:Nat) (A:dy) (e:dR) (H:Array Value) (Y:Nat×Nat),m.w.heap[m.σ id]?=some (.cells H L Y)->(∀e∈A,I e=j)->I A*j<=H.size->
      eJ m.w m.own A.flatten (H.toList.take (I A*j))->A[i]?=some e->a=⟨m.σ id,i*j+E,none⟩-> ¬own (m.σ id)->dd m.w own (.box (e.drop E)) (.pointer (some a)):=by
     intro L j A e H Y hh N ad eD he De ef;subst De;have hi:=(bN.1 he).1;have jA:(i+1)*j<=I A*j:=oo _ hi;have X:=(JP (E:=i) (len:=1) N (UC eD) J).drop E;have h0:((A.drop i).take 1)=[e]:=by rw[U9 hi];have:=(bN.1 he).2;simp[this]
     rw[h0]at X;simp only[tR,T2,j_,fF,fB,lh,MJ]at X;refine abM hh ?_ λ_=>ef;have Z:(H.toList.drop (i*j+E)).take (I (e.drop E))=(((H.toList.drop (i*j)).take j).drop E):=by rw[List.drop_take,Od,sD,Sb N he]
     rw[Z];exact X
    simp only at h;split at h
    .rename_i g' L j A Q;split at h
     .rename_i ke;simp only[gW,nR]at h;obtain⟨e,he,rfl,rfl⟩:=h;obtain⟨H,hh,mF,N,hl,hm,dV,eD⟩:=aB.obj id _ (by rw[Q]);exact ab L j A e H _ hh N atR eD he (ha j alt aIs) (af.2 id aG)
     cases h
    .rename_i g' L j A Q;split at h
     .rename_i ke;simp only[gW,nR]at h;obtain⟨e,he,rfl,rfl⟩:=h;obtain⟨H,Y,hh,mF,N,hl,hm,dV,eD,_⟩:=aB.obj id _ (by rw[Q]);exact ab L j A e H _ hh N atR eD he (ha j alt aIs) (af.2 id aG)
     cases h
    cases h
  |hsl id g z E len=>
   cases hr with
   |hsl a O hg hl hm ha=>
    have ab:∀(L j:Nat) (A:dy) (H:Array Value) (Y:Nat×Nat),m.w.heap[m.σ id]?=some (.cells H L Y)->(∀e∈A,I e=j)->Pw (dd m.w own) A.flatten (H.toList.take (I A*j))->
      E+len<=I A->(E=0\/0<len->a=⟨m.σ id,E*j,none⟩)-> ¬own (m.σ id)->dd m.w own (.sl ((A.drop E).take len)) (.slice (some a) len O):=by
     intro L j A H Y hh N eD ap De ef;by_cases ad:len=0
     .subst ad;simp only[PQ];exact .By _ _ (λh=>by cases h) hm
     have:=De (.inr J);subst this;have an:I ((A.drop E).take len)=len:=fd
     have X:=amp hh (λe he=>N e (Ar (B9 he))) J hm (JP N eD ap) ef;rwa[an]at X
    simp only at h;split at h
    .rename_i g' L j A Q;split at h
     .rename_i hc;cases h;obtain⟨H,hh,mF,N,zM,Dx,dV,eD⟩:=aB.obj id _ (by rw[Q]);exact ab L j A H _ hh N (UC eD) hc.2 (by obtain⟨_,Z,_⟩:=ha j aIm aIs;rename_i e1 _;exact e1▸Z) (af.2 id aG)
     cases h
    .rename_i g' L j A Q;split at h
     .rename_i hc;cases h;obtain⟨H,Y,hh,mF,N,zM,Dx,dV,eD,_⟩:=aB.obj id _ (by rw[Q]);exact ab L j A H _ hh N (UC eD) hc.2 (by obtain⟨_,Z,_⟩:=ha j aIm aIs;exact Z) (af.2 id aG)
     cases h
    .rename_i g' L j A Q;split at h
     .rename_i hc;split at h
      .rename_i ps q hq;cases h;obtain⟨H,hh,mF,N,zM,Dx,dV,eD⟩:=aB.obj id _ (by rw[Q]);have av:=JP N (eE.pw.1 eD) hc.2;have an:I ((A.drop E).take len)=len:=by simp;omega
       have bQ:I ps=len:=by rw[ace hq,an]
       have ak:len*j<=I (H.toList.drop (E*j)):=by
        simp;have X:E*j+len*j<=I A*j:=by rw[<-lR];exact oo _ hc.2
        have Z:I A*j<=m.κ id*j:=oo _ zM;omega
       have mg:∀(am:Nat) (e:dR),ps[am]?=some e->Pw (dd m.w own) e (((H.toList.drop (E*j)).drop (am*j)).take j):=by intro am e he;obtain⟨x,q',X,Z,h3⟩:=aaU hq he;exact Uu Z ⟨af.1,λi hi=>af.2 i (by simp[h3 i hi])⟩ (acK (λe he=>N e (Ar (B9 he))) av X)
       have Ix:∀e∈ps,I e=j:=by intro e he;obtain⟨am,hj⟩:=gJ he;have:=(mg am e hj).1;have X:(am+1)*j<=len*j:=oo _ (by rw[<-bQ];exact(bN.1 hj).1);rw[lR]at X;simp at this ak;omega
       by_cases ad:len=0
       .have:ps=[]:=acU J;subst this;subst ad;exact .By _ _ (λh=>by cases h) hm
       obtain⟨_,Z,_⟩:=ha j aIm aIs;rename_i e1 _;have De:=Z (.inr J);subst De;have yB:=amp hh Ix J hm (aaT Ix (by rw[bQ];exact ak) mg) (af.2 id aG);rwa[bQ]at yB
      cases h
     cases h
    cases h
  |ow id g=>
   cases hr with
   |ow r' hg ha=>
    have ab:∀(ag:Bool) (A:zf) (M:Array MapEntry) (R:Nat),m.w.heap[m.σ id]?=some (.map M R)->M.size=I A->
      (∀(i:Nat) (q:PV) (v:dR) (e:MapEntry),A[i]?=some (q,v)->M[i]?=some e->dd m.w m.own q e.key/\ ∃g:Array Value,(ag->e.val=.agg g)/\(ag=false-> #[e.val]=g)/\eJ m.w m.own v g.toList)->
      ¬own (m.σ id)->dd m.w own (.mp ag A) (.map (some (m.σ id))):=by
     intro ag A M R hh hl hc ef;have ar:∃G:Nat->Array Value,∀(i:Nat) (q:PV) (v:dR) (e:MapEntry),A[i]?=some (q,v)->M[i]?=some e->(ag->e.val=.agg (G i))/\(ag=false-> #[e.val]=G i)/\eJ m.w m.own v (G i).toList:=by
      refine⟨λi=>match M[i]? with|some e=>(match e.val with| .agg g=>if ag then g else #[e.val]|v=> #[v])|none=> #[],λi q v e X Z=>?_⟩;obtain⟨_,g,g1,g2,g3⟩:=hc i q v e X Z;simp only[Z];cases ag with
      |true=>have:=g1 rfl;simp[this];exact g3
      |false=>
       have:=g2 rfl;subst this;refine⟨(λh=>by cases h),(λ_=>?_),?_⟩
       .cases e.val<;>rfl
       cases hv:e.val<;>simp only[hv]at g3<;>exact g3
     obtain⟨G,hG⟩:=ar;refine .mp (m.σ id) M R G ef hh hl (λi q v e X Z=>((hc i q v e X Z).1).less af.1) (λi q v e X Z=>?_) λi q v am x u X Z h3=>?_
     .obtain⟨a1,a2,a3⟩:=hG i q v e X Z;exact⟨by have:=a3.1;simpa using this,a1,a2⟩
     obtain⟨a1,a2,a3⟩:=hG i q v _ X (Zh (by rw[hl];exact(bN.1 X).1));exact(a3.2 am x u Z (by rw[Mc];exact h3)).less af.1
    simp only at h;split at h
    .rename_i g' ag A Q;split at h
     .rename_i ke;cases h;have bh:(m.blk id).2=some (.map ag A):=by rw[Q]
      have ha:=ha alt aH5;subst ha;obtain⟨M,R,hh,hl,hc⟩:=aB.obj id _ bh;exact ab ag A M R hh hl hc (af.2 id aG)
     cases h
    .rename_i g' ag A Q;split at h
     .rename_i ke;cases h;have bh:(m.blk id).2=some (.fmap ag A):=by rw[Q]
      have ha:=ha alt aH5;subst ha;obtain⟨M,R,hh,hl,hc,_⟩:=aB.obj id _ bh;exact ab ag A M R hh hl hc (af.2 id aG)
     cases h
    cases h
  |hfn f a b=>
   cases hr with
   |hfn aw B hA hB zQ qZ=>
    simp only at h;split at h
    .rename_i xa ra xb cK X Z;cases h;obtain⟨s1,s2⟩:=af.app;have p1:=Uu (F:=aw.toList) X s1 ⟨by simpa using hA,λam x u p q=>zQ am x u p (by rw[<-Mc];exact q)⟩;have p2:=Uu (F:=B.toList) Z s2 ⟨by simpa using hB,λam x u p q=>qZ am x u p (by rw[<-Mc];exact q)⟩;exact .fn aw B (by have:=p1.1;simpa using this) (by have:=p2.1;simpa using this) (λam x u p q=>p1.2 am x u p (by rw[Mc];exact q)) λam x u p q=>p2.2 am x u p (by rw[Mc];exact q)
    cases h
end
theorem aFc{blk:aH}{all:aD}:∀ {l:aD}{u:lq},xh blk all l=some u->
  (∀e∈u,e.1∈l/\ ∃x,zV blk all e.1=some x/\e∈x)/\ ∀id∈l,∃x,zV blk all id=some x/\ ∀e∈x,e∈u:=by
 intro l
 induction l with
 |nil=>intro u h;simp[xh]at h;subst h;exact⟨λe h=>by simp at h,λid h=>by simp at h⟩
 |cons i r j=>
  intro u h;simp[xh]at h;split at h
  .rename_i a b m f;cases h;obtain _:=j f;have H:∀e∈a,e.1=i:=by
    intro e n;unfold zV at m
    grind
   grind
  cases h
def Ly(blk:aH)(all:aD):gr->gr->Prop
 | .var D,.fvar ps=>∃r,iP (gC blk jK) D=some (ps,r)/\ ∀i∈r,i∈all
 | .arr L j A,.uZ v f h=>v=L/\f=j/\h=A
 | .nH L j A,.uZ v f ps=>v=L/\f=j/\ ∃r,iP (iP (gC blk jK)) A=some (ps,r)/\ ∀i∈r,i∈all
 | .map n A,.fmap m h=>m=n/\h=A
 |_,_=>False
theorem Ly.facts{blk:aH}{all:aD}{o O:gr}(h:Ly blk all o O)(g:Nat):o.iF/\O.iF=false/\mx (g,some O)=mx (g,some o):=by
 cases o<;>cases O<;>simp[Ly]at h<;>first
  |exact h.elim
  |exact⟨rfl,rfl,rfl⟩
  |exact⟨rfl,rfl,by simp[mx,h.2.1]⟩
theorem aoo{blk:aH}{all:aD}{id:Nat}{x:lq}(h:zV blk all id=some x):
  (∃o,(blk id).2=some o/\o.iF=false/\x=[])\/ ∃o O,(blk id).2=some o/\Ly blk all o O/\x=[(id,((blk id).1,some O))]:=by
 unfold zV at h;split at h
 .rename_i g D H;split at h
  .rename_i ps r m;split at h
   .rename_i z;cases h;refine .inr ⟨.var D,.fvar ps,by rw[H],⟨r,m,λi u=>?_⟩,by rw[H]⟩
    grind
   cases h
  cases h
 .rename_i g L j A H;cases h;exact .inr ⟨.arr L j A,.uZ L j A,by rw[H],⟨rfl,rfl,rfl⟩,by rw[H]⟩
 .rename_i g L j A H;split at h
  .rename_i ps r m;split at h
   .rename_i z;cases h;refine .inr ⟨.nH L j A,.uZ L j ps,by rw[H],⟨rfl,rfl,r,m,λi u=>?_⟩,by rw[H]⟩
    grind
   cases h
  cases h
 .rename_i g f A H;cases h;exact .inr ⟨.map f A,.fmap f A,by rw[H],⟨rfl,rfl⟩,by rw[H]⟩
 .cases h
 rename_i y B E N v n;cases h;cases H:blk id with
 |mk g o=>
  cases o with
  |none=>exact(n g H).elim
  |some o=>
   refine .inl ⟨o,rfl,?_,rfl⟩;cases o with
   |var D=>exact(B g D H).elim
   |arr L j A=>exact(E g L j A H).elim
   |nH L j A=>exact(N g L j A H).elim
   |map f A=>exact(v g f A H).elim
   |_=>rfl
def a7.with(m:a7)(u:lq):a7:={m with blk:=app u m.blk}
theorem AD{ids:aD}(h:vF m.blk ids=some u)(id:Nat):
  ((m.with u).blk id=m.blk id/\(id∈ids->∃o,(m.blk id).2=some o/\o.iF=false))\/
  (id∈ids/\ ∃o O,(m.blk id).2=some o/\Ly m.blk ids o O/\(m.with u).blk id=((m.blk id).1,some O)):=by
 obtain⟨D,z⟩:=aFc h;rcases aC2 u m.blk id with⟨E,n⟩|⟨e,B,E,n⟩
 .refine .inl ⟨E,λj=>?_⟩;obtain⟨x,A,H⟩:=z id j;rcases aoo A with⟨o,a,b,_⟩|⟨o,O,a,b,c⟩
  .exact⟨o,a,b⟩
  exact(n (id,(m.blk id).fst,some O) (H _ ii) rfl).elim
 obtain⟨v,x,y,f⟩:=D e B;rw[E]at v y;rcases aoo y with _|⟨o,O,a,b,c⟩
 .grind
 rw[c]at f;simp at f;refine .inr ⟨v,o,O,a,b,?_⟩;simp[a7.with];rw[n,f]
theorem aeR{ids:aD}(h:vF m.blk ids=some u){c:Nat}(j:(m.with u).own c):m.own c:=by
 rcases j with j|⟨id,o,H,f,n⟩
 .exact .inl j
 rcases AD h id with⟨e,_⟩|⟨_,p,q,a,b,e⟩
 .rw[e]at H;exact .inr ⟨id,o,H,f,n⟩
 rw[e]at H;cases H;rw[(b.facts 0).2.1]at f;cases f
theorem ZU(aB:dW T m){ids:aD}(h:vF m.blk ids=some u):xP m (m.with u).own ids:=by
 refine⟨λb z=>aeR h z,λid v j=>?_⟩;rcases AD h id with⟨e,A⟩|⟨_,o,O,a,b,e⟩
 .obtain⟨o,ho,hm⟩:=A v;exact(aB.obj id o ho).calm hm (aeR h j)
 rcases j with j|⟨n,q,H,f,y⟩
 .exact(aB.eO id o a (b.facts 0).1).2 j
 by_cases x:n=id
 .subst x;rw[e]at H;cases H;rw[(b.facts 0).2.1]at f;cases f
 rcases AD h n with⟨E,_⟩|⟨_,F,Q,D,B,E⟩
 .rw[E]at H;exact x (aB.inj n id q o H f a (b.facts 0).1 y)
 rw[E]at H;cases H;rw[(B.facts 0).2.1]at f;cases f
theorem XI{m:a7}{ids:aD}{u:lq}(h:vF m.blk ids=some u):hs m (m.with u) where
 os:=rfl
 tape:=rfl
 output:=rfl
 size:=cP _
 keep _ _ _:=rfl
 iF c _ j:=by
  obtain⟨id,o,H,f,n⟩:=j;rcases AD h id with⟨e,_⟩|⟨_,p,q,a,b,e⟩
  .rw[e]at H;exact⟨id,o,H,f,n⟩
  rw[e]at H;cases H;rw[(b.facts 0).2.1]at f;cases f
 less c _ v j:=v (aeR h j)
 gen id:=by rcases AD h id with⟨e,_⟩|⟨_,p,q,a,b,e⟩<;>rw[e]<;>exact cP _
 ref id x af:=by
  rcases AD h id with⟨e,_⟩|⟨_,p,q,a,b,e⟩
  .rw[e]at af |-;exact⟨af,rfl,rfl,rfl⟩
  rw[e]at af |-;refine⟨by rw[a];rfl,rfl,rfl,?_⟩;have H:m.blk id=((m.blk id).1,some p):=by rw[<-a]
  rw[(b.facts (m.blk id).1).2.2,<-H]
theorem aqh{m:a7}(aB:dW T m){ids:aD}{u:lq}(h:vF m.blk ids=some u):dW T (m.with u) where
 os:=aB.os
 tape:=aB.tape
 output:=aB.output
 size:=aB.size
 base:=aB.base
 obj id o ho:=by
  have eM:=XI h;have R:=ZU aB h;rcases AD h id with⟨e,_⟩|⟨ab,p,q,a,b,e⟩
  .rw[e]at ho;exact(aB.obj id o ho).ev eM.zero rfl rfl rfl
  rw[e]at ho;cases ho;have O:=R.2 id ab;have UN:∀r:aD,(∀i∈r,i∈ids)->xP m (m.with u).own r:=λr hr=>⟨R.1,λi hi=>R.2 i (hr i hi)⟩;have Q:=aB.obj id p a;cases p<;>cases o<;>simp only[Ly]at b<;>first
   |exact b.elim
   |skip
  .obtain⟨r,D,hr⟩:=b;obtain⟨H,L,B,M⟩:=Q;exact⟨H,L,(0,0),B,eJ.pw.2 (Mw (T:=dd m.w (m.with u).own) (λa b h=>h.app) (λa b r v e1 X e3=>M7 aB _ e1 X e3) D (UN r hr) (eE.pw.1 M)),O⟩
  .obtain⟨rfl,rfl,rfl⟩:=b;obtain⟨H,B,Y,y,hl,hm,M,eD⟩:=Q;exact⟨H,(0,0),B,Y,y,hl,hm,M,eD.less R.1,O⟩
  .obtain⟨rfl,rfl,r,D,hr⟩:=b;obtain⟨H,B,Y,y,hl,hm,M,eD⟩:=Q;rename_i A _ j ps;have bQ:=ace D;have E:I ps*j<=I H.toList:=by
    have f:I A*j<=m.κ id*j:=oo _ hl;simp;rw[bQ];omega
   have mg:∀(ad:Nat) (e:dR),ps[ad]?=some e->Pw (dd m.w (m.with u).own) e ((H.toList.drop (ad*j)).take j):=by intro ad e F;obtain⟨x,q',n,f,h3⟩:=aaU D F;exact Mw (T:=dd m.w (m.with u).own) (λa b h=>h.app) (λa b r v e1 X e3=>M7 aB _ e1 X e3) f (UN q' λi hi=>hr i (h3 i hi)) (acK y (eE.pw.1 eD) n)
   have Ix:∀e∈ps,I e=j:=by
    intro e F;obtain⟨ad,hj⟩:=gJ F;have:=(mg ad e hj).1;have n:(ad+1)*j<=I ps*j:=oo _ ((bN.1 hj).1)
    grind
   exact⟨H,(0,0),B,Y,Ix,by rw[bQ];exact hl,hm,M,eJ.pw.2 (aaT Ix E mg),O⟩
  obtain⟨rfl,rfl⟩:=b;obtain⟨N,z,B,hl,D⟩:=Q;exact⟨N,z,B,hl,λi q v e n f=>let ⟨p,g,g1,g2,g3⟩:=D i q v e n f;⟨p.less R.1,g,g1,g2,g3.less R.1⟩,O⟩
 eO id o ho hm:=by
  rcases AD h id with⟨e,_⟩|⟨_,p,q,a,b,e⟩
  .rw[e]at ho;exact aB.eO id o ho hm
  rw[e]at ho;cases ho;rw[(b.facts 0).2.1]at hm;cases hm
 frlt:=aB.frlt
 inj id gT o o' n Z f m2 F:=by
  rcases AD h id with⟨e,_⟩|⟨_,p,q,a,b,e⟩
  .rcases AD h gT with⟨e',_⟩|⟨_,p',q',a',b',e'⟩
   .rw[e]at n;rw[e']at f;exact aB.inj id gT o o' n Z f m2 F
   rw[e']at f;cases f;rw[(b'.facts 0).2.1]at m2;cases m2
  rw[e]at n;cases n;rw[(b.facts 0).2.1]at Z;cases Z
section
variable{M:World}
def a7.oQ(m:a7)(M:World)(s c k:Nat)(o:gr):a7:=(m.later M (· =c)).install s c k o
section
variable {m:a7} {M:World} {s c k:Nat} {o:gr} (hg:jQ m.w M) (jm:m.w.heap.size<=c) (j9:c<M.heap.size)
theorem SS(aB:dW T m)(jm:m.w.heap.size<=c):(m.oQ M s c k o).fr=m.fr:=by
 funext x;simp only[a7.oQ,a7.install,a7.later];apply propext;constructor
 .grind
 intro h;exact⟨.inl h,λe=>by have:=aB.frlt x h;omega⟩
include hg jm
theorem VH:hs m (m.oQ M s c k o):=VF (NT hg λx h=>by subst h;exact jm) (.inr rfl) (.inl jm)
include j9
theorem TF(aB:dW T m)(ho:vS (m.oQ M s c k o) s o):dW T (m.oQ M s c k o):=SX (Po aB hg λx h=>by subst h;exact⟨jm,j9⟩) (.inr rfl) (ob aB.size jm) ho
end
theorem Me{s c k:Nat}{o:gr}:(m.oQ M s c k o).σ s=c:=by simp[a7.oQ,a7.install,bG]
theorem x_{s c k:Nat}{o:gr}:(m.oQ M s c k o).κ s=k:=by simp[a7.oQ,a7.install,bG]
theorem avG{s c k:Nat}{o:gr}:(m.oQ M s c k o).blk=app [(s,((m.blk s).1+1,some o))] m.blk:=rfl
theorem awq{s c k:Nat}{o:gr}:(m.oQ M s c k o).w=M:=rfl
theorem ac7{s c L:Nat}(H:n<=O)(hm:O<=maxLen):
  c9 (m.oQ M s c O (.arr L j A)) (.one (.hsl s ((m.blk s).1+1) j 0 n)) (.slice (some ⟨c,0,none⟩) n O):=by
 refine c9.one.2 (.hsl _ _ ?_ H hm λz f h=>?_)
 .simp[a7.oQ,a7.install,a7.later,bG]
 have:mx ((m.oQ M s c O (.arr L j A)).blk s)=some j:=by simp[a7.oQ,a7.install,bG,mx]
 rw[this]at h;cases h;refine⟨rfl,λ_=>?_,by rw[lh];exact x_.symm⟩;rw[Me,EF]
theorem aEx{s c L:Nat}{A:List eC}(H:n<=O)(hm:O<=maxLen):
  c9 (m.oQ M s c O (.nH L j A)) (.one (.hsl s ((m.blk s).1+1) j 0 n)) (.slice (some ⟨c,0,none⟩) n O):=by
 refine c9.one.2 (.hsl _ _ ?_ H hm λz f h=>?_)
 .simp[a7.oQ,a7.install,a7.later,bG]
 have:mx ((m.oQ M s c O (.nH L j A)).blk s)=some j:=by simp[a7.oQ,a7.install,bG,mx]
 rw[this]at h;cases h;refine⟨rfl,λ_=>?_,by rw[lh];exact x_.symm⟩;rw[Me,EF]
theorem Vs{t e:TypeId}{bytes:Nat}(h:CQ P t=some (e,j,bytes,z)):
  ∃i v,P.underlying t=some (.slice e)/\P.info? e=some i/\i.size=j/\i.bytes=bytes/\(0<j/\0<bytes)/\i.zero=some v/\v.cells.size=j/\I z=j/\ ∀w own,eJ w own z v.cells.toList:=by
 unfold CQ at h;split at h
 .rename_i E m;split at h
  .rename_i i Z n H;split at h
   .rename_i f;cases h;obtain _:=OA H
    grind
   cases h
  cases h
 cases h
theorem atC{R:PV->Value->Prop}{v:Array Value}(F:Pw R z v.toList)(y:v.size=j)(A:0<j):
  Pw R (List.replicate n z).flatten ((madeCells v (n*j)).toList.take (n*j)):=by
 have B:∀e∈List.replicate n z,I e=j:=λe m=>by rw[acC m];exact by have:=F.1;simp at this;omega
 have H:(madeCells v (n*j)).toList.length=n*j:=by simp[size_madeCells]
 rw[eT J];refine⟨by rw[H,Lg B];simp,λf x u p q=>?_⟩;have D:f<n*j:=by have:=(bN.1 q).1;omega
 have h:f/j<n:=by rw[Nat.div_lt_iff_lt_mul A];exact D
 have M:f%j<j:=dB _ A;have m:(List.replicate n z)[f/j]?=some z:=ut
 have E:=IF B m M;rw[show f/j*j+f%j=f by rw[Wv];exact ae7 f j]at E;rw[E]at p;have L:(madeCells v (n*j)).toList[f]?=some v[f%j]! :=by unfold madeCells;simp[D,y]
 rw[L]at q;cases q;refine F.2 _ x _ p ?_
 grind
section
variable {m:a7} {B:bP} {a:Act} {o:Oper} (aB:dW T m) (hr:ll m B a.tmps)
include aB hr
theorem aF0{t e:TypeId}{l c:Operand}{L:fc}{s bytes:Nat}(ho:o.op=.makeSlice t l c)(X:CQ P t=some (e,j,bytes,z))(hl:dr l=some L)(hc:dr c=some c')
  (Q:ug (ev B L)=some n) (hm:ug (ev B c')=some n) (nU:n*bytes<=pE):
  iK P T a.eval o m (.one (.hsl s ((m.blk s).1+1) j 0 n)) [(s,((m.blk s).1+1,some (.arr e j (List.replicate n z))))]:=by
 obtain⟨i,v,y,O,af,hb,⟨f,Qm⟩,D,F,mj,E⟩:=Vs X;obtain⟨u,A⟩:=Bx Q (gv hl hr);obtain⟨R,H⟩:=Bx hm (gv hc hr);unfold pE at nU;have Z:n<=maxLen:=by have:n<=n*bytes:=W1 _ Qm;simp[maxLen];omega
 have Y:(i.bytes:Int)*(n:Int)<=281474976710656:=ii
 have h:=run_make m.w t e i v y O D u R n n J (Int.le_refl _) Y (by simp[maxLen]at Z;omega);simp[lJ,af]at h
 let M:=m.oQ (m.w.alloc (.cells (madeCells v.cells (n*j)) e)) s m.w.heap.size n (.arr e j (List.replicate n z))
 have N:vS M s (.arr e j (List.replicate n z)):=by
  refine⟨_,by rw[Me];exact heap_alloc_new m.w _,f,λx hx=>?_,?_,?_,?_,?_⟩
  .grind
  .rw[x_];simp
  .rw[x_];exact Z
  .rw[x_,size_madeCells]
  rw[RK];exact eJ.pw.2 (atC (eJ.pw.1 (E _ _)) F f)
 refine⟨_,M,.inl ?_,TF (jQ.alloc _ _) (cP _) aG aB N,VH (jQ.alloc _ _) (cP _),SS aB (cP _),rfl,ac7 (cP _) Z⟩;simp[execOp,ho,A,H,h];rfl
theorem amR{lo f:Option Operand}{l:Nat}{b:Bool}(j:AI lo=some GX)(z:AI f=some zL)(hl:vI B 0 GX=some l)(A:vI B n zL=some h)
  (N:l<=h) (H:h<=O):(Instr.sliceBounds b n O (lo.map a.eval) (f.map a.eval) none).run P m.w=.ok (l,h,O) m.w:=by
 have R:(match f.map a.eval with|some v=>∃k,v=Value.int k (h:Int)|none=>h=n):=by
  cases f with
  |none=>simp[AI]at z;subst z;simp[vI]at A;simpa using A.symm
  |some x=>simp[AI,gW]at z;obtain⟨y,D,rfl⟩:=z;exact Bx A (gv D hr)
 have E:(match lo.map a.eval with|some v=>∃k,v=Value.int k (l:Int)|none=>l=0):=by
  cases lo with
  |none=>simp[AI]at j;subst j;simp[vI]at hl;simpa using hl.symm
  |some x=>simp[AI,gW]at j;obtain⟨y,D,rfl⟩:=j;exact Bx hl (gv D hr)
 generalize lo.map a.eval=L at E;generalize f.map a.eval=F at R;cases L with
 |none=>
  subst E;cases F with
  |none=>simp only at R;subst R;simp[Instr.sliceBounds]
  |some v=>obtain⟨k,rfl⟩:=R;simp[Instr.sliceBounds,Instr.sliceBound,asIntOf,H]
 |some u=>
  obtain⟨k,rfl⟩:=E;cases F with
  |none=>simp only at R;subst R;simp[Instr.sliceBounds,Instr.sliceBound,asIntOf,N]
  |some v=>obtain⟨M,rfl⟩:=R;simp[Instr.sliceBounds,Instr.sliceBound,asIntOf,H,N]
theorem arn{t:TypeId}{lo j:Option Operand}{s:ByteArray}{l:Nat}(ho:o.op=.slice t x lo j none)(v:P.underlying t=some .string)
  (z:dr x=some Z) (n:AI lo=some GX) (y:AI j=some zL) (af:ev B Z=.one (.p (.str s))) (hl:vI B 0 GX=some l) (u:vI B s.size zL=some h) (N:l<=h) (H:h<=s.size):
  iK P T a.eval o m (.one (.p (.str (s.extract l h)))) []:=by
 have f:=gv z hr;rw[af]at f;refine .calm aB ?_ (pJ (.str _));simp[execOp,ho,OR f,Instr.sliceAt,Instr.slice,run_underlying v,amR (aB:=aB) (hr:=hr) n y hl u N H]
theorem axC{t e:TypeId}{lo hi:Option Operand}{l:Nat}(ho:o.op=.slice t x lo hi none)(ht:P.underlying t=some (.slice e))(ab:zm P e=some j)
  (hx:dr x=some Z) (jo:AI lo=some GX) (Ih:AI hi=some zL) (N:Eg (ev B Z)=some n) (hl:vI B 0 GX=some l) (hh:vI B n zL=some h)
  (H:Hu (ev B Z) j l h=.done v [] []):iK P T a.eval o m v []:=by
 have M:=gv hx hr;unfold Hu at H;split at H
 .cases H
 rename_i Na;have run:∀(u:Option Addr) (O:Nat),a.eval x=.slice u n O->h<=O->(execOp a.eval o).run P m.w=.ok (.value (.slice (if O=l then u else u.map (·.add (l*j))) (h-l) (O-l))) m.w:=by intro u O kG Q;simp[execOp,ho,kG,Instr.sliceAt,Instr.slice,run_underlying ht,amR (P:=P) (aB:=aB) (hr:=hr) (b:=true) jo Ih hl hh (by simpa using Na) Q,Va ab]
 obtain⟨ap,am,hsl,ag,qV⟩:=aiH (aB:=aB) (hr:=hr) N M;split at H
 .rename_i y;split at H
  .rename_i h0;cases H;rw[y]at M;have:=VL M;subst h0;have Y:l=0:=J;subst Y;rw[this]at hsl;cases hsl;refine .calm aB (run none 0 this (cP _)) ?_;simp;exact pJ .nils
  cases H
 .rename_i A y;split at H
  .rename_i X;cases H;rw[y]at M N;simp[Eg]at N;subst N;obtain⟨hp⟩:gh m _ (a.eval x):=M;generalize hb:a.eval x=b at hp;generalize o9:(PV.sl A)=pv at hp;cases hp<;>cases o9
   .rename_i u O A8 hm;simp at X;have ak:h=0:=J;subst ak;have Y:l=0:=J;subst Y;refine .calm aB (run u O hb (bj _)) (pJ ?_);simp only[List.drop_nil,List.take_nil,WG];refine .By _ _ (λh=>?_) hm;split at h
    .exact A8 h
    cases u with
    |none=>exact A8 rfl
    |some u=>simp at h
   rename_i b' o' O fE f hm qW zM L nN GI;refine .calm aB (run _ O hb J) (pJ ?_);by_cases aw:l=h
   .subst aw;simp only[BU,PQ];refine .By _ _ (λh=>?_) J;split at h<;>simp at h
   have R:I ((A.drop l).take (h-l))=h-l:=fd
   have fD:A≠[]:=λe=>by subst e;simp at X;omega
   have Z0:fE=j:=by obtain⟨e0,r0,rfl⟩:=aa7 fD;have g1:=L e0 aG;have g2:=X.2;simp[gk]at g2;omega
   subst Z0;rw[aE J];simp only[vB,Addr.add_lit];have Fb:=dd.sl (w:=m.w) (es:=(A.drop l).take (h-l)) b' (o'+l*fE) (O-l) fE (λan=>f (l*fE+an)) (λaN=>qW λe0=>aN ?_) J J (λe y=>L e (Ar (B9 y))) ?_ ?_
   .rw[R]at Fb;exact Fb
   .apply acU;rw[MF (λe y=>L e (Ar y)),Vu L,e0];simp
   .intro an z D;rw[MF (λe y=>L e (Ar y)),Vu L,sB]at D;split at D
    .rw[E3]at D;rw[FT];exact nN _ z D
    cases D
   intro an z D;rw[MF (λe y=>L e (Ar y)),Vu L,sB]at D;split at D
   .rw[E3]at D;exact GI _ z D
   cases D
  cases H
 .rename_i id g z E len y;split at H
  .rename_i X;cases H;rw[y]at M N;simp[Eg]at N;subst N;have fA:=M;generalize hb:a.eval x=b at fA;cases fA with
   |hsl u O hg A6 hm Qv=>
    refine .calm aB (run _ O hb J) ?_;have ZY:∃F,(if O=l then some u else(some u).map (·.add (l*j)))=some F/\(O≠l->F=u.add (l*j))/\(l=0->F=u):=by
     by_cases eh:O=l
     .exact⟨u,by simp[eh],λh=>(h eh).elim,λ_=>rfl⟩
     exact⟨u.add (l*j),by simp[eh],λ_=>rfl,λh=>by subst h;simp[Addr.add]⟩
    obtain⟨F,e1,e2,e3⟩:=ZY;rw[e1];refine c9.one.2 (.hsl _ _ hg J J λs g1 g2=>?_);obtain⟨f1,f2,f3⟩:=Qv s g1 g2;refine⟨f1,λE6=>?_,?_⟩
    .by_cases Y:l=0
     .subst Y;rw[e3 rfl,Ab];refine f2 ?_;rcases E6 with h|h
      .exact .inl J
      exact .inr J
     have:0<h-l:=by rcases E6 with h|h<;>omega
     rw[e2 J,f2 (.inr J),Addr.add_lit,f1,X.2,lR]
    omega
  cases H
 cases H
end
end
theorem aDH(E:Nat):∀(F:List Value) (i:Nat) (cells:Array Value),E+i+I F<=cells.size->
  ((F.zipIdx i).foldl (λD (x:Value×Nat)=>D.setIfInBounds (E+x.2) x.1) cells).toList=gE cells.toList (E+i) F:=by
 intro F
 induction F with
 |nil=>intro i cells _;simp[gE]
 |cons v r j=>
  intro i cells h;simp only[fF]at h;simp only[List.zipIdx_cons,Ac];rw[j (i+1) _ fd];unfold gE;rw[Array.toList_setIfInBounds];have A:E+i<I cells.toList:=fd
  have f:(cells.toList.set (E+i) v).take (E+(i+1))=cells.toList.take (E+i)++[v]:=by grind [acB,List.take_set,Ub]
  have m:(cells.toList.set (E+i) v).drop (E+(i+1)+I r)=cells.toList.drop (E+(i+1)+I r):=by rw[List.drop_set_of_lt J]
  rw[f,m];simp only[fF,k9,List.singleton_append];congr 3;omega
theorem aom{place:Nat->Option (Nat×Nat)}{i:Nat}{v:Value}{R:List (Nat×Value)}{cells:Array Value}(hp:place i=some (E,n))(H:v.cells.size=n)(h:E+n<=cells.size):
  ∃O,Instr.fill place cells ((i,v)::R)=Instr.fill place O R/\O.toList=gE cells.toList E v.cells.toList:=by
 refine⟨v.cells.zipIdx.foldl (λD (x:Value×Nat)=>D.setIfInBounds (E+x.2) x.1) cells,?_,?_⟩
 .simp[Instr.fill,hp]
  grind
 rw[<-acS,Array.toList_zipIdx,aDH E v.cells.toList 0 cells ii];simp
theorem akq{B:bP}{a:Act}(hr:ll m B a.tmps){place:Nat->Option (Nat×Nat)}{z:Nat}:∀ {ps:List (Nat×Operand)}{qs:List (Nat×Nat×fc)}{rs:List (Nat×eC)}{D:eC}{cells:Array Value},
  Ef place z ps=some qs->B5 B qs=some rs->eE m D cells.toList->I D=z->
  ∃O,Instr.fill place cells (ps.map λx=>(x.1,a.eval x.2))=some O/\eE m (Gm D rs) O.toList:=by
 intro ps
 induction ps with
 |nil=>intro qs rs D cells H h f hl;simp[Ef]at H;subst H;simp[B5]at h;subst h;exact⟨cells,by simp[Instr.fill],by simpa [Gm]using f⟩
 |cons p t R=>
  intro qs rs D cells H h f hl;obtain⟨i,x⟩:=p;simp only[Ef]at H;split at H
  .rename_i E n Y q X N A;split at H
   .rename_i v;cases H;simp only[B5]at h;split at h
    .rename_i HN Z T M;split at h
     .rename_i u;cases h;have y:=aeg T (gv N hr);have j:(a.eval x).cells.size=n:=by have:=y.1;simp at this;omega
      have F:=f.1;simp at F;obtain⟨O,Q,L⟩:=aom X j (by omega:E+n<=cells.size);simp only[fq,Gm];rw[Q];refine R A M ?_ (by rw[To J];exact hl);rw[L];exact eE.pw.2 ((eE.pw.1 f).gE (eE.pw.1 y) E)
     cases h
    cases h
   cases H
  cases H
theorem azv{α β:Type}{f:α->Sem β}{g:α->β}{w:World}:∀ {l:List α},(∀x∈l,(f x).run P w=.ok (g x) w)->(l.mapM f).run P w=.ok (l.map g) w:=by
 intro l
 induction l with
 |nil=>intro _;simp
 |cons x r h=>simp_all
theorem arQ{B:bP}{a:Act}(hr:ll m B a.tmps){place:Nat->Option (Nat×Nat)}(E:∀k,place k=some (k*j,j)):∀ {ps:List (Nat×Operand)}{as:ve}{A:List eC}{k:Nat}{done:List Value}{cells:Array Value},
  KV k ps=some as->D5 B j as=some A->I done=k*j->cells.toList.take (k*j)=done->cells.size=(k+I as)*j->
  ∃O,Instr.fill place cells (ps.map λx=>(x.1,a.eval x.2))=some O/\ ∃F,O.toList=done++F/\eE m A.flatten F/\(∀e∈A,I e=j)/\I A=I as:=by
 intro ps
 induction ps with
 |nil=>intro as A k done cells H h y z af;simp[KV]at H;subst H;simp[D5]at h;subst h;refine⟨cells,by simp[Instr.fill],[],?_,⟨aG,λab x u p=>by simp at p⟩,λe v=>by simp at v,rfl⟩;rw[<-z,j_,eT (by simp at af |-;omega)]
 |cons p t ih=>
  intro as A k done cells H h y z af;obtain⟨i,x⟩:=p;simp only[KV]at H;split at H
  .rename_i a' q hx T;split at H
   .rename_i L;cases H;subst L;simp only[D5]at h;split at h
    .rename_i HN q' Ke Z;split at h
     .rename_i n;cases h;have N:=aeg Ke (gv hx hr);have f:(a.eval x).cells.size=j:=by have:=N.1;simp at this;omega
      simp only[fF]at af;have R:cells.size=i*j+j+I q*j:=by rw[af,lR,lR];omega
      obtain⟨O,e1,M⟩:=aom (E i) f (by omega:i*j+j<=cells.size);have Q:I O.toList=cells.size:=by rw[M,To fd];simp
      obtain⟨D,X,F,f2,f3,f4,Y⟩:=ih (done:=done++(a.eval x).cells.toList) T Z (by simp[y,f,lR]) (by rw[M];unfold gE;rw[z,W5 (by simp[y,f,lR])];rw[eT (by simp[y,f,lR])]) (by simp at Q;rw[Q,R,lR,lR];omega)
      simp only[fq];rw[e1];refine⟨D,X,(a.eval x).cells.toList++F,by rw[f2,k9],?_,?_,by simp[Y]⟩
      .simp only[tR];exact eE.pw.2 ((eE.pw.1 N).append (eE.pw.1 f3))
      intro e v;rcases dh.1 v with rfl|v
      .exact n
      exact f4 e v
     cases h
    cases h
   cases H
  cases H
theorem ay9:∀ {A:List eC}{qs:dy}{F:List Value}{j:Nat},Gd A=some qs->(∀e∈A,I e=j)->eE m A.flatten F->eJ m.w m.own qs.flatten F/\(∀e∈qs,I e=j)/\I qs=I A:=by
 intro A
 induction A with
 |nil=>intro qs F j h _ f;simp[Gd]at h;subst h;exact⟨⟨f.1,λT x u p=>by simp at p⟩,λe E=>by simp at E,rfl⟩
 |cons e r L=>
  intro qs F j h H f;simp only[Gd]at h;split at h
  .rename_i v Q z n;cases h;simp only[tR]at f;have eo:=H e aG;have jm:=(eE.pw.1 f).take (I e);have j9:=(eE.pw.1 f).drop (I e);simp only[T_,List.drop_left]at jm j9;have g1:=RG z (eE.pw.2 jm);obtain⟨y,R,B⟩:=L n (λx D=>H x (by simp[D])) (eE.pw.2 j9);have M:I v=j:=by
    have N:=g1.1;have O:=jm.1;omega
   refine⟨?_,?_,by simp[B]⟩
   .have:=(eJ.pw.1 g1).append (eJ.pw.1 y);rw[mW]at this;exact eJ.pw.2 this
   grind
  cases h
section
variable {m:a7} {B:bP} {a:Act} {o:Oper} (aB:dW T m) (hr:ll m B a.tmps)
include aB hr
theorem atj{t:TypeId}{ps:Array (Nat×Operand)}{fs:Array Field}(ho:o.op=.build t ps)(j:P.underlying t=some (.struct fs))(F:Ct P t=some z)
  (y:fs.all (λf=>(P.info? f.type).isSome)) (hp:Ef (λi=>(fs[i]?).map λf=>(f.offset,P.cellsOf f.type)) (I z) ps.toList=some qs) (A:B5 B qs=some rs):
  iK P T a.eval o m (.agg (Gm (z.map .p) rs)) []:=by
 obtain⟨v,i,n,h,af,hl,E⟩:=OA F;obtain⟨O,D,H⟩:=akq hr hp A (E m.w m.own).toC aG;refine .calm aB ?_ (c9.agg.2 ⟨_,rfl,H⟩);have N:(fs.mapM (λf=>do pure (f.offset,<-sizeOf f.type):Field->Sem _)).run P m.w=.ok (fs.map λf=>(f.offset,P.cellsOf f.type)) m.w:=by
  rw[Array.mapM_eq_mapM_toList];have:=azv (P:=P) (f:=(λf=>do pure (f.offset,<-sizeOf f.type):Field->Sem (Nat×Nat))) (g:=λf=>(f.offset,P.cellsOf f.type)) (w:=m.w) (l:=fs.toList) (λf hf=>by
   have:=Array.all_eq_true_iff_forall_mem.1 y f ii;cases M:P.info? f.type with
   |none=>rw[M]at this;cases this
   |some i=>simp[sizeOf,typeInfo,M,Program.cellsOf])
  rw[Sem.run_map,this];simp only[Result.andThen_ok];congr 1;apply Array.ext';simp
 have u:Instr.fill (λx=>(fs.map λf=>(f.offset,P.cellsOf f.type))[x]?) v.cells (ps.map λx=>(x.1,a.eval x.2)).toList=some O:=by simpa using D
 simp only[execOp,ho,Instr.build,zeroValue,typeInfo,Sem.run_bind,run_program,Result.andThen_ok,n,h,Sem.run_pure,run_underlying j,N,u]
theorem aAQ{t e:TypeId}{ps:Array (Nat×Operand)}{i:TypeInfo}(ho:o.op=.build t ps)(j:P.underlying t=some (.array n e))(F:Ct P t=some z)
  (H:P.info? e=some i) (hp:Ef (λk=>some (k*i.size,i.size)) (I z) ps.toList=some qs) (A:B5 B qs=some rs):
  iK P T a.eval o m (.agg (Gm (z.map .p) rs)) []:=by
 obtain⟨v,i',u,h,af,hl,E⟩:=OA F;obtain⟨O,D,f⟩:=akq hr hp A (E m.w m.own).toC aG;refine .calm aB ?_ (c9.agg.2 ⟨_,rfl,f⟩);have y:Instr.fill (λk=>some (k*i.size,i.size)) v.cells (ps.map λx=>(x.1,a.eval x.2)).toList=some O:=by simpa using D
 simp only[execOp,ho,Instr.build,zeroValue,sizeOf,typeInfo,Sem.run_bind,run_program,Result.andThen_ok,u,H,h,Sem.run_pure,run_underlying j,y]
theorem aCT{t e:TypeId}{bytes s:Nat}{ps:Array (Nat×Operand)}{as:ve}{A:List eC}(ho:o.op=.buildSlice t n ps)(he:CQ P t=some (e,j,bytes,z))(hp:KV 0 ps.toList=some as)
  (hn:I as=n) (ad:n*j<=16777216) (hv:D5 B j as=some A):
  (∀qs,Gd A=some qs->iK P T a.eval o m (.one (.hsl s ((m.blk s).1+1) j 0 (I A))) [(s,((m.blk s).1+1,some (.arr e j qs)))])/\
  iK P T a.eval o m (.one (.hsl s ((m.blk s).1+1) j 0 (I A))) [(s,((m.blk s).1+1,some (.nH e j A)))]:=by
 obtain⟨i,v,R,hi,af,hb,⟨y,_⟩,Ds,ur,mj,eD⟩:=Vs he;subst hn;obtain⟨O,f1,F,L,N,M,D⟩:=arQ (done:=[]) (cells:=(Array.range (I as*j)).map ((if I as*j=0 then #[]else v.cells)[· %(if I as*j=0 then #[]else v.cells).size]!)) hr (λ_=>rfl) hp hv aG aG aG;have Z:(execOp a.eval o).run P m.w=.ok (.value (.slice (some ⟨m.w.heap.size,0,none⟩) (I A) (I A))) (m.w.alloc (.cells O e)):=by
  have u:Instr.fill (λk=>some (k*j,j)) ((Array.range (I as*j)).map ((if I as*j=0 then #[]else v.cells)[· %(if I as*j=0 then #[]else v.cells).size]!)) (ps.map λx=>(x.1,a.eval x.2)).toList=some O:=by simpa using f1
  have ab:¬(16777216<I as*j):=J;have h:¬(I as*j>2 ^ 24):=J;by_cases H:I as*j=0
  .simp only[aI H]at u;simp only[execOp,ho,Instr.buildSlice,Sem.run_bind,run_underlying R,Result.andThen_ok,sizeOf,typeInfo,run_program,hi,Sem.run_pure,af,aE h,aI H,u,newRow,run_newObj,D];rfl
  simp only[aE H]at u;simp only[execOp,ho,Instr.buildSlice,Sem.run_bind,run_underlying R,Result.andThen_ok,sizeOf,typeInfo,run_program,hi,Sem.run_pure,af,aE h,aE H,zeroValue,Ds,u,newRow,run_newObj,D];rfl
 simp at L;have Y:O.size=I A*j:=by
  have h1:=N.1;rw[Lg M]at h1;have:I O.toList=I F:=by rw[L]
  simp at this;omega
 have Q:I A<=maxLen:=by have:I A<=I A*j:=W1 _ y;simp only[maxLen];rw[D]at this |-;omega
 have f:O.toList.take (I A*j)=F:=by rw[eT fd,L]
 constructor
 .intro qs hq;have E:hs m (m.oQ (m.w.alloc (.cells O e)) s m.w.heap.size (I A) (.arr e j qs)):=VH (jQ.alloc _ _) (cP _);obtain⟨g1,g2,X⟩:=ay9 hq M (N.ev E.zero);refine⟨_,m.oQ (m.w.alloc (.cells O e)) s m.w.heap.size (I A) (.arr e j qs),.inl Z,TF (jQ.alloc _ _) (cP _) aG aB ?_,E,SS aB (cP _),rfl,ac7 (cP _) Q⟩;exact⟨O,by rw[Me];exact heap_alloc_new m.w _,y,g2,by rw[x_,X];exact cP _,by rw[x_];exact Q,by rw[x_,Y],by rw[X,f];exact g1⟩
 have E:hs m (m.oQ (m.w.alloc (.cells O e)) s m.w.heap.size (I A) (.nH e j A)):=VH (jQ.alloc _ _) (cP _);refine⟨_,m.oQ (m.w.alloc (.cells O e)) s m.w.heap.size (I A) (.nH e j A),.inl Z,TF (jQ.alloc _ _) (cP _) aG aB ?_,E,SS aB (cP _),rfl,aEx (cP _) Q⟩;exact⟨O,by rw[Me];exact heap_alloc_new m.w _,y,M,by rw[x_];exact cP _,by rw[x_];exact Q,by rw[x_,Y],by rw[f];exact N.ev E.zero⟩
end
theorem Un(a b:lq)(blk:aH):app (a++b) blk=app b (app a blk):=by
 induction a generalizing blk with
 |nil=>rfl
 |cons x r f=>obtain _:=x;simp;exact f _
theorem aA5(hf:∀c,Gl c->m.fr c){c:Nat}(h:({m with fr:=Gl}:a7).own c):m.own c:=by
 rcases h with h|h
 .exact .inl (hf c h)
 exact .inr h
theorem aqg(hf:∀c,Gl c->m.fr c):hs m {m with fr:=Gl}:=
 ⟨rfl,rfl,rfl,cP _,λ_ _ _=>rfl,λ_ _ h=>h,λ_ _ H h=>H (aA5 hf h),λ_=>cP _,λ_ _ h=>⟨h,rfl,rfl,rfl⟩⟩
theorem aCH{m:a7}{Gl:Nat->Prop}(h:dW T m)(hf:∀c,Gl c->m.fr c):dW T {m with fr:=Gl} where
 os:=h.os
 tape:=h.tape
 output:=h.output
 size:=h.size
 base:=h.base
 obj id o ho:=(h.obj id o ho).ev (aqg hf).zero rfl rfl rfl
 eO id o ho hm:=⟨(h.eO id o ho hm).1,λH=>(h.eO id o ho hm).2 (hf _ H)⟩
 frlt c H:=h.frlt c (hf c H)
 inj:=h.inj
theorem aur{m:a7}{M:World}{c:Nat}(h:dW T m)(j:m.fr c)(v:T.heap.size<=c)(z:M.os=m.w.os)(u:M.tape=m.w.tape)(Q:M.output=m.w.output)(af:M.heap.size=m.w.heap.size)
  (f:∀x,x≠c->M.heap[x]?=m.w.heap[x]?):dW T {m with w:=M} where
 os:=z.trans h.os
 tape:=u.trans h.tape
 output:=Q.trans h.output
 size:=ob h.size (EA af.symm)
 base x H:=(f x J).trans (h.base x H)
 obj id o ho:=by
  have A:m.σ id≠c:=by
   intro e;cases hm:o.iF with
   |true=>exact(h.eO id o ho hm).2 (e▸j)
   |false=>exact(h.obj id o ho).calm hm (.inl (e▸j))
  exact(h.obj id o ho).ev (m':={m with w:=M}) ⟨λx _ n=>⟨f x λe=>n (.inl (e▸j)),n⟩,λ_=>cP _,λ_ _ h=>⟨h,rfl,rfl,rfl⟩⟩ rfl rfl (f _ A)
 eO:=h.eO
 frlt x H:=by rw[show({m with w:=M}:a7).w.heap.size=m.w.heap.size from af];exact h.frlt x H
 inj:=h.inj
theorem agj(aB:dW T m){own:Nat->Prop}{x:V}{v:Value}{new:dy}{rd fr:aD}(h:gP m.blk x=some (new,rd,fr))(hv:c9 m x v)(af:xP m own fr):
  ∃ax cx,v=.slice ax (I new) cx/\(∀z,r9 x=some z->∀e∈new,I e=z)/\
   (new≠[]->∃b o N,ax=some ⟨b,o,none⟩/\Pw (dd m.w own) new.flatten N/\ ∀(X:Nat) (u:Value),N[X]?=some u->m.w.cell? ⟨b,o+X,none⟩=some u):=by
 have row:∀(c E j len:Nat) (H:Array Value) (L:TypeId) (Y:Nat×Nat) (ps:dy),m.w.heap[c]?=some (.cells H L Y)->Pw (dd m.w own) ps.flatten ((H.toList.drop (E*j)).take (I ps*j))->
   ∃b o N,some (⟨c,E*j,none⟩:Addr)=some ⟨b,o,none⟩/\Pw (dd m.w own) ps.flatten N/\ ∀(X:Nat) (u:Value),N[X]?=some u->m.w.cell? ⟨b,o+X,none⟩=some u:=by
  intro c E j len H L Y ps hh hp;refine⟨c,E*j,_,rfl,hp,λX u Q=>?_⟩;rw[sB]at Q;split at Q
  .rw[KP hh];simpa using Q
  cases Q
 unfold gP at h;split at h
 .cases h;exact⟨none,0,VL hv,λz hz=>by simp[r9]at hz,λh=>(h rfl).elim⟩
 .rename_i A;cases h;obtain⟨hp⟩:gh m _ v:=hv;generalize o9:(PV.sl new)=pv at hp;cases hp<;>cases o9
  .exact⟨_,_,rfl,λz hz=>by simp[r9]at hz,λh=>(h rfl).elim⟩
  rename_i b o O j f hm ho hl B nN GI;refine⟨_,_,rfl,λz hz=>by simp[r9]at hz,λ_=>⟨b,o,(List.range (I new.flatten)).map f,rfl,⟨aG,λX y u p q=>?_⟩,λX u q=>?_⟩⟩
  .rw[fX,wZ ((bN.1 p).1)]at q;simp at q;subst q;exact(GI X y p).less af.1
  have Q:X<I new.flatten:=by have:=(bN.1 q).1;simpa using this
  rw[fX,wZ Q]at q;simp at q;subst q;exact nN X _ (vA Q)
 .rename_i id g z E len;cases hv with
  |hsl ad O hg hl hm Qv=>
   split at h
   .rename_i g' L j A F;split at h
    .rename_i R;cases h;obtain⟨H,hh,mF,B,kK,rR,dV,eD⟩:=aB.obj id _ (by rw[F]);obtain⟨e1,e2,e3⟩:=Qv j (by rw[F];exact R.1) (by rw[F];rfl);have M:I ((A.drop E).take len)=len:=by simp;omega
     refine⟨some ad,O,by rw[M],λz' xD e D=>?_,λaN=>?_⟩
     .simp[r9]at xD;subst xD;rw[<-e1];exact B e (Ar (B9 D))
     have:0<len:=by
      cases len with
      |zero=>simp at aN
      |succ n=>omega
     exact aIF
    cases h
   .rename_i g' L j A F;split at h
    .rename_i R;cases h;obtain⟨H,Y,hh,mF,B,kK,rR,dV,eD,_⟩:=aB.obj id _ (by rw[F]);obtain⟨e1,e2,e3⟩:=Qv j (by rw[F];exact R.1) (by rw[F];rfl);have M:I ((A.drop E).take len)=len:=by simp;omega
     refine⟨some ad,O,by rw[M],λz' xD e D=>?_,λaN=>?_⟩
     .simp[r9]at xD;subst xD;rw[<-e1];exact B e (Ar (B9 D))
     have:0<len:=by
      cases len with
      |zero=>simp at aN
      |succ n=>omega
     exact aIF
    cases h
   .rename_i g' L j A F;split at h
    .rename_i R;split at h
     .rename_i ps q hq;cases h;obtain⟨H,hh,mF,B,kK,rR,dV,eD⟩:=aB.obj id _ (by rw[F]);obtain⟨e1,e2,e3⟩:=Qv j (by rw[F];exact R.1) (by rw[F];rfl);have ab:I ((A.drop E).take len)=len:=by simp;omega
      have bQ:I new=len:=by rw[ace hq,ab]
      have Z:len*j<=I (H.toList.drop (E*j)):=by
       simp;have h1:E*j+len*j<=I A*j:=by rw[<-lR];exact oo _ R.2
       have h2:I A*j<=m.κ id*j:=oo _ kK;omega
      have mg:∀(X:Nat) (e:dR),new[X]?=some e->Pw (dd m.w own) e (((H.toList.drop (E*j)).drop (X*j)).take j):=by intro X e D;obtain⟨x,q',h1,h2,h3⟩:=aaU hq D;exact Mw (T:=dd m.w own) (λa b h=>h.app) (λa b r v e1 e2 e3=>M7 aB _ e1 e2 e3) h2 ⟨af.1,λi hi=>af.2 i (h3 i hi)⟩ (acK (λe D=>B e (Ar (B9 D))) (JP B (eE.pw.1 eD) R.2) h1)
      have Ix:∀e∈new,I e=j:=by intro e D;obtain⟨X,Q⟩:=gJ D;have:=(mg X e Q).1;have h1:(X+1)*j<=len*j:=oo _ (by rw[<-bQ];exact(bN.1 Q).1);rw[lR]at h1;simp at this Z;omega
      refine⟨some ad,O,by rw[bQ],λz' xD e D=>?_,λaN=>?_⟩
      .simp[r9]at xD;subst xD;rw[<-e1];exact Ix e D
      have:0<len:=by rw[<-bQ];exact iW.2 aN
      rw[e2 (.inr this)];refine row (m.σ id) E j len H L _ _ hh ?_;rw[bQ];have:=aaT Ix (by rw[bQ];exact Z) mg;rwa[bQ]at this
     cases h
    cases h
   split at h
   .rename_i xt;cases h;exact⟨some ad,O,by rw[xt];rfl,λz' _ e D=>by simp at D,λh=>(h rfl).elim⟩
   cases h
 cases h
theorem aAO{w:World}{own:Nat->Prop}(h:Pw (dd w own) N F):∀u∈F,u.oneCell':=nl
theorem T7{ids:aD}(h:vF m.blk ids=some u)(id:Nat):(app u m.blk id).1=(m.blk id).1:=by
 rcases AD h id with⟨e,_⟩|⟨_,p,q,a,b,e⟩
 .exact congrArg Prod.fst e
 have:=congrArg Prod.fst e;exact this
theorem atg{m:a7}{id:Nat}{o:gr}{M:World}(ho:(m.blk id).2=some o)(hm:o.iF)(z:M.os=m.w.os)(H:M.tape=m.w.tape)(Q:M.output=m.w.output)(af:M.heap.size=m.w.heap.size)
  (h:∀x,x≠m.σ id->M.heap[x]?=m.w.heap[x]?):hs m {m.sG id with w:=M} where
 os:=z
 tape:=H
 output:=Q
 size:=EA af.symm
 keep c _ f:=h c λe=>f ⟨id,o,ho,hm,e.symm⟩
 iF:=(NN ho hm).iF
 less:=(NN ho hm).less
 gen:=(NN ho hm).gen
 ref:=(NN ho hm).ref
theorem aFd{m:a7}(aB:dW T m){id s:Nat}{O:gr}{y:Array Value}{L:Nat}{f:dy}(ho:(m.blk id).2=some O)(hm:O.iF)(R:0<j)(Z:M.os=m.w.os)(B:M.tape=m.w.tape)(Q:M.output=m.w.output)(af:M.heap.size=m.w.heap.size)
  (D:∀x,x≠m.σ id->M.heap[x]?=m.w.heap[x]?) (X:M.heap[m.σ id]?=some (.cells y L (0,0))) (u:∀e∈f,I e=j) (hl:I f<=m.κ id) (E:m.κ id<=maxLen) (Y:y.size=m.κ id*j)
  (hp:Pw (dd m.w m.own) f.flatten (y.toList.take (I f*j))):
  ∃n,n.w=M/\dW T n/\hs m n/\n.fr=m.fr/\n.blk=dz (dz m.blk id ((m.blk id).1,none)) s ((m.blk s).1+1,some (.arr L j f))/\
   c9 n (.one (.hsl s ((m.blk s).1+1) j 0 (I f))) (.slice (some ⟨m.σ id,0,none⟩) (I f) (m.κ id)):=by
 have A:=(aB.eO id O ho hm).1;have F:hs m ((({m.sG id with w:=M}:a7)).install s (m.σ id) (m.κ id) (.arr L j f)):=VF (atg ho hm Z B Q af D) (.inr rfl) (.inr ⟨id,O,ho,hm,rfl⟩);have N:((({m.sG id with w:=M}:a7)).blk s).1=(m.blk s).1:=by
  simp[a7.sG,bG]
  grind
 have v:((({m.sG id with w:=M}:a7)).install s (m.σ id) (m.κ id) (.arr L j f)).σ s=m.σ id:=aux
 have H:((({m.sG id with w:=M}:a7)).install s (m.σ id) (m.κ id) (.arr L j f)).κ s=m.κ id:=aux
 refine⟨_,rfl,SX (aur (agK aB ho hm) (.inr rfl) A Z B Q af D) (.inr rfl) A ?_,F,?_,?_,?_⟩
 .exact⟨y,by rw[v];exact X,R,u,by rw[H];exact hl,by rw[H];exact E,by rw[H];exact Y,eJ.ev F.zero (eJ.pw.2 hp)⟩
 .funext x;simp only[a7.install,a7.sG];apply propext;constructor
  .grind
  intro h;exact⟨.inl h,λe=>(aB.eO id O ho hm).2 (e▸h)⟩
 .simp[a7.install];rw[N];rfl
 refine c9.one.2 (.hsl _ _ ?_ hl E λz h1 h2=>?_)
 .simp[a7.install,bG,if_true];rw[N];exact cP _
 have:mx (((({m.sG id with w:=M}:a7)).install s (m.σ id) (m.κ id) (.arr L j f)).blk s)=some j:=by simp[a7.install,bG,mx]
 grind
theorem asN{P:Program}(w:World)(t L e:TypeId)(i:TypeInfo)(z:Value)(f:P.underlying t=some (.slice e))(x:P.info? e=some i)(y:i.zero=some z)
  (A:Option Addr) (a:Addr) (n c:Nat) (N:List Value) (hl:I N=n*i.size) (u:∀j v,N[j]?=some v->w.cell? (a.add j)=some v)
  (m:0<n) (H:(n:Int)<=9223372036854775807) (Q:n*i.bytes<=281474976710656):
  (Builtin.append_ #[t,t] L #[.slice A 0 0,.slice (some a) n c]).run P w=
   .ok (.slice (some ⟨w.heap.size,0,none⟩) n (grownCap w n 0 e)) (w.drew.alloc (.cells (N.toArray++Builtin.zeroCells z.cells (grownCap w n 0 e-n)) e)):=by
 cases A with
 |none=>exact run_append_nil w t L e i z f x y a n c N hl u m H Q
 |some b=>
  have h:=run_append_grow w t L e i z f x y b 0 0 [] aG (λj v h=>by simp at h) a n c N hl u J J (by rw[lh,nextslicecap_zero m];exact Q)
  grind
theorem afl{v f:a7}{a:Act}{o:Oper}{D:lq}{s e h:Nat}{cells:List Value}{Z:Value}{W:World}
  (R:(execOp a.eval o).run P m.w=.ok (.value (.slice (some ⟨f.w.heap.size,0,none⟩) (I A) h)) W)
  (y:f.w.drew.alloc (.cells (cells.toArray++Builtin.zeroCells Z.cells (h-I A)) e)=W)
  (u:dW T f) (O:hs m f) (yC:f.fr=m.fr) (N:0<j) (Q:Z.cells.size=j) (Y:∀x∈A,I x=j) (F:I cells=I A*j)
  (he:hs v f) (qd:Pw (dd v.w v.own) A.flatten cells) (H:I A<=h) (z:h<=maxLen) (E:(f.blk s).1=(m.blk s).1) (X:app D m.blk=f.blk):
  iK P T a.eval o m (.one (.hsl s ((m.blk s).1+1) j 0 (I A))) (D++[(s,((m.blk s).1+1,some (.arr e j A)))]):=by
 have hg:jQ f.w W:=by rw[<-y];exact(jQ.drew _).trans (jQ.alloc _ _)
 have n:hs f (f.oQ W s f.w.heap.size h (.arr e j A)):=VH hg (cP _);have B:=ac7 (m:=f) (M:=W) (s:=s) (c:=f.w.heap.size) (L:=e) (j:=j) (A:=A) H z;rw[E]at B;refine⟨_,f.oQ W s f.w.heap.size h (.arr e j A),.inl R,TF hg (cP _) (by rw[<-y];simp) u ⟨_,by rw[Me,awq,<-y];exact heap_alloc_new f.w.drew _,N,Y,by rw[x_];exact H,by rw[x_];exact z,?_,?_⟩,O.trans n,(SS u (cP _)).trans yC,by rw[Un,avG,X,E],B⟩
 .rw[x_,Array.size_append,aeA,size_zeroCells,Q,F,<-lR];congr 1;omega
 rw[Array.toList_append,List.toList_toArray,<-F,T_];exact eJ.ev (he.trans n).zero (eJ.pw.2 qd)
section
variable {m:a7} {B:bP} {a:Act} {o:Oper} (aB:dW T m) (hr:ll m B a.tmps)
include aB hr
theorem ayf{c:Call}{d:Operand}{d':fc}{t e:TypeId}{s bytes:Nat}{rd:aD}(ho:o.op=.call c)(hc:c.callee=.builtin .append)(bd:c.args= #[d,x])(mT:c.argTypes= #[t,t])
  (he:CQ P t=some (e,j,bytes,z)) (hd:dr d=some d') (hx:dr x=some Z) (f:jl m.blk s e j bytes (ev B d') (ev B Z)=.done v u rd):iK P T a.eval o m v u:=by
 obtain⟨i,zv,ht,hi,af,hb,⟨kO,Qm⟩,Ds,KH,mj,eD⟩:=Vs he;have xy:=gv hd hr;have nV:=gv hx hr;have run:∀(y:Value) (M:World),(Builtin.append_ #[t,t] o.type #[a.eval d,a.eval x]).run P m.w=.ok y M->(execOp a.eval o).run P m.w=.ok (.value y) M:=by intro y M h;simp[execOp,ho,resolve,hc,bd,mT,invoke,builtin,h]
 unfold jl at f;split at f
 .cases f
 rename_i new bi fr eo;split at f
 .cases f
 rename_i a3;split at f
 .cases f
 rename_i L vY;have E0:=aqh aB vY;have Kh:=XI vY;have rT:=ZU aB vY;obtain⟨ax,cx,Fi,a4,Ir⟩:=agj aB eo nV rT;have im:∀e∈new,I e=j:=by
  have:r9 (ev B Z)=some j\/gk j new:=Classical.not_not.1 a3;rcases this with h|h
  .exact a4 j h
  intro e he;have:=mz.1 h e he
  exact aIE
 have Zp:I new.flatten=I new*j:=Lg im;have nz:∀ {az},a.eval d=.slice az 0 0-> ¬I new=0->I new*bytes<=pE->iK P T a.eval o m (.one (.hsl s ((m.blk s).1+1) j 0 (I new))) (L++[(s,((m.blk s).1+1,some (.arr e j new)))]):=by
  intro az Y N nU;have aN:new≠[]:=λh=>N ut;obtain⟨b,E,n,rfl,qd,Kb⟩:=Ir aN;unfold pE at nU;have mU:I n=I new*i.size:=by rw[qd.1,Zp,af]
  have UF:I new<=maxLen/\(I new:Int)<=9223372036854775807:=by have:I new<=I new*bytes:=W1 _ Qm;simp only[maxLen];omega
  have sP:=asN (P:=P) m.w t o.type e i zv ht hi Ds az ⟨b,E,none⟩ (I new) cx n mU (λaw v hj=>by rw[Addr.add_lit];exact Kb aw v hj) J UF.2 (by rw[hb];omega);exact afl (f:=m.with L) (run _ _ aIi) rfl E0 Kh rfl kO KH im (mU.trans (by rw[af])) (hs.refl _) qd (grownCap_ge m.w (I new) 0 e) (grownCap_le_maxLen m.w (I new) 0 e UF.1) (T7 vY s) rfl
 split at f
 ·
  rename_i Qn;rw[Qn]at xy;have Y:=VL xy;split at f
  .rename_i N;cases f;refine⟨.slice none 0 0,m.with u,.inl (run _ _ ?_),E0,Kh,rfl,rfl,pJ .nils⟩;rw[Y,Fi,N];cases ax<;>simp[Builtin.append_,run_underlying ht,sizeOf,typeInfo,hi,Builtin.lenOf,Builtin.firstCells,loadCells,loadCellsFrom,a7.with]
  rename_i N;split at f
  .rename_i nU;cases f;exact nz Y N nU
  cases f
 ·
  rename_i Qn;rw[Qn]at xy;obtain⟨az,Y⟩:=asM xy;split at f
  .cases f
  rename_i N;split at f
  .rename_i nU;cases f;exact nz Y N nU
  cases f
 .rename_i id g zB len Qn;rw[Qn]at xy;split at f
  .rename_i g' R F A X;split at f
   .rename_i vV;obtain⟨ke,rfl,rfl,ab,nU,a9⟩:=vV;cases f;have bb:id∉fr:=by simpa using a9
    have cU:(m.with L).blk id=m.blk id:=by
     rcases AD vY id with⟨e,_⟩|⟨kh,_⟩
     .exact e
     exact(bb kh).elim
    have bh:((m.with L).blk id).2=some (.arr R F A):=by rw[cU,X]
    obtain⟨H,hh,_,ag,hl,v7,dV,a1⟩:=E0.obj id _ bh;have ap:gh m _ (a.eval d):=xy;generalize Y:a.eval d=dv at ap;cases ap with
    |hsl ad O hg A6 bk Qw=>
     obtain⟨f1,f2,f3⟩:=Qw F (by rw[X];exact ke) (by rw[X];rfl);have Q:O=m.κ id:=by rw[<-f3,lh]
     have sK:=f2 (.inl rfl);rw[EF]at sK;subst sK;unfold pE at nU;have EP:=T7 vY s;have bg:=T7 vY id;have QC:len*F<=I A*F:=oo _ ab;have kK:I A*F<=m.κ id*F:=oo _ hl;have ZP:Pw (dd (m.with L).w (m.with L).own) (A.take len).flatten (H.toList.take (len*F)):=by rw[MF ag];have h1:=(eJ.pw.1 a1).take (len*F);rw[Gi,zx QC]at h1;exact h1
     have a6:I (A.take len)=len:=fd
     have ar:∀x∈A.take len++new,I x=F:=by
      intro x hx;rcases iI.1 hx with hx|hx
      .exact ag x (B9 hx)
      exact im x hx
     have be:len+I new<=(len+I new)*bytes:=W1 _ Qm;have zS:∀q:ajR,app (L++[(id,(g,none)),q]) m.blk=dz (dz (m.with L).blk id (((m.with L).blk id).1,none)) q.1 q.2:=by intro q;rw[Un];simp only[app];rw[cU,X,ke];rfl
     have Ip:I (A.take len++new)=len+I new:=by rw[iM,a6]
     by_cases D:len+I new<=O
     ·
      have av:∀(M:World) (yg:Array Value),(execOp a.eval o).run P m.w=.ok (.value (.slice (some ⟨m.σ id,0,none⟩) (len+I new) O)) M->M.os=m.w.os->M.tape=m.w.tape->M.output=m.w.output->M.heap.size=m.w.heap.size->
        (∀x,x≠m.σ id->M.heap[x]?=m.w.heap[x]?)->M.heap[m.σ id]?=some (.cells yg R (0,0))->yg.size=H.size->Pw (dd (m.with L).w (m.with L).own) (A.take len++new).flatten (yg.toList.take ((len+I new)*F))->
        iK P T a.eval o m (.one (.hsl s ((m.blk s).1+1) F 0 (len+I new))) (L++[(id,(g,none)),(s,((m.blk s).1+1,some (.arr R F (A.take len++new))))]):=by
       intro M yg sP q1 q2 q3 q4 q5 q6 q7 q8;obtain⟨m',e1,e2,e3,e4,e5,e6⟩:=aFd (s:=s) E0 bh rfl kO q1 q2 q3 q4 q5 q6 ar (by rw[Ip];rw[Q]at D;exact D) v7 (by rw[q7];exact dV) (by rw[Ip];exact q8);rw[Ip]at e6;have a2:((m.with L).blk s).1=(m.blk s).1:=EP;rw[a2]at e6 e5;refine⟨_,m',.inl (by rw[e1];exact sP),e2,Kh.trans e3,e4,by rw[e5,zS],?_⟩;rw[Q];exact e6
      by_cases N:new=[]
      .subst N;have a0:(execOp a.eval o).run P m.w=.ok (.value (.slice (some ⟨m.σ id,0,none⟩) (len+I ([]:dy)) O)) m.w:=by
        apply run;rw[Y,Fi];have aL:len<=O:=A6;cases ax<;>simp[Builtin.append_,run_underlying ht,sizeOf,typeInfo,hi,Builtin.lenOf,Builtin.firstCells,loadCells,loadCellsFrom,aL,storeCells]
       exact av m.w H a0 rfl rfl rfl rfl (λ_ _=>rfl) hh rfl (by simpa using ZP)
      obtain⟨b,E,n,rfl,qd,Kb⟩:=Ir N;have mU:I n=I new*i.size:=by rw[qd.1,Zp,af]
      have am:len*i.size+I n<=H.size:=by rw[mU,af,dV,<-lR];rw[Q]at D;exact oo _ D
      have sP:=run_append_room (P:=P) m.w t o.type R i ht hi (m.σ id) len O H hh ⟨b,E,none⟩ (I new) cx n mU (λaw v hj=>by rw[Addr.add_lit];exact Kb aw v hj) (aAO qd) D am;have a5:(execOp a.eval o).run P m.w=.ok (.value (.slice (some ⟨m.σ id,0,none⟩) (len+I new) O)) _:=run _ _ aIi;have aF:len*i.size<=H.size:=ob (Nat.le_add_right _ _) am;refine av _ _ a5 ?_ ?_ ?_ ?_ (λx hx=>setRow_other m.w (m.σ id) x _ hx) (WU hh) ?_ ?_
      .rfl
      .rfl
      .rfl
      .exact setRow_size m.w _ _
      .rw[aeA,iM,iM,ko,sD,RE];omega
      have h1:=ZP.append qd;rw[<-H9]at h1;have:(H.toList.take (len*i.size)++n++H.toList.drop (len*i.size+I n)).take ((len+I new)*F)=H.toList.take (len*F)++n:=by
       rw[af];have eh:I (H.toList.take (len*F))=len*F:=by rw[ko,RE];rw[af]at aF;omega
       have Kc:I (H.toList.take (len*F)++n)=(len+I new)*F:=by rw[iM,eh,mU,af,lR]
       rw[W5 (EA Kc.symm)];exact eT (EA Kc)
      simp only[List.toList_toArray]at this |-;rw[this];exact h1
     ·
      have N:new≠[]:=λe=>by subst e;simp at D;omega
      obtain⟨b,E,n,rfl,qd,Kb⟩:=Ir N;have mU:I n=I new*i.size:=by rw[qd.1,Zp,af]
      have ak:I (H.toList.take (len*F))=len*i.size:=by rw[af,ko,RE];have bf:H.size=m.κ id*F:=dV;omega
      have sP:=run_append_grow (P:=P) m.w t o.type R i zv ht hi Ds ⟨m.σ id,0,none⟩ len O (H.toList.take (len*F)) ak (λaw v hj=>by
        rw[Addr.add_lit,lh];have:(m.w.cell? ⟨m.σ id,aw,none⟩)=H[aw]? :=KP hh;rw[this];rw[sB]at hj;split at hj
        .simpa using hj
        cases hj) ⟨b,E,none⟩ (I new) cx n mU (λaw v hj=>by rw[Addr.add_lit];exact Kb aw v hj) J J (growslice_fits J (by rw[hb];omega))
      have UF:len+I new<=maxLen:=by simp only[maxLen];omega
      have h1:=ZP.append qd;rw[<-H9]at h1;have an:hs (m.with L) {(m.with L).sG id with fr:=m.fr}:=(NN bh rfl).trans (aqg (λc hc=>.inl hc));have bJ:=afl (P:=P) (T:=T) (a:=a) (o:=o) (D:=L++[(id,(g,none))]) (s:=s) (e:=R) (m:=m) (f:={(m.with L).sG id with fr:=m.fr}) (A:=A.take len++new) (Z:=zv) (cells:=H.toList.take (len*F)++n) (h:=grownCap m.w (len+I new) O R) (W:=m.w.drew.alloc (.cells ((H.toList.take (len*F)++n).toArray++Builtin.zeroCells zv.cells (grownCap m.w (len+I new) O R-(len+I new))) R))
       (by rw[Ip,<-List.append_toArray];exact run _ _ aIi) (by rw[Ip];rfl) (aCH (Gl:=m.fr) (agK E0 bh rfl) (λc hc=>.inl hc)) (Kh.trans an) rfl kO KH ar (by rw[iM,ak,mU,af,Ip,lR]) an h1 (by rw[Ip];exact grownCap_ge m.w (len+I new) O R) (grownCap_le_maxLen m.w (len+I new) O R UF)
       (by simp only[a7.sG,bG];split<;>first|exact EP|(rename_i e';subst e';exact EP)) (by rw[Un];show dz _ id (g,none)=dz _ id (((m.with L).blk id).1,none);rw[cU,X,ke];rfl)
      rw[Ip,k9]at bJ;exact bJ
   cases f
  cases f
 cases f
end
end Go.Abs
