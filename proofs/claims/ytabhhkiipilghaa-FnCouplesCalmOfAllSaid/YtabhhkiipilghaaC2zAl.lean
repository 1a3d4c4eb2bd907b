import Derived.Test.YtabhhkiipilghaaC2zWWords
import Derived.Test.YtabhhkiipilghaaC2zWLast
import Derived.Test.YtabhhkiipilghaaC2zWTab
import Derived.Test.YtabhhkiipilghaaC2zWFour
import Derived.Test.YtabhhkiipilghaaC2zWQPut
import Derived.Test.YtabhhkiipilghaaC2zWApart
import Derived.Test.YtabhhkiipilghaaC2zWArr
import Derived.Test.YtabhhkiipilghaaC2zWZeros
import Derived.Test.YtabhhkiipilghaaC2zWFoot
import Derived.Test.YtabhhkiipilghaaC2zWKept
import Derived.Test.YtabhhkiipilghaaC2zWShare
import Derived.Test.YtabhhkiipilghaaC2zWN
import Derived.Test.YtabhhkiipilghaaC2zWFootNe
import Derived.Test.YtabhhkiipilghaaC2zWAt
import Derived.Test.YtabhhkiipilghaaC2zWEqStruct
import Derived.Test.YtabhhkiipilghaaC2zWRepsOne
import Derived.Test.YtabhhkiipilghaaC2zWInv
import Derived.Test.YtabhhkiipilghaaC2zWInvWords
import Derived.Test.YtabhhkiipilghaaC2zWGuard
import Derived.Test.YtabhhkiipilghaaC2zWNEv
import Derived.Test.YtabhhkiipilghaaC2zWMore
import Derived.Test.YtabhhkiipilghaaC2zHG
import Derived.Shelf.Abstract
import Derived.WalkSpells
import Derived.Laws.CopyOwn
namespace Go.Proofs.Ytabhhkiipilghaa.H
open Go.RowKit Go.Proofs.YtabhhkiipilghaaW.PrintWords Go.Proofs.YtabhhkiipilghaaW.PrintLast Go.Proofs.YtabhhkiipilghaaW.PrintMore
abbrev ba' := @below_alloc
abbrev bd' := @pw_below_drewN
abbrev be' := @below_drew1
abbrev bs' := @below_set
abbrev kn' := @blk_drewN
abbrev kd' := @blk_drew
abbrev ka' := @blk_alloc
abbrev ra' := @Kd.R_alloc
abbrev rn' := @Kd.R_drewN
abbrev rw' := @Kd.R_drew
abbrev ca' := @Kd.C_alloc
abbrev cn' := @Kd.C_drewN
abbrev cd' := @Kd.C_drew
abbrev am' := @Aside0.mk
abbrev sa' := @List.setIfInBounds_toArray
abbrev sb' := @List.set_cons_zero
abbrev sc' := @List.set_cons_succ
abbrev bl' := @World.block_lt_of_cell?
abbrev od' := @of_decide_eq_true
abbrev dt' := @decide_eq_true
abbrev df' := @decide_eq_false
abbrev bz' := @below_size
abbrev bf' := @blk_frozen
abbrev bc' := @blk_cell
abbrev bb' := @blk_below
abbrev bt' := @below_step
abbrev os' := @Option.some.inj
abbrev cb' := @Kd.C_below
abbrev rb' := @Kd.R_below
theorem xb' {P : Prop} (h : P := by repeat (first|(with_reducible first|exact HB.out|apply ba'|apply bd'|apply be')|exact HB.out)) : P := h
theorem xa' {P : Prop} (h : P := by first|(with_reducible assumption)|assumption) : P := h
theorem xl' {P : Prop} (h : P := by (try simp only[List.map_toArray,List.map_cons,List.map_nil]);first|done|rfl|(simp only[List.length_drop,List.length_take];rfl)) : P := h
theorem xs' {P : Prop} (h : P := by first|rfl|(simp;done)|(simp[*];done)) : P := h
theorem xk' {P : Prop} (h : P := by kernel_rfl) : P := h
theorem yb' {Qg P : Prop} (g : Qg) (z : Qg → P := by intro g_; repeat (first|(with_reducible first|exact HB.out|apply ba'|apply bd'|apply be'|refine bs' ?_ g_)|exact HB.out)) : P := z g
theorem y2' {Qg Qh P : Prop} (g : Qg) (h : Qh) (z : Qg → Qh → P := by intro g_ h_; repeat (first|(with_reducible first|exact HB.out|apply ba'|apply bd'|apply be'|refine bs' ?_ g_|refine bs' ?_ h_)|exact HB.out)) : P := z g h
theorem y3' {Qg Qh Qi P : Prop} (g : Qg) (h : Qh) (i : Qi) (z : Qg → Qh → Qi → P := by intro g_ h_ i_; repeat (first|(with_reducible first|exact HB.out|apply ba'|apply bd'|apply be'|refine bs' ?_ g_|refine bs' ?_ h_|refine bs' ?_ i_)|exact HB.out)) : P := z g h i
theorem y4' {Qg Qh Qi Qj P : Prop} (g : Qg) (h : Qh) (i : Qi) (j : Qj) (z : Qg → Qh → Qi → Qj → P := by intro g_ h_ i_ j_; repeat (first|(with_reducible first|exact HB.out|apply ba'|apply bd'|apply be'|refine bs' ?_ g_|refine bs' ?_ h_|refine bs' ?_ i_|refine bs' ?_ j_)|exact HB.out)) : P := z g h i j
theorem y5' {Qg Qh Qi Qj Qk P : Prop} (g : Qg) (h : Qh) (i : Qi) (j : Qj) (k : Qk) (z : Qg → Qh → Qi → Qj → Qk → P := by intro g_ h_ i_ j_ k_; repeat (first|(with_reducible first|exact HB.out|apply ba'|apply bd'|apply be'|refine bs' ?_ g_|refine bs' ?_ h_|refine bs' ?_ i_|refine bs' ?_ j_|refine bs' ?_ k_)|exact HB.out)) : P := z g h i j k
theorem y6' {Qg Qh Qi Qj Qk Ql P : Prop} (g : Qg) (h : Qh) (i : Qi) (j : Qj) (k : Qk) (l : Ql) (z : Qg → Qh → Qi → Qj → Qk → Ql → P := by intro g_ h_ i_ j_ k_ l_; repeat (first|(with_reducible first|exact HB.out|apply ba'|apply bd'|apply be'|refine bs' ?_ g_|refine bs' ?_ h_|refine bs' ?_ i_|refine bs' ?_ j_|refine bs' ?_ k_|refine bs' ?_ l_)|exact HB.out)) : P := z g h i j k l
theorem kk' {Qg P : Prop} (g : Qg) (z : Qg → P := by intro g_; (with_reducible repeat (first|refine kn' ?_ _|refine kd' ?_|refine ka' ?_ _));exact g_) : P := z g
theorem kr' {Qg P : Prop} (g : Qg) (z : Qg → P := by intro g_; (with_reducible repeat (first|apply ra'|apply rn'|apply rw'));exact g_) : P := z g
theorem kN' {Qg P : Prop} (g : Qg) (z : Qg → P := by intro g_; (with_reducible repeat (first|apply Kd.N_alloc|apply Kd.N_drewN|apply Kd.N_drew));exact g_) : P := z g
theorem kV' {Qg P : Prop} (g : Qg) (z : Qg → P := by intro g_; (with_reducible repeat (first|apply Kd.V_alloc|apply Kd.V_drewN|apply Kd.V_drew));exact g_) : P := z g
theorem kS' {Qg P : Prop} (g : Qg) (z : Qg → P := by intro g_; (with_reducible repeat (first|apply Kd.S_alloc|apply Kd.S_drewN|apply Kd.S_drew));exact g_) : P := z g
theorem kx' {Qg P : Prop} (g : Qg) (z : Qg → P := by intro g_; repeat (first|(with_reducible exact g_)|(with_reducible refine ca' ?_ _)|(with_reducible refine cn' ?_ _)|(with_reducible refine cd' ?_)|exact g_)) : P := z g
theorem kc' {Qg P : Prop} (g : Qg) (z : Qg → P := by intro g_; repeat (first|exact g_|(with_reducible refine ca' ?_ _)|(with_reducible refine cn' ?_ _)|(with_reducible refine cd' ?_))) : P := z g
end Go.Proofs.Ytabhhkiipilghaa.H
