import Derived.Test.YtikjdmiohpdnaaaC16zWWords
import Derived.Test.YtikjdmiohpdnaaaC16zWLast
import Derived.Test.YtikjdmiohpdnaaaC16zWTab
import Derived.Test.YtikjdmiohpdnaaaC16zWFour
import Derived.Test.YtikjdmiohpdnaaaC16zWQPut
import Derived.Test.YtikjdmiohpdnaaaC16zWApart
import Derived.Test.YtikjdmiohpdnaaaC16zWArr
import Derived.Test.YtikjdmiohpdnaaaC16zWZeros
import Derived.Test.YtikjdmiohpdnaaaC16zWFoot
import Derived.Test.YtikjdmiohpdnaaaC16zWKept
import Derived.Test.YtikjdmiohpdnaaaC16zWShare
import Derived.Test.YtikjdmiohpdnaaaC16zWN
import Derived.Test.YtikjdmiohpdnaaaC16zWFootNe
import Derived.Test.YtikjdmiohpdnaaaC16zWAt
import Derived.Test.YtikjdmiohpdnaaaC16zWEqStruct
import Derived.Test.YtikjdmiohpdnaaaC16zWRepsOne
import Derived.Test.YtikjdmiohpdnaaaC16zWInv
import Derived.Test.YtikjdmiohpdnaaaC16zWInvWords
import Derived.Test.YtikjdmiohpdnaaaC16zWGuard
import Derived.Test.YtikjdmiohpdnaaaC16zWNEv
import Derived.Test.YtikjdmiohpdnaaaC16zWMore
import Derived.Test.YtikjdmiohpdnaaaC16zHG
import Derived.Shelf.Abstract
import Derived.WalkSpells
import Derived.Laws.CopyOwn
namespace Go.Proofs.Ytikjdmiohpdnaaa.H
open Go.RowKit Go.Proofs.YtikjdmiohpdnaaaW.PrintWords Go.Proofs.YtikjdmiohpdnaaaW.PrintLast Go.Proofs.YtikjdmiohpdnaaaW.PrintMore
abbrev ba' := @below_alloc
abbrev bd' := @pw_below_drewN
abbrev be' := @below_drew1
abbrev bs' := @below_set
abbrev kn' := @blk_drewN
abbrev kd' := @blk_drew
abbrev ka' := @blk_alloc
abbrev ra' := @Kd.R_alloc
abbrev rn' := @Kd.R_drewN
abbrev rw' := @Kd.R_drew
abbrev ca' := @Kd.C_alloc
abbrev cn' := @Kd.C_drewN
abbrev cd' := @Kd.C_drew
abbrev am' := @Aside0.mk
abbrev sa' := @List.setIfInBounds_toArray
abbrev sb' := @List.set_cons_zero
abbrev sc' := @List.set_cons_succ
abbrev bl' := @World.block_lt_of_cell?
theorem xb' {P : Prop} (h : P := by repeat (first|(with_reducible first|exact HB.out|apply ba'|apply bd'|apply be')|exact HB.out)) : P := h
theorem xa' {P : Prop} (h : P := by first|(with_reducible assumption)|assumption) : P := h
theorem xl' {P : Prop} (h : P := by (try simp only[List.map_toArray,List.map_cons,List.map_nil]);first|done|rfl|(simp only[List.length_drop,List.length_take];rfl)) : P := h
theorem xs' {P : Prop} (h : P := by first|rfl|(simp;done)|(simp[*];done)) : P := h
theorem xk' {P : Prop} (h : P := by kernel_rfl) : P := h
theorem yb' {Qg P : Prop} (g : Qg) (z : Qg → P := by intro g_; repeat (first|(with_reducible first|exact HB.out|apply ba'|apply bd'|apply be'|refine bs' ?_ g_)|exact HB.out)) : P := z g
theorem y2' {Qg Qh P : Prop} (g : Qg) (h : Qh) (z : Qg → Qh → P := by intro g_ h_; repeat (first|(with_reducible first|exact HB.out|apply ba'|apply bd'|apply be'|refine bs' ?_ g_|refine bs' ?_ h_)|exact HB.out)) : P := z g h
theorem y3' {Qg Qh Qi P : Prop} (g : Qg) (h : Qh) (i : Qi) (z : Qg → Qh → Qi → P := by intro g_ h_ i_; repeat (first|(with_reducible first|exact HB.out|apply ba'|apply bd'|apply be'|refine bs' ?_ g_|refine bs' ?_ h_|refine bs' ?_ i_)|exact HB.out)) : P := z g h i
theorem kk' {Qg P : Prop} (g : Qg) (z : Qg → P := by intro g_; (with_reducible repeat (first|refine kn' ?_ _|refine kd' ?_|refine ka' ?_ _));exact g_) : P := z g
theorem kr' {Qg P : Prop} (g : Qg) (z : Qg → P := by intro g_; (with_reducible repeat (first|apply ra'|apply rn'|apply rw'));exact g_) : P := z g
end Go.Proofs.Ytikjdmiohpdnaaa.H
