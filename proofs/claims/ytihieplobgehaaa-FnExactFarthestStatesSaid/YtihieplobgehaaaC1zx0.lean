import Derived.Test.YtihieplobgehaaaProg
import Derived.Below
import Derived.Deep.Draws
import Derived.Deep.AppendLies
import Derived.Maps.AppendAt
import Derived.OwnWalk
import Derived.Laws.BytesArg
import Derived.Laws.MakeOwn
import Derived.Laws.OwnMore
import Derived.Deep.OwnRows
import Derived.Tactics
import Derived.Lib.ConvBytes
import Derived.Laws.Slices
import Derived.WalkKit
import Derived.KernelRfl
import Derived.RowKit3
import Derived.Deep.LoopGhost
import Derived.Deep.QuietTactic
import Derived.BigQuiet
import Derived.WideLaws
import Derived.Deep.DeepCutAuto
import Derived.Deep.CutBlock
import Derived.Deep.RegionHeld3
import Derived.Laws.Rows
import Derived.Lib.AppendStr
import Derived.ArgAppend
import Derived.Laws.IdiomCopy
import Derived.OrdersHeld
import Derived.Laws.BitsLemmas
import Derived.RowKit
import Derived.Shelf.Abstract
import Derived.Test.YtihieplobgehaaaC1zH0
import Derived.Laws.EntriesVeiled
import Derived.Test.YtihieplobgehaaaC1zWWords
import Derived.Test.YtihieplobgehaaaC1zWLast
import Derived.Test.YtihieplobgehaaaC1zWTab
import Derived.Test.YtihieplobgehaaaC1zWFour
import Derived.Test.YtihieplobgehaaaC1zWQPut
import Derived.Test.YtihieplobgehaaaC1zWApart
import Derived.Test.YtihieplobgehaaaC1zWArr
import Derived.Test.YtihieplobgehaaaC1zWZeros
import Derived.Test.YtihieplobgehaaaC1zWFoot
import Derived.Test.YtihieplobgehaaaC1zWKept
import Derived.Test.YtihieplobgehaaaC1zWShare
import Derived.Test.YtihieplobgehaaaC1zWN
import Derived.Test.YtihieplobgehaaaC1zWFootNe
import Derived.Test.YtihieplobgehaaaC1zWAt
import Derived.Test.YtihieplobgehaaaC1zWEqStruct
import Derived.Test.YtihieplobgehaaaC1zWRepsOne
import Derived.Test.YtihieplobgehaaaC1zWInv
import Derived.Test.YtihieplobgehaaaC1zWInvWords
import Derived.Test.YtihieplobgehaaaC1zWGuard
import Derived.Test.YtihieplobgehaaaC1zWNEv
import Derived.Test.YtihieplobgehaaaC1zWMore
import Derived.Test.YtihieplobgehaaaC1zAl
namespace Go.Proofs.Ytihieplobgehaaa.C1
open Go.RowKit Go.Proofs.YtihieplobgehaaaW.PrintWords Go.Proofs.YtihieplobgehaaaW.PrintLast Go.Proofs.YtihieplobgehaaaW.PrintMore Go.Proofs.Ytihieplobgehaaa.H
attribute [local go_sem] max2_int min2_int max_two min_two max_three min_three max_four min_four
set_option linter.unusedVariables false
set_option linter.unusedSimpArgs false
def errW:Option Int→Value
 | none => .nilIface
 | some c => .iface 0 (.int .i64 c)
theorem errW_none:errW none = .nilIface:=rfl
theorem errW_some (c:Int):errW (some c) = .iface 0 (.int .i64 c):=rfl
theorem info3:(Try.prog.info? 3).map (fun i=>(i.zero,i.size,i.bytes))=some (some (.int .i64 0),1,8):=by kernel_rfl
theorem info4:(Try.prog.info? 4).map (fun i=>(i.zero,i.size,i.bytes))=some (some (.bool false),1,1):=by kernel_rfl
theorem info22:(Try.prog.info? 22).map (fun i=>(i.zero,i.size,i.bytes))=some (some (.slice none 0 0),1,24):=by kernel_rfl
theorem info54:(Try.prog.info? 54).map (fun i=>(i.zero,i.size,i.bytes))=some (some (.agg #[(.slice none 0 0),(.bool false)]),2,32):=by kernel_rfl
def rd_L2 (xs:List (List Int)) (i:Int):(List Int):=xs.getD i.toNat ([]:List Int)
theorem at_L2 {w:World} {A:Option Addr} {n:Nat} {xs:List (List Int)} (h:Kd.C (Kd.slice 3 (Kd.int .i64)) w A n xs) (i:Int) (h0:0≤i) (h1:i < n):∃ ad A0 c0,A=some ad∧w.cell? (ad.add i.toNat)=some (.slice A0 (rd_L2 xs i).length c0)∧(rd_L2 xs i).length≤c0∧(Kd.int .i64).C w A0 (rd_L2 xs i).length (rd_L2 xs i):=by
 obtain ⟨ad,c,e,_,hK,hc0⟩:=Kd.C_get h ([]:List Int) i h0 h1
 have hc:∀ j u,c[j]? = some u→w.cell? (ad.add (i.toNat * 1+j))=some u:=hc0
 obtain ⟨A0,c0,rfl,l0,g0⟩:=hK
 exact ⟨ad,A0,c0,e,by have hq:=hc 0 _ rfl;rwa [Nat.mul_one,Nat.add_zero] at hq,l0,g0⟩
structure S54 where
 f0:(List Bool)
 f1:Bool
def z54:S54:=⟨([]:List Bool),false⟩
def k54:Kd S54:=Kd.iso (Kd.pair (Kd.slice 4 Kd.bool) Kd.bool) (fun x:S54=>(x.f0,x.f1))
theorem k54_open {w:World} {x:S54} {cs:List Value} (h:k54.K w x cs):∃ A0 c0,cs=[.slice A0 x.f0.length c0, .bool x.f1]∧x.f0.length≤c0∧Kd.bool.C w A0 x.f0.length x.f0:=by
 obtain ⟨_,_,rfl,⟨A0,c0,rfl,l0,g0⟩,rfl⟩:=h
 exact ⟨A0,c0,rfl,l0,g0⟩
theorem k54_openM {w:World} {base:Nat} {ok:Nat→Prop} {x:S54} {cs:List Value} (h:k54.M w base ok x cs):∃ v0,cs=[v0, .bool x.f1]∧Kd.bool.R 4 w base ok v0 x.f0:=by
 obtain ⟨_,_,rfl,⟨v0,rfl,g0⟩,rfl⟩:=h
 exact ⟨v0,rfl,g0⟩
theorem k54_mkM (w:World) (base:Nat) (ok:Nat→Prop) (x:S54) {v0:Value} (g0:Kd.bool.R 4 w base ok v0 x.f0):k54.M w base ok x [v0, .bool x.f1]:=⟨[v0],[.bool x.f1],rfl,⟨v0,rfl,g0⟩,rfl⟩
def rd_T54 (xs:List S54) (i:Int):S54:=xs.getD i.toNat z54
theorem at_T54 {w:World} {A:Option Addr} {n:Nat} {xs:List S54} (h:Kd.C k54 w A n xs) (i:Int) (h0:0≤i) (h1:i < n):∃ ad A0 c0,A=some ad∧w.cell? (ad.add (i.toNat * 2))=some (.slice A0 (rd_T54 xs i).f0.length c0)∧w.cell? ⟨(ad.add (i.toNat * 2)).block,(ad.add (i.toNat * 2)).off+1,none⟩=some (.bool (rd_T54 xs i).f1)∧(rd_T54 xs i).f0.length≤c0∧Kd.bool.C w A0 (rd_T54 xs i).f0.length (rd_T54 xs i).f0:=by
 obtain ⟨ad,c,e,_,hK,hc0⟩:=Kd.C_get h z54 i h0 h1
 have hc:∀ j u,c[j]? = some u→w.cell? (ad.add (i.toNat * 2+j))=some u:=hc0
 obtain ⟨A0,c0,rfl,l0,g0⟩:=k54_open hK
 exact ⟨ad,A0,c0,e,hc 0 _ rfl,by rw[← add_field _ _ 1 (by omega)];exact hc 1 _ rfl,l0,g0⟩
structure S28 where
 f0:(List Int)
 f1:Int
end Go.Proofs.Ytihieplobgehaaa.C1
