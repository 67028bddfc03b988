/- The program's functions as Lean functions,and for each the proof that the machine's call comes to what its function says. Conditions: those that stand before each theorem. -/
import Derived.Test.YtdjbphffibcbeaaProg
import Derived.Below
import Derived.Deep.Draws
import Derived.Deep.AppendLies
import Derived.Maps.AppendAt
import Derived.OwnWalk
import Derived.Laws.BytesArg
import Derived.Laws.MakeOwn
import Derived.Laws.OwnMore
import Derived.Deep.OwnRows
import Derived.Tactics
import Derived.Lib.ConvBytes
import Derived.Laws.Slices
import Derived.WalkKit
import Derived.KernelRfl
import Derived.RowKit3
import Derived.Deep.LoopGhost
import Derived.Deep.QuietTactic
import Derived.BigQuiet
import Derived.WideLaws
import Derived.Deep.DeepCutAuto
import Derived.Deep.CutBlock
import Derived.Deep.RegionHeld3
import Derived.Laws.Rows
import Derived.Lib.AppendStr
import Derived.ArgAppend
import Derived.Laws.IdiomCopy
import Derived.OrdersHeld
import Derived.Laws.BitsLemmas
import Derived.RowKit
import Derived.Test.YtdjbphffibcbeaaWWords
import Derived.Test.YtdjbphffibcbeaaWLast
import Derived.Test.YtdjbphffibcbeaaWTab
import Derived.Test.YtdjbphffibcbeaaWApart
import Derived.Test.YtdjbphffibcbeaaWFoot
import Derived.Test.YtdjbphffibcbeaaWKept
import Derived.Test.YtdjbphffibcbeaaWShare
import Derived.Test.YtdjbphffibcbeaaWN
import Derived.Laws.StructEq
import Derived.Test.YtdjbphffibcbeaaWRepsOne
import Derived.Test.YtdjbphffibcbeaaWGuard
import Derived.Test.YtdjbphffibcbeaaWMore
namespace Go.Proofs.Ytdjbphffibcbeaa.Q
open Go.RowKit Go.Proofs.YtdjbphffibcbeaaW.PrintWords Go.Proofs.YtdjbphffibcbeaaW.PrintLast Go.Proofs.YtdjbphffibcbeaaW.PrintMore
abbrev kN0_ := @blk_drewN
abbrev kD0_ := @blk_drew
abbrev rN0_ := @Kd.R_drewN
abbrev bA0_ := @below_alloc
abbrev bN0_ := @pw_below_drewN
abbrev bD0_ := @below_drew1
abbrev bS0_ := @below_set
abbrev mk0_ := @Aside0.mk
abbrev fZ0_ := @blk_frozen
abbrev sB0_ := @Kd.S_below
abbrev bT0_ := @below_step
abbrev bZ0_ := @below_size
set_option linter.unusedVariables false
set_option linter.unusedSimpArgs false

def errW : Option Int → Value
 | none => .nilIface
 | some c => .iface 0 (.int .i64 c)
theorem errW_none : errW none = .nilIface := rfl
theorem errW_some (c : Int) : errW (some c) = .iface 0 (.int .i64 c) := rfl

theorem info2:(Try.prog.info? 2).map (fun i=>(i.zero,i.size,i.bytes))=some (some (.int .i64 0),1,8):=by kernel_rfl
theorem info9:(Try.prog.info? 9).map (fun i=>(i.zero,i.size,i.bytes))=some (some (.string ⟨#[]⟩),1,16):=by kernel_rfl
theorem info50:(Try.prog.info? 50).map (fun i=>(i.zero,i.size,i.bytes))=some (some (.agg #[(.int .i64 0),(.slice none 0 0),(.int .i64 0),(.int .i64 0),(.slice none 0 0),(.slice none 0 0)]),6,96):=by kernel_rfl
theorem info68:(Try.prog.info? 68).map (fun i=>(i.zero,i.size,i.bytes))=some (some (.agg #[(.int .i64 0),(.int .i64 0),(.bool false),(.slice none 0 0)]),4,48):=by kernel_rfl
-- the values' own types

structure S83 where
 f0 : Int
 f1 : Int
 f2 : Bool
 f3 : (List ByteArray)
def z83 : S83 := ⟨(0 : Int), (0 : Int), false, ([] : List ByteArray)⟩
def k83:Kd S83:=Kd.iso (Kd.pair (Kd.int .i64) (Kd.pair (Kd.int .i64) (Kd.pair Kd.bool (Kd.slice 9 Kd.string)))) (fun x:S83=>(x.f0,x.f1,x.f2,x.f3))
theorem k83_open {w:World} {x:S83} {cs:List Value} (h:k83.K w x cs):∃ A3 c3,cs=[.int .i64 x.f0,.int .i64 x.f1,.bool x.f2,.slice A3 x.f3.length c3]∧x.f3.length≤c3∧Kd.string.C w A3 x.f3.length x.f3:=by
 obtain ⟨_, _, rfl, rfl, ⟨_, _, rfl, rfl, ⟨_, _, rfl, rfl, ⟨A3, c3, rfl, l3, g3⟩⟩⟩⟩ := h
 exact ⟨A3, c3, rfl, l3, g3⟩
def rd_T83 (xs : List S83) (i : Int) : S83 := xs.getD i.toNat z83
theorem at_T83 {w:World} {A:Option Addr} {n:Nat} {xs:List S83} (h:Kd.C k83 w A n xs) (i:Int) (h0:0≤i) (h1:i < n):∃ ad A3 c3,A=some ad∧w.cell? (ad.add (i.toNat * 4))=some (.int .i64 (rd_T83 xs i).f0)∧w.cell? ⟨(ad.add (i.toNat * 4)).block,(ad.add (i.toNat * 4)).off+1,none⟩=some (.int .i64 (rd_T83 xs i).f1)∧w.cell? ⟨(ad.add (i.toNat * 4)).block,(ad.add (i.toNat * 4)).off+2,none⟩=some (.bool (rd_T83 xs i).f2)∧w.cell? ⟨(ad.add (i.toNat * 4)).block,(ad.add (i.toNat * 4)).off+3,none⟩=some (.slice A3 (rd_T83 xs i).f3.length c3)∧(rd_T83 xs i).f3.length≤c3∧Kd.string.C w A3 (rd_T83 xs i).f3.length (rd_T83 xs i).f3:=by
 obtain ⟨ad, c, e, _, hK, hc0⟩ := Kd.C_get h z83 i h0 h1
 have hc : ∀ j u, c[j]? = some u → w.cell? (ad.add (i.toNat * 4 + j)) = some u := hc0
 obtain ⟨A3, c3, rfl, l3, g3⟩ := k83_open hK
 exact ⟨ad,A3,c3,e,hc 0 _ rfl,by rw [← add_field _ _ 1 (by omega)];exact hc 1 _ rfl,by rw [← add_field _ _ 2 (by omega)];exact hc 2 _ rfl,by rw [← add_field _ _ 3 (by omega)];exact hc 3 _ rfl,l3,g3⟩

structure S64 where
 f0 : Int
 f1 : (List Int)
 f2 : Int
 f3 : Int
 f4 : (List Int)
 f5 : (List ByteArray)
def z64:S64:=⟨(0:Int),([]:List Int),(0:Int),(0:Int),([]:List Int),([]:List ByteArray)⟩
def k64:Kd S64:=Kd.iso (Kd.pair (Kd.int .i64) (Kd.pair (Kd.slice 2 (Kd.int .i64)) (Kd.pair (Kd.int .i64) (Kd.pair (Kd.int .i64) (Kd.pair (Kd.slice 2 (Kd.int .i64)) (Kd.slice 9 Kd.string)))))) (fun x:S64=>(x.f0,x.f1,x.f2,x.f3,x.f4,x.f5))
theorem k64_open {w:World} {x:S64} {cs:List Value} (h:k64.K w x cs):∃ A1 c1 A4 c4 A5 c5,cs=[.int .i64 x.f0,.slice A1 x.f1.length c1,.int .i64 x.f2,.int .i64 x.f3,.slice A4 x.f4.length c4,.slice A5 x.f5.length c5]∧x.f1.length≤c1∧(Kd.int .i64).C w A1 x.f1.length x.f1∧x.f4.length≤c4∧(Kd.int .i64).C w A4 x.f4.length x.f4∧x.f5.length≤c5∧Kd.string.C w A5 x.f5.length x.f5:=by
 obtain ⟨_,_,rfl,rfl,⟨_,_,rfl,⟨A1,c1,rfl,l1,g1⟩,⟨_,_,rfl,rfl,⟨_,_,rfl,rfl,⟨_,_,rfl,⟨A4,c4,rfl,l4,g4⟩,⟨A5,c5,rfl,l5,g5⟩⟩⟩⟩⟩⟩:=h
 exact ⟨A1, c1, A4, c4, A5, c5, rfl, l1, g1, l4, g4, l5, g5⟩
def rd_T64 (xs : List S64) (i : Int) : S64 := xs.getD i.toNat z64
theorem at_T64 {w:World} {A:Option Addr} {n:Nat} {xs:List S64} (h:Kd.C k64 w A n xs) (i:Int) (h0:0≤i) (h1:i < n):∃ ad A1 c1 A4 c4 A5 c5,A=some ad∧w.cell? (ad.add (i.toNat * 6))=some (.int .i64 (rd_T64 xs i).f0)∧w.cell? ⟨(ad.add (i.toNat * 6)).block,(ad.add (i.toNat * 6)).off+1,none⟩=some (.slice A1 (rd_T64 xs i).f1.length c1)∧w.cell? ⟨(ad.add (i.toNat * 6)).block,(ad.add (i.toNat * 6)).off+2,none⟩=some (.int .i64 (rd_T64 xs i).f2)∧w.cell? ⟨(ad.add (i.toNat * 6)).block,(ad.add (i.toNat * 6)).off+3,none⟩=some (.int .i64 (rd_T64 xs i).f3)∧w.cell? ⟨(ad.add (i.toNat * 6)).block,(ad.add (i.toNat * 6)).off+4,none⟩=some (.slice A4 (rd_T64 xs i).f4.length c4)∧w.cell? ⟨(ad.add (i.toNat * 6)).block,(ad.add (i.toNat * 6)).off+5,none⟩=some (.slice A5 (rd_T64 xs i).f5.length c5)∧(rd_T64 xs i).f1.length≤c1∧(Kd.int .i64).C w A1 (rd_T64 xs i).f1.length (rd_T64 xs i).f1∧(rd_T64 xs i).f4.length≤c4∧(Kd.int .i64).C w A4 (rd_T64 xs i).f4.length (rd_T64 xs i).f4∧(rd_T64 xs i).f5.length≤c5∧Kd.string.C w A5 (rd_T64 xs i).f5.length (rd_T64 xs i).f5:=by
 obtain ⟨ad, c, e, _, hK, hc0⟩ := Kd.C_get h z64 i h0 h1
 have hc : ∀ j u, c[j]? = some u → w.cell? (ad.add (i.toNat * 6 + j)) = some u := hc0
 obtain ⟨A1, c1, A4, c4, A5, c5, rfl, l1, g1, l4, g4, l5, g5⟩ := k64_open hK
 exact ⟨ad,A1,c1,A4,c4,A5,c5,e,hc 0 _ rfl,by rw [← add_field _ _ 1 (by omega)];exact hc 1 _ rfl,by rw [← add_field _ _ 2 (by omega)];exact hc 2 _ rfl,by rw [← add_field _ _ 3 (by omega)];exact hc 3 _ rfl,by rw [← add_field _ _ 4 (by omega)];exact hc 4 _ rfl,by rw [← add_field _ _ 5 (by omega)];exact hc 5 _ rfl,l1,g1,l4,g4,l5,g5⟩

structure S68 where
 f0 : Int
 f1 : Int
 f2 : Bool
 f3 : (List ByteArray)
def z68 : S68 := ⟨(0 : Int), (0 : Int), false, ([] : List ByteArray)⟩
def k68:Kd S68:=Kd.iso (Kd.pair (Kd.int .i64) (Kd.pair (Kd.int .i64) (Kd.pair Kd.bool (Kd.slice 9 Kd.string)))) (fun x:S68=>(x.f0,x.f1,x.f2,x.f3))
theorem k68_open {w:World} {x:S68} {cs:List Value} (h:k68.K w x cs):∃ A3 c3,cs=[.int .i64 x.f0,.int .i64 x.f1,.bool x.f2,.slice A3 x.f3.length c3]∧x.f3.length≤c3∧Kd.string.C w A3 x.f3.length x.f3:=by
 obtain ⟨_, _, rfl, rfl, ⟨_, _, rfl, rfl, ⟨_, _, rfl, rfl, ⟨A3, c3, rfl, l3, g3⟩⟩⟩⟩ := h
 exact ⟨A3, c3, rfl, l3, g3⟩
theorem k68_openM {w:World} {base:Nat} {ok:Nat→Prop} {x:S68} {cs:List Value} (h:k68.M w base ok x cs):∃ v3,cs=[.int .i64 x.f0,.int .i64 x.f1,.bool x.f2,v3]∧Kd.string.R 9 w base ok v3 x.f3:=by
 obtain ⟨_, _, rfl, rfl, ⟨_, _, rfl, rfl, ⟨_, _, rfl, rfl, ⟨v3, rfl, g3⟩⟩⟩⟩ := h
 exact ⟨v3, rfl, g3⟩
theorem k68_mkM (w:World) (base:Nat) (ok:Nat→Prop) (x:S68) {v3:Value} (g3:Kd.string.R 9 w base ok v3 x.f3):k68.M w base ok x [.int .i64 x.f0,.int .i64 x.f1,.bool x.f2,v3]:=⟨[.int .i64 x.f0],[.int .i64 x.f1,.bool x.f2,v3],rfl,rfl,⟨[.int .i64 x.f1],[.bool x.f2,v3],rfl,rfl,⟨[.bool x.f2],[v3],rfl,rfl,⟨v3,rfl,g3⟩⟩⟩⟩
def rd_T68 (xs : List S68) (i : Int) : S68 := xs.getD i.toNat z68
theorem at_T68 {w:World} {A:Option Addr} {n:Nat} {xs:List S68} (h:Kd.C k68 w A n xs) (i:Int) (h0:0≤i) (h1:i < n):∃ ad A3 c3,A=some ad∧w.cell? (ad.add (i.toNat * 4))=some (.int .i64 (rd_T68 xs i).f0)∧w.cell? ⟨(ad.add (i.toNat * 4)).block,(ad.add (i.toNat * 4)).off+1,none⟩=some (.int .i64 (rd_T68 xs i).f1)∧w.cell? ⟨(ad.add (i.toNat * 4)).block,(ad.add (i.toNat * 4)).off+2,none⟩=some (.bool (rd_T68 xs i).f2)∧w.cell? ⟨(ad.add (i.toNat * 4)).block,(ad.add (i.toNat * 4)).off+3,none⟩=some (.slice A3 (rd_T68 xs i).f3.length c3)∧(rd_T68 xs i).f3.length≤c3∧Kd.string.C w A3 (rd_T68 xs i).f3.length (rd_T68 xs i).f3:=by
 obtain ⟨ad, c, e, _, hK, hc0⟩ := Kd.C_get h z68 i h0 h1
 have hc : ∀ j u, c[j]? = some u → w.cell? (ad.add (i.toNat * 4 + j)) = some u := hc0
 obtain ⟨A3, c3, rfl, l3, g3⟩ := k68_open hK
 exact ⟨ad,A3,c3,e,hc 0 _ rfl,by rw [← add_field _ _ 1 (by omega)];exact hc 1 _ rfl,by rw [← add_field _ _ 2 (by omega)];exact hc 2 _ rfl,by rw [← add_field _ _ 3 (by omega)];exact hc 3 _ rfl,l3,g3⟩

structure S50 where
 f0 : Int
 f1 : (List Int)
 f2 : Int
 f3 : Int
 f4 : (List Int)
 f5 : (List ByteArray)
def z50:S50:=⟨(0:Int),([]:List Int),(0:Int),(0:Int),([]:List Int),([]:List ByteArray)⟩
def k50:Kd S50:=Kd.iso (Kd.pair (Kd.int .i64) (Kd.pair (Kd.slice 2 (Kd.int .i64)) (Kd.pair (Kd.int .i64) (Kd.pair (Kd.int .i64) (Kd.pair (Kd.slice 2 (Kd.int .i64)) (Kd.slice 9 Kd.string)))))) (fun x:S50=>(x.f0,x.f1,x.f2,x.f3,x.f4,x.f5))
theorem k50_open {w:World} {x:S50} {cs:List Value} (h:k50.K w x cs):∃ A1 c1 A4 c4 A5 c5,cs=[.int .i64 x.f0,.slice A1 x.f1.length c1,.int .i64 x.f2,.int .i64 x.f3,.slice A4 x.f4.length c4,.slice A5 x.f5.length c5]∧x.f1.length≤c1∧(Kd.int .i64).C w A1 x.f1.length x.f1∧x.f4.length≤c4∧(Kd.int .i64).C w A4 x.f4.length x.f4∧x.f5.length≤c5∧Kd.string.C w A5 x.f5.length x.f5:=by
 obtain ⟨_,_,rfl,rfl,⟨_,_,rfl,⟨A1,c1,rfl,l1,g1⟩,⟨_,_,rfl,rfl,⟨_,_,rfl,rfl,⟨_,_,rfl,⟨A4,c4,rfl,l4,g4⟩,⟨A5,c5,rfl,l5,g5⟩⟩⟩⟩⟩⟩:=h
 exact ⟨A1, c1, A4, c4, A5, c5, rfl, l1, g1, l4, g4, l5, g5⟩
theorem k50_openM {w:World} {base:Nat} {ok:Nat→Prop} {x:S50} {cs:List Value} (h:k50.M w base ok x cs):∃ v1 v4 v5,cs=[.int .i64 x.f0,v1,.int .i64 x.f2,.int .i64 x.f3,v4,v5]∧(Kd.int .i64).R 2 w base ok v1 x.f1∧(Kd.int .i64).R 2 w base ok v4 x.f4∧Kd.string.R 9 w base ok v5 x.f5:=by
 obtain ⟨_,_,rfl,rfl,⟨_,_,rfl,⟨v1,rfl,g1⟩,⟨_,_,rfl,rfl,⟨_,_,rfl,rfl,⟨_,_,rfl,⟨v4,rfl,g4⟩,⟨v5,rfl,g5⟩⟩⟩⟩⟩⟩:=h
 exact ⟨v1, v4, v5, rfl, g1, g4, g5⟩
theorem k50_mkM (w:World) (base:Nat) (ok:Nat→Prop) (x:S50) {v1:Value} (g1:(Kd.int .i64).R 2 w base ok v1 x.f1) {v4:Value} (g4:(Kd.int .i64).R 2 w base ok v4 x.f4) {v5:Value} (g5:Kd.string.R 9 w base ok v5 x.f5):k50.M w base ok x [.int .i64 x.f0,v1,.int .i64 x.f2,.int .i64 x.f3,v4,v5]:=⟨[.int .i64 x.f0],[v1,.int .i64 x.f2,.int .i64 x.f3,v4,v5],rfl,rfl,⟨[v1],[.int .i64 x.f2,.int .i64 x.f3,v4,v5],rfl,⟨v1,rfl,g1⟩,⟨[.int .i64 x.f2],[.int .i64 x.f3,v4,v5],rfl,rfl,⟨[.int .i64 x.f3],[v4,v5],rfl,rfl,⟨[v4],[v5],rfl,⟨v4,rfl,g4⟩,⟨v5,rfl,g5⟩⟩⟩⟩⟩⟩
def rd_T50 (xs : List S50) (i : Int) : S50 := xs.getD i.toNat z50
theorem at_T50 {w:World} {A:Option Addr} {n:Nat} {xs:List S50} (h:Kd.C k50 w A n xs) (i:Int) (h0:0≤i) (h1:i < n):∃ ad A1 c1 A4 c4 A5 c5,A=some ad∧w.cell? (ad.add (i.toNat * 6))=some (.int .i64 (rd_T50 xs i).f0)∧w.cell? ⟨(ad.add (i.toNat * 6)).block,(ad.add (i.toNat * 6)).off+1,none⟩=some (.slice A1 (rd_T50 xs i).f1.length c1)∧w.cell? ⟨(ad.add (i.toNat * 6)).block,(ad.add (i.toNat * 6)).off+2,none⟩=some (.int .i64 (rd_T50 xs i).f2)∧w.cell? ⟨(ad.add (i.toNat * 6)).block,(ad.add (i.toNat * 6)).off+3,none⟩=some (.int .i64 (rd_T50 xs i).f3)∧w.cell? ⟨(ad.add (i.toNat * 6)).block,(ad.add (i.toNat * 6)).off+4,none⟩=some (.slice A4 (rd_T50 xs i).f4.length c4)∧w.cell? ⟨(ad.add (i.toNat * 6)).block,(ad.add (i.toNat * 6)).off+5,none⟩=some (.slice A5 (rd_T50 xs i).f5.length c5)∧(rd_T50 xs i).f1.length≤c1∧(Kd.int .i64).C w A1 (rd_T50 xs i).f1.length (rd_T50 xs i).f1∧(rd_T50 xs i).f4.length≤c4∧(Kd.int .i64).C w A4 (rd_T50 xs i).f4.length (rd_T50 xs i).f4∧(rd_T50 xs i).f5.length≤c5∧Kd.string.C w A5 (rd_T50 xs i).f5.length (rd_T50 xs i).f5:=by
 obtain ⟨ad, c, e, _, hK, hc0⟩ := Kd.C_get h z50 i h0 h1
 have hc : ∀ j u, c[j]? = some u → w.cell? (ad.add (i.toNat * 6 + j)) = some u := hc0
 obtain ⟨A1, c1, A4, c4, A5, c5, rfl, l1, g1, l4, g4, l5, g5⟩ := k50_open hK
 exact ⟨ad,A1,c1,A4,c4,A5,c5,e,hc 0 _ rfl,by rw [← add_field _ _ 1 (by omega)];exact hc 1 _ rfl,by rw [← add_field _ _ 2 (by omega)];exact hc 2 _ rfl,by rw [← add_field _ _ 3 (by omega)];exact hc 3 _ rfl,by rw [← add_field _ _ 4 (by omega)];exact hc 4 _ rfl,by rw [← add_field _ _ 5 (by omega)];exact hc 5 _ rfl,l1,g1,l4,g4,l5,g5⟩

structure S23 where
 f0 : Int
 f1 : Int
 f2 : Int
def k23:Kd S23:=Kd.iso (Kd.pair (Kd.int .i64) (Kd.pair (Kd.int .i64) (Kd.int .i64))) (fun x:S23=>(x.f0,x.f1,x.f2))
theorem k23_open {w:World} {x:S23} {cs:List Value} (h:k23.K w x cs):cs=[.int .i64 x.f0,.int .i64 x.f1,.int .i64 x.f2]:=by
 obtain ⟨_, _, rfl, rfl, ⟨_, _, rfl, rfl, rfl⟩⟩ := h
 exact rfl

structure S26 where
 f0 : S23
 f1 : (List S83)
 f2 : Int
 f3 : Int
 f4 : Bool
 f5 : Int
def k26:Kd S26:=Kd.iso (Kd.pair k23 (Kd.pair (Kd.slice 83 k83) (Kd.pair (Kd.int .i64) (Kd.pair (Kd.int .i64) (Kd.pair Kd.bool (Kd.int .i64)))))) (fun x:S26=>(x.f0,x.f1,x.f2,x.f3,x.f4,x.f5))
theorem k26_open {w:World} {x:S26} {cs:List Value} (h:k26.K w x cs):∃ A3 c3,cs=[.int .i64 x.f0.f0,.int .i64 x.f0.f1,.int .i64 x.f0.f2,.slice A3 x.f1.length c3,.int .i64 x.f2,.int .i64 x.f3,.bool x.f4,.int .i64 x.f5]∧x.f1.length≤c3∧k83.C w A3 x.f1.length x.f1:=by
 obtain ⟨_,_,rfl,s0,⟨_,_,rfl,⟨A3,c3,rfl,l3,g3⟩,⟨_,_,rfl,rfl,⟨_,_,rfl,rfl,⟨_,_,rfl,rfl,rfl⟩⟩⟩⟩⟩:=h
 obtain rfl := k23_open s0
 exact ⟨A3, c3, rfl, l3, g3⟩

structure S29 where
 f0 : S26
 f1 : (List S64)
def k29 : Kd S29 := Kd.iso (Kd.pair k26 (Kd.slice 64 k64)) (fun x : S29 => (x.f0, x.f1))
theorem k29_open {w:World} {x:S29} {cs:List Value} (h:k29.K w x cs):∃ A3 c3 A8 c8,cs=[.int .i64 x.f0.f0.f0,.int .i64 x.f0.f0.f1,.int .i64 x.f0.f0.f2,.slice A3 x.f0.f1.length c3,.int .i64 x.f0.f2,.int .i64 x.f0.f3,.bool x.f0.f4,.int .i64 x.f0.f5,.slice A8 x.f1.length c8]∧x.f0.f1.length≤c3∧k83.C w A3 x.f0.f1.length x.f0.f1∧x.f1.length≤c8∧k64.C w A8 x.f1.length x.f1:=by
 obtain ⟨_, _, rfl, s0, ⟨A8, c8, rfl, l8, g8⟩⟩ := h
 obtain ⟨A3, c3, rfl, l3, g3⟩ := k26_open s0
 exact ⟨A3, c3, A8, c8, rfl, l3, g3, l8, g8⟩

end Go.Proofs.Ytdjbphffibcbeaa.Q
