import Derived.Test.YtnobhkmpkichdaaGreatPress
import Derived.Test.YtnobhkmpkichdaaGreatPress5
import Derived.Test.YtnobhkmpkichdaaGreatProg
import Derived.Below
import Derived.Deep.Draws
import Derived.Deep.AppendLies
import Derived.Maps.AppendAt
import Derived.OwnWalk
import Derived.Laws.BytesArg
import Derived.Laws.MakeOwn
import Derived.Laws.OwnMore
import Derived.Deep.OwnRows
import Derived.Tactics
import Derived.Lib.ConvBytes
import Derived.Laws.Slices
import Derived.WalkKit
import Derived.KernelRfl
import Derived.RowKit3
import Derived.Deep.LoopGhost
import Derived.Deep.QuietTactic
import Derived.BigQuiet
import Derived.WideLaws
import Derived.Deep.DeepCutAuto
import Derived.Deep.CutBlock
import Derived.Deep.RegionHeld3
import Derived.Laws.Rows
import Derived.Lib.AppendStr
import Derived.ArgAppend
import Derived.Laws.IdiomCopy
import Derived.OrdersHeld
import Derived.Laws.BitsLemmas
import Derived.RowKit
import Derived.LoopTactic
import Derived.Lib.Bytealg
import Derived.Laws.Externs
import Derived.Test.YtnobhkmpkichdaaGreatWWords
import Derived.Test.YtnobhkmpkichdaaGreatWLast
import Derived.Test.YtnobhkmpkichdaaGreatWTab
import Derived.Test.YtnobhkmpkichdaaGreatWFour
import Derived.Test.YtnobhkmpkichdaaGreatWQPut
import Derived.Test.YtnobhkmpkichdaaGreatWApart
import Derived.Test.YtnobhkmpkichdaaGreatWArr
import Derived.Test.YtnobhkmpkichdaaGreatWZeros
import Derived.Test.YtnobhkmpkichdaaGreatWFoot
import Derived.Test.YtnobhkmpkichdaaGreatWKept
import Derived.Test.YtnobhkmpkichdaaGreatWShare
import Derived.Test.YtnobhkmpkichdaaGreatWN
import Derived.Test.YtnobhkmpkichdaaGreatWFootNe
import Derived.Test.YtnobhkmpkichdaaGreatWAt
import Derived.Test.YtnobhkmpkichdaaGreatWEqStruct
import Derived.Test.YtnobhkmpkichdaaGreatWRepsOne
import Derived.Test.YtnobhkmpkichdaaGreatWInv
import Derived.Test.YtnobhkmpkichdaaGreatWInvWords
import Derived.Test.YtnobhkmpkichdaaGreatWGuard
import Derived.Test.YtnobhkmpkichdaaGreatWNEv
import Derived.Test.YtnobhkmpkichdaaGreatWMore
import Derived.Test.YtnobhkmpkichdaaGreatAid2
import Derived.Test.YtnobhkmpkichdaaGreatShelf
namespace Go.Proofs.YtnobhkmpkichdaaGreat.PFnExactViewsOk
open Go.RowKit YtnobhkmpkichdaaGreatW.PrintWords YtnobhkmpkichdaaGreatW.PrintLast YtnobhkmpkichdaaGreatW.PrintMore
attribute [local go_sem] aDf aDi aEf aEe aCs aCt aDh aDg
set_option linter.unusedVariables false
set_option linter.unusedSimpArgs false
def aZa : Option Int → Value
 | none => .nilIface
 | some c => .iface 0 (.int .i64 c)
theorem aBo : aZa none = .nilIface := rfl
theorem aBq (c : Int) : aZa (some c) = .iface 0 (.int .i64 c) := rfl

theorem info3 : (Tryz.prog.info? 3).map (fun i => (i.zero, i.size, i.bytes)) = some (some (.int .i64 0), 1, 8) := by kernel_rfl
theorem bQQ : (Tryz.prog.info? 9).map (fun i => (i.zero, i.size, i.bytes)) = some (some (.string ⟨#[]⟩), 1, 16) := by kernel_rfl
theorem bTU : (Tryz.prog.info? 36).map (fun i => (i.zero, i.size, i.bytes)) = some (some (.agg #[(.int .i64 0), (.int .i64 0), (.string ⟨#[]⟩)]), 3, 32) := by kernel_rfl
theorem bWQ : (Tryz.prog.info? 39).map (fun i => (i.zero, i.size, i.bytes)) = some (some (.agg #[(.int .i64 0), (.int .i64 0), (.int .i64 0), (.int .i64 0), (.string ⟨#[]⟩), (.string ⟨#[]⟩), (.slice none 0 0)]), 7, 88) := by kernel_rfl
theorem bV9 : (Tryz.prog.info? 42).map (fun i => (i.zero, i.size, i.bytes)) = some (some (.agg #[(.int .i64 0), (.string ⟨#[]⟩), (.int .i64 0), (.int .i64 0), (.int .i64 0), (.int .i64 0), (.string ⟨#[]⟩), (.string ⟨#[]⟩), (.slice none 0 0), (.slice none 0 0), (.int .i64 0), (.slice none 0 0)]), 12, 168) := by kernel_rfl
theorem bWK : (Tryz.prog.info? 68).map (fun i => (i.zero, i.size, i.bytes)) = some (some (.agg #[(.string ⟨#[]⟩), (.int .i64 0), (.slice none 0 0)]), 3, 48) := by kernel_rfl
theorem bTC : (Tryz.prog.info? 83).map (fun i => (i.zero, i.size, i.bytes)) = some (some (.agg #[(.string ⟨#[]⟩), (.int .i64 0), (.string ⟨#[]⟩), (.int .i64 0), (.int .i64 0), (.int .i64 0), (.int .i64 0), (.string ⟨#[]⟩), (.string ⟨#[]⟩), (.slice none 0 0), (.slice none 0 0), (.int .i64 0), (.slice none 0 0), (.int .i64 0), (.slice none 0 0)]), 15, 216) := by kernel_rfl
theorem bBT : (Tryz.prog.info? 126).map (fun i => (i.zero, i.size, i.bytes)) = some (some (.agg #[(.slice none 0 0), (.int .i64 0)]), 2, 32) := by kernel_rfl
structure S24 where
 f0 : Int
 f1 : Int
 f2 : ByteArray
def z24 : S24 := ⟨(0 : Int), (0 : Int), (⟨#[]⟩ : ByteArray)⟩
def k24 : Kd S24 := Kd.iso (Kd.pair (Kd.int .i64) (Kd.pair (Kd.int .i64) Kd.string)) (fun x : S24 => (x.f0, x.f1, x.f2))
theorem aDQ {w : World} {x : S24} {cs : List Value} (h : k24.K w x cs) : cs = [.int .i64 x.f0, .int .i64 x.f1, .string x.f2] := by
 obtain ⟨_, _, rfl, rfl, ⟨_, _, rfl, rfl, rfl⟩⟩ := h
 exact rfl
def nQ (xs : List S24) (i : Int) : S24 := xs.getD i.toNat z24
theorem b2M {w : World} {A : Option Addr} {n : Nat} {xs : List S24} (h : Kd.C k24 w A n xs) (i : Int) (h0 : 0 ≤ i) (h1 : i < n) : ∃ ad , A = some ad ∧ w.cell? (ad.add (i.toNat * 3)) = some (.int .i64 (nQ xs i).f0) ∧ w.cell? ⟨(ad.add (i.toNat * 3)).block, (ad.add (i.toNat * 3)).off + 1, none⟩ = some (.int .i64 (nQ xs i).f1) ∧ w.cell? ⟨(ad.add (i.toNat * 3)).block, (ad.add (i.toNat * 3)).off + 2, none⟩ = some (.string (nQ xs i).f2) := by
 obtain ⟨ad, c, e, _, hK, hc0⟩ := Kd.aEj h z24 i h0 h1
 have hc : ∀ j u, c[j]? = some u → w.cell? (ad.add (i.toNat * 3 + j)) = some u := hc0
 obtain rfl := aDQ hK
 exact ⟨ad, e, hc 0 _ rfl, by rw [← aAg _ _ 1 (by omega)]; exact hc 1 _ rfl, by rw [← aAg _ _ 2 (by omega)]; exact hc 2 _ rfl⟩

structure S136 where
 f0 : (List S24)
 f1 : Int
def aXd : S136 := ⟨([] : List S24), (0 : Int)⟩
def aNa : Kd S136 := Kd.iso (Kd.pair (Kd.slice 24 k24) (Kd.int .i64)) (fun x : S136 => (x.f0, x.f1))
theorem aZD {w : World} {x : S136} {cs : List Value} (h : aNa.K w x cs) : ∃ A0 c0, cs = [.slice A0 x.f0.length c0, .int .i64 x.f1] ∧ x.f0.length ≤ c0 ∧ k24.C w A0 x.f0.length x.f0 := by
 obtain ⟨_, _, rfl, ⟨A0, c0, rfl, l0, g0⟩, rfl⟩ := h
 exact ⟨A0, c0, rfl, l0, g0⟩
def nJ (xs : List S136) (i : Int) : S136 := xs.getD i.toNat aXd
theorem aT6 {w : World} {A : Option Addr} {n : Nat} {xs : List S136} (h : Kd.C aNa w A n xs) (i : Int) (h0 : 0 ≤ i) (h1 : i < n) : ∃ ad A0 c0, A = some ad ∧ w.cell? (ad.add (i.toNat * 2)) = some (.slice A0 (nJ xs i).f0.length c0) ∧ w.cell? ⟨(ad.add (i.toNat * 2)).block, (ad.add (i.toNat * 2)).off + 1, none⟩ = some (.int .i64 (nJ xs i).f1) ∧ (nJ xs i).f0.length ≤ c0 ∧ k24.C w A0 (nJ xs i).f0.length (nJ xs i).f0 := by
 obtain ⟨ad, c, e, _, hK, hc0⟩ := Kd.aEj h aXd i h0 h1
 have hc : ∀ j u, c[j]? = some u → w.cell? (ad.add (i.toNat * 2 + j)) = some u := hc0
 obtain ⟨A0, c0, rfl, l0, g0⟩ := aZD hK
 exact ⟨ad, A0, c0, e, hc 0 _ rfl, by rw [← aAg _ _ 1 (by omega)]; exact hc 1 _ rfl, l0, g0⟩

structure S57 where
 f0 : Int
 f1 : (List S136)
def z57 : S57 := ⟨(0 : Int), ([] : List S136)⟩
def k57 : Kd S57 := Kd.iso (Kd.pair (Kd.int .i64) (Kd.slice 136 aNa)) (fun x : S57 => (x.f0, x.f1))
theorem aDF {w : World} {x : S57} {cs : List Value} (h : k57.K w x cs) : ∃ A1 c1, cs = [.int .i64 x.f0, .slice A1 x.f1.length c1] ∧ x.f1.length ≤ c1 ∧ aNa.C w A1 x.f1.length x.f1 := by
 obtain ⟨_, _, rfl, rfl, ⟨A1, c1, rfl, l1, g1⟩⟩ := h
 exact ⟨A1, c1, rfl, l1, g1⟩
structure S59 where
 f0 : ByteArray
 f1 : S57
def z59 : S59 := ⟨(⟨#[]⟩ : ByteArray), z57⟩
def k59 : Kd S59 := Kd.iso (Kd.pair Kd.string k57) (fun x : S59 => (x.f0, x.f1))
theorem b31 {w : World} {x : S59} {cs : List Value} (h : k59.K w x cs) : ∃ A2 c2, cs = [.string x.f0, .int .i64 x.f1.f0, .slice A2 x.f1.f1.length c2] ∧ x.f1.f1.length ≤ c2 ∧ aNa.C w A2 x.f1.f1.length x.f1.f1 := by
 obtain ⟨_, _, rfl, rfl, s1⟩ := h
 obtain ⟨A2, c2, rfl, l2, g2⟩ := aDF s1
 exact ⟨A2, c2, rfl, l2, g2⟩
def mJ (xs : List S59) (i : Int) : S59 := xs.getD i.toNat z59
theorem b2G {w : World} {A : Option Addr} {n : Nat} {xs : List S59} (h : Kd.C k59 w A n xs) (i : Int) (h0 : 0 ≤ i) (h1 : i < n) : ∃ ad A2 c2, A = some ad ∧ w.cell? (ad.add (i.toNat * 3)) = some (.string (mJ xs i).f0) ∧ w.cell? ⟨(ad.add (i.toNat * 3)).block, (ad.add (i.toNat * 3)).off + 1, none⟩ = some (.int .i64 (mJ xs i).f1.f0) ∧ w.cell? ⟨(ad.add (i.toNat * 3)).block, (ad.add (i.toNat * 3)).off + 2, none⟩ = some (.slice A2 (mJ xs i).f1.f1.length c2) ∧ (mJ xs i).f1.f1.length ≤ c2 ∧ aNa.C w A2 (mJ xs i).f1.f1.length (mJ xs i).f1.f1 := by
 obtain ⟨ad, c, e, _, hK, hc0⟩ := Kd.aEj h z59 i h0 h1
 have hc : ∀ j u, c[j]? = some u → w.cell? (ad.add (i.toNat * 3 + j)) = some u := hc0
 obtain ⟨A2, c2, rfl, l2, g2⟩ := b31 hK
 exact ⟨ad, A2, c2, e, hc 0 _ rfl, by rw [← aAg _ _ 1 (by omega)]; exact hc 1 _ rfl, by rw [← aAg _ _ 2 (by omega)]; exact hc 2 _ rfl, l2, g2⟩

structure S36 where
 f0 : Int
 f1 : Int
 f2 : ByteArray
def z36 : S36 := ⟨(0 : Int), (0 : Int), (⟨#[]⟩ : ByteArray)⟩
def ER : Kd S36 := Kd.iso (Kd.pair (Kd.int .i64) (Kd.pair (Kd.int .i64) Kd.string)) (fun x : S36 => (x.f0, x.f1, x.f2))
theorem b91 : Kd.Heap ER := Kd.aIq _ (Kd.aGa (Kd.aIo .i64) (Kd.aGa (Kd.aIo .i64) Kd.aJe))
theorem qP {w : World} {x : S36} {cs : List Value} (h : ER.K w x cs) : cs = [.int .i64 x.f0, .int .i64 x.f1, .string x.f2] := by
 obtain ⟨_, _, rfl, rfl, ⟨_, _, rfl, rfl, rfl⟩⟩ := h
 exact rfl
theorem SS {w : World} {base : Nat} {ok : Nat → Prop} {x : S36} {cs : List Value} (h : ER.M w base ok x cs) : cs = [.int .i64 x.f0, .int .i64 x.f1, .string x.f2] := by
 obtain ⟨_, _, rfl, rfl, ⟨_, _, rfl, rfl, rfl⟩⟩ := h
 exact rfl
theorem a6R (w : World) (base : Nat) (ok : Nat → Prop) (x : S36)  : ER.M w base ok x [.int .i64 x.f0, .int .i64 x.f1, .string x.f2] := ⟨[.int .i64 x.f0], [.int .i64 x.f1, .string x.f2], rfl, rfl, ⟨[.int .i64 x.f1], [.string x.f2], rfl, rfl, rfl⟩⟩
def gT (xs : List S36) (i : Int) : S36 := xs.getD i.toNat z36
theorem Z5 {w : World} {A : Option Addr} {n : Nat} {xs : List S36} (h : Kd.C ER w A n xs) (i : Int) (h0 : 0 ≤ i) (h1 : i < n) : ∃ ad , A = some ad ∧ w.cell? (ad.add (i.toNat * 3)) = some (.int .i64 (gT xs i).f0) ∧ w.cell? ⟨(ad.add (i.toNat * 3)).block, (ad.add (i.toNat * 3)).off + 1, none⟩ = some (.int .i64 (gT xs i).f1) ∧ w.cell? ⟨(ad.add (i.toNat * 3)).block, (ad.add (i.toNat * 3)).off + 2, none⟩ = some (.string (gT xs i).f2) := by
 obtain ⟨ad, c, e, _, hK, hc0⟩ := Kd.aEj h z36 i h0 h1
 have hc : ∀ j u, c[j]? = some u → w.cell? (ad.add (i.toNat * 3 + j)) = some u := hc0
 obtain rfl := qP hK
 exact ⟨ad, e, hc 0 _ rfl, by rw [← aAg _ _ 1 (by omega)]; exact hc 1 _ rfl, by rw [← aAg _ _ 2 (by omega)]; exact hc 2 _ rfl⟩

structure S126 where
 f0 : (List S36)
 f1 : Int
def aEs : S126 := ⟨([] : List S36), (0 : Int)⟩
def jU : Kd S126 := Kd.iso (Kd.pair (Kd.slice 36 ER) (Kd.int .i64)) (fun x : S126 => (x.f0, x.f1))
theorem aZ7 : Kd.Heap jU := Kd.aIq _ (Kd.aGa (Kd.aKu 36 b91) (Kd.aIo .i64))
theorem LM {w : World} {x : S126} {cs : List Value} (h : jU.K w x cs) : ∃ A0 c0, cs = [.slice A0 x.f0.length c0, .int .i64 x.f1] ∧ x.f0.length ≤ c0 ∧ ER.C w A0 x.f0.length x.f0 := by
 obtain ⟨_, _, rfl, ⟨A0, c0, rfl, l0, g0⟩, rfl⟩ := h
 exact ⟨A0, c0, rfl, l0, g0⟩
theorem XW {w : World} {base : Nat} {ok : Nat → Prop} {x : S126} {cs : List Value} (h : jU.M w base ok x cs) : ∃ v0, cs = [v0, .int .i64 x.f1] ∧ ER.R 36 w base ok v0 x.f0 := by
 obtain ⟨_, _, rfl, ⟨v0, rfl, g0⟩, rfl⟩ := h
 exact ⟨v0, rfl, g0⟩
theorem aG9 (w : World) (base : Nat) (ok : Nat → Prop) (x : S126) {v0 : Value} (g0 : ER.R 36 w base ok v0 x.f0) : jU.M w base ok x [v0, .int .i64 x.f1] := ⟨[v0], [.int .i64 x.f1], rfl, ⟨v0, rfl, g0⟩, rfl⟩
def bI (xs : List S126) (i : Int) : S126 := xs.getD i.toNat aEs
theorem G9 {w : World} {A : Option Addr} {n : Nat} {xs : List S126} (h : Kd.C jU w A n xs) (i : Int) (h0 : 0 ≤ i) (h1 : i < n) : ∃ ad A0 c0, A = some ad ∧ w.cell? (ad.add (i.toNat * 2)) = some (.slice A0 (bI xs i).f0.length c0) ∧ w.cell? ⟨(ad.add (i.toNat * 2)).block, (ad.add (i.toNat * 2)).off + 1, none⟩ = some (.int .i64 (bI xs i).f1) ∧ (bI xs i).f0.length ≤ c0 ∧ ER.C w A0 (bI xs i).f0.length (bI xs i).f0 := by
 obtain ⟨ad, c, e, _, hK, hc0⟩ := Kd.aEj h aEs i h0 h1
 have hc : ∀ j u, c[j]? = some u → w.cell? (ad.add (i.toNat * 2 + j)) = some u := hc0
 obtain ⟨A0, c0, rfl, l0, g0⟩ := LM hK
 exact ⟨ad, A0, c0, e, hc 0 _ rfl, by rw [← aAg _ _ 1 (by omega)]; exact hc 1 _ rfl, l0, g0⟩

structure S66 where
 f0 : Int
 f1 : (List S126)
def z66 : S66 := ⟨(0 : Int), ([] : List S126)⟩
def k66 : Kd S66 := Kd.iso (Kd.pair (Kd.int .i64) (Kd.slice 126 jU)) (fun x : S66 => (x.f0, x.f1))
theorem bAE : Kd.Heap k66 := Kd.aIq _ (Kd.aGa (Kd.aIo .i64) (Kd.aKu 126 aZ7))
theorem aHE {w : World} {x : S66} {cs : List Value} (h : k66.K w x cs) : ∃ A1 c1, cs = [.int .i64 x.f0, .slice A1 x.f1.length c1] ∧ x.f1.length ≤ c1 ∧ jU.C w A1 x.f1.length x.f1 := by
 obtain ⟨_, _, rfl, rfl, ⟨A1, c1, rfl, l1, g1⟩⟩ := h
 exact ⟨A1, c1, rfl, l1, g1⟩
theorem a0Y {w : World} {base : Nat} {ok : Nat → Prop} {x : S66} {cs : List Value} (h : k66.M w base ok x cs) : ∃ v1, cs = [.int .i64 x.f0, v1] ∧ jU.R 126 w base ok v1 x.f1 := by
 obtain ⟨_, _, rfl, rfl, ⟨v1, rfl, g1⟩⟩ := h
 exact ⟨v1, rfl, g1⟩
theorem aWH (w : World) (base : Nat) (ok : Nat → Prop) (x : S66) {v1 : Value} (g1 : jU.R 126 w base ok v1 x.f1) : k66.M w base ok x [.int .i64 x.f0, v1] := ⟨[.int .i64 x.f0], [v1], rfl, rfl, ⟨v1, rfl, g1⟩⟩
structure S68 where
 f0 : ByteArray
 f1 : S66
def z68 : S68 := ⟨(⟨#[]⟩ : ByteArray), z66⟩
def BC : Kd S68 := Kd.iso (Kd.pair Kd.string k66) (fun x : S68 => (x.f0, x.f1))
theorem AB : Kd.Heap BC := Kd.aIq _ (Kd.aGa Kd.aJe bAE)
theorem AR {w : World} {x : S68} {cs : List Value} (h : BC.K w x cs) : ∃ A2 c2, cs = [.string x.f0, .int .i64 x.f1.f0, .slice A2 x.f1.f1.length c2] ∧ x.f1.f1.length ≤ c2 ∧ jU.C w A2 x.f1.f1.length x.f1.f1 := by
 obtain ⟨_, _, rfl, rfl, s1⟩ := h
 obtain ⟨A2, c2, rfl, l2, g2⟩ := aHE s1
 exact ⟨A2, c2, rfl, l2, g2⟩
theorem a0V {w : World} {base : Nat} {ok : Nat → Prop} {x : S68} {cs : List Value} (h : BC.M w base ok x cs) : ∃ v2, cs = [.string x.f0, .int .i64 x.f1.f0, v2] ∧ jU.R 126 w base ok v2 x.f1.f1 := by
 obtain ⟨_, _, rfl, rfl, s1⟩ := h
 obtain ⟨v2, rfl, g2⟩ := a0Y s1
 exact ⟨v2, rfl, g2⟩
theorem aKI (w : World) (base : Nat) (ok : Nat → Prop) (x : S68) {v2 : Value} (g2 : jU.R 126 w base ok v2 x.f1.f1) : BC.M w base ok x [.string x.f0, .int .i64 x.f1.f0, v2] := ⟨[.string x.f0], [.int .i64 x.f1.f0, v2], rfl, rfl, (aWH w base ok x.f1 g2)⟩
theorem TY {W : World} {ok : Nat → Prop} {x : S68} {cs : List Value} (h : Kd.FK BC W ok x cs) : ∃ A2 c2, cs = [.string x.f0, .int .i64 x.f1.f0, .slice A2 x.f1.f1.length c2] ∧ x.f1.f1.length ≤ c2 ∧ Kd.F jU W ok A2 x.f1.f1.length x.f1.f1 := by
 obtain ⟨A2, c2, rfl, l2, _⟩ := AR (Kd.aXi h)
 exact ⟨A2, c2, rfl, l2, (fun W' hW => by obtain ⟨A2_, c2_, he, l2_, g2_⟩ := AR (h W' hW); injection (Option.some.inj (show some (Value.slice A2 x.f1.f1.length c2) = some (Value.slice A2_ x.f1.f1.length c2_) from congrArg (fun l => l[2]?) he)) with ha_ _ _; rw [ha_]; exact g2_)⟩
def dE (xs : List S68) (i : Int) : S68 := xs.getD i.toNat z68
theorem DW {w : World} {A : Option Addr} {n : Nat} {xs : List S68} (h : Kd.C BC w A n xs) (i : Int) (h0 : 0 ≤ i) (h1 : i < n) : ∃ ad A2 c2, A = some ad ∧ w.cell? (ad.add (i.toNat * 3)) = some (.string (dE xs i).f0) ∧ w.cell? ⟨(ad.add (i.toNat * 3)).block, (ad.add (i.toNat * 3)).off + 1, none⟩ = some (.int .i64 (dE xs i).f1.f0) ∧ w.cell? ⟨(ad.add (i.toNat * 3)).block, (ad.add (i.toNat * 3)).off + 2, none⟩ = some (.slice A2 (dE xs i).f1.f1.length c2) ∧ (dE xs i).f1.f1.length ≤ c2 ∧ jU.C w A2 (dE xs i).f1.f1.length (dE xs i).f1.f1 := by
 obtain ⟨ad, c, e, _, hK, hc0⟩ := Kd.aEj h z68 i h0 h1
 have hc : ∀ j u, c[j]? = some u → w.cell? (ad.add (i.toNat * 3 + j)) = some u := hc0
 obtain ⟨A2, c2, rfl, l2, g2⟩ := AR hK
 exact ⟨ad, A2, c2, e, hc 0 _ rfl, by rw [← aAg _ _ 1 (by omega)]; exact hc 1 _ rfl, by rw [← aAg _ _ 2 (by omega)]; exact hc 2 _ rfl, l2, g2⟩

structure S27 where
 f0 : Int
 f1 : Int
 f2 : S24
 f3 : ByteArray
 f4 : (List S27)
def z27 : S27 := ⟨(0 : Int), (0 : Int), z24, (⟨#[]⟩ : ByteArray), ([] : List S27)⟩
def F27 (d : Kd S27) : Kd S27 := Kd.iso (Kd.pair (Kd.int .i64) (Kd.pair (Kd.int .i64) (Kd.pair k24 (Kd.pair Kd.string (Kd.slice 27 d))))) (fun x : S27 => (x.f0, x.f1, x.f2, x.f3, x.f4))
theorem cL5 : Kd.Sub F27 [27] := Kd.aLt _ (Kd.aCg (Kd.sub_const _ (by decide)) (Kd.aCg (Kd.sub_const _ (by decide)) (Kd.aCg (Kd.sub_const _ (by decide)) (Kd.aCg (Kd.sub_const _ (by decide)) (Kd.aHd 27 (by decide) Kd.aPb)))))
theorem aYt : ∀ n, (Kd.upto F27 7 [27] n).sz = 7 := Kd.aLx (fun _ => rfl)
def k27 : Kd S27 := Kd.fix F27 7 [27] aYt (Kd.aMq cL5)
theorem aFW {w : World} {x : S27} {cs : List Value} (h : k27.K w x cs) : ∃ A6 c6, cs = [.int .i64 x.f0, .int .i64 x.f1, .int .i64 x.f2.f0, .int .i64 x.f2.f1, .string x.f2.f2, .string x.f3, .slice A6 x.f4.length c6] ∧ x.f4.length ≤ c6 ∧ k27.C w A6 x.f4.length x.f4 := by
 obtain ⟨n, h⟩ := h
 cases n with
 | zero => exact h.elim
 | succ n =>
  obtain ⟨_, _, rfl, rfl, ⟨_, _, rfl, rfl, ⟨_, _, rfl, s2, ⟨_, _, rfl, rfl, ⟨A6, c6, rfl, l6, g6⟩⟩⟩⟩⟩ := h; obtain rfl := aDQ s2; exact ⟨A6, c6, rfl, l6, Kd.aTl g6⟩
def dH (xs : List S27) (i : Int) : S27 := xs.getD i.toNat z27
theorem b4F {w : World} {A : Option Addr} {n : Nat} {xs : List S27} (h : Kd.C k27 w A n xs) (i : Int) (h0 : 0 ≤ i) (h1 : i < n) : ∃ ad A6 c6, A = some ad ∧ w.cell? (ad.add (i.toNat * 7)) = some (.int .i64 (dH xs i).f0) ∧ w.cell? ⟨(ad.add (i.toNat * 7)).block, (ad.add (i.toNat * 7)).off + 1, none⟩ = some (.int .i64 (dH xs i).f1) ∧ w.cell? ⟨(ad.add (i.toNat * 7)).block, (ad.add (i.toNat * 7)).off + 2, none⟩ = some (.int .i64 (dH xs i).f2.f0) ∧ w.cell? ⟨(ad.add (i.toNat * 7)).block, (ad.add (i.toNat * 7)).off + 3, none⟩ = some (.int .i64 (dH xs i).f2.f1) ∧ w.cell? ⟨(ad.add (i.toNat * 7)).block, (ad.add (i.toNat * 7)).off + 4, none⟩ = some (.string (dH xs i).f2.f2) ∧ w.cell? ⟨(ad.add (i.toNat * 7)).block, (ad.add (i.toNat * 7)).off + 5, none⟩ = some (.string (dH xs i).f3) ∧ w.cell? ⟨(ad.add (i.toNat * 7)).block, (ad.add (i.toNat * 7)).off + 6, none⟩ = some (.slice A6 (dH xs i).f4.length c6) ∧ (dH xs i).f4.length ≤ c6 ∧ k27.C w A6 (dH xs i).f4.length (dH xs i).f4 := by
 obtain ⟨ad, c, e, _, hK, hc0⟩ := Kd.aEj h z27 i h0 h1
 have hc : ∀ j u, c[j]? = some u → w.cell? (ad.add (i.toNat * 7 + j)) = some u := hc0
 obtain ⟨A6, c6, rfl, l6, g6⟩ := aFW hK
 exact ⟨ad, A6, c6, e, hc 0 _ rfl, by rw [← aAg _ _ 1 (by omega)]; exact hc 1 _ rfl, by rw [← aAg _ _ 2 (by omega)]; exact hc 2 _ rfl, by rw [← aAg _ _ 3 (by omega)]; exact hc 3 _ rfl, by rw [← aAg _ _ 4 (by omega)]; exact hc 4 _ rfl, by rw [← aAg _ _ 5 (by omega)]; exact hc 5 _ rfl, by rw [← aAg _ _ 6 (by omega)]; exact hc 6 _ rfl, l6, g6⟩

structure S30 where
 f0 : Int
 f1 : ByteArray
 f2 : S27
 f3 : (List S27)
 f4 : Int
 f5 : (List S30)
def z30 : S30 := ⟨(0 : Int), (⟨#[]⟩ : ByteArray), z27, ([] : List S27), (0 : Int), ([] : List S30)⟩
def F30 (d : Kd S30) : Kd S30 := Kd.iso (Kd.pair (Kd.int .i64) (Kd.pair Kd.string (Kd.pair k27 (Kd.pair (Kd.slice 27 k27) (Kd.pair (Kd.int .i64) (Kd.slice 30 d)))))) (fun x : S30 => (x.f0, x.f1, x.f2, x.f3, x.f4, x.f5))
theorem c8D : Kd.Sub F30 [27, 30] := Kd.aLt _ (Kd.aCg (Kd.sub_const _ (by decide)) (Kd.aCg (Kd.sub_const _ (by decide)) (Kd.aCg (Kd.sub_const _ (by decide)) (Kd.aCg (Kd.sub_const _ (by decide)) (Kd.aCg (Kd.sub_const _ (by decide)) (Kd.aHd 30 (by decide) Kd.aPb))))))
theorem aYv : ∀ n, (Kd.upto F30 12 [27, 30] n).sz = 12 := Kd.aLx (fun _ => rfl)
def k30 : Kd S30 := Kd.fix F30 12 [27, 30] aYv (Kd.aMq c8D)
theorem aH9 {w : World} {x : S30} {cs : List Value} (h : k30.K w x cs) : ∃ A8 c8 A9 c9 MX c11, cs = [.int .i64 x.f0, .string x.f1, .int .i64 x.f2.f0, .int .i64 x.f2.f1, .int .i64 x.f2.f2.f0, .int .i64 x.f2.f2.f1, .string x.f2.f2.f2, .string x.f2.f3, .slice A8 x.f2.f4.length c8, .slice A9 x.f3.length c9, .int .i64 x.f4, .slice MX x.f5.length c11] ∧ x.f2.f4.length ≤ c8 ∧ k27.C w A8 x.f2.f4.length x.f2.f4 ∧ x.f3.length ≤ c9 ∧ k27.C w A9 x.f3.length x.f3 ∧ x.f5.length ≤ c11 ∧ k30.C w MX x.f5.length x.f5 := by
 obtain ⟨n, h⟩ := h
 cases n with
 | zero => exact h.elim
 | succ n =>
  obtain ⟨_, _, rfl, rfl, ⟨_, _, rfl, rfl, ⟨_, _, rfl, s2, ⟨_, _, rfl, ⟨A9, c9, rfl, l9, g9⟩, ⟨_, _, rfl, rfl, ⟨MX, c11, rfl, l11, g11⟩⟩⟩⟩⟩⟩ := h; obtain ⟨A8, c8, rfl, l8, g8⟩ := aFW s2; exact ⟨A8, c8, A9, c9, MX, c11, rfl, l8, g8, l9, g9, l11, Kd.aTl g11⟩
def aZ (xs : List S30) (i : Int) : S30 := xs.getD i.toNat z30
theorem b5E {w : World} {A : Option Addr} {n : Nat} {xs : List S30} (h : Kd.C k30 w A n xs) (i : Int) (h0 : 0 ≤ i) (h1 : i < n) : ∃ ad A8 c8 A9 c9 MX c11, A = some ad ∧ w.cell? (ad.add (i.toNat * 12)) = some (.int .i64 (aZ xs i).f0) ∧ w.cell? ⟨(ad.add (i.toNat * 12)).block, (ad.add (i.toNat * 12)).off + 1, none⟩ = some (.string (aZ xs i).f1) ∧ w.cell? ⟨(ad.add (i.toNat * 12)).block, (ad.add (i.toNat * 12)).off + 2, none⟩ = some (.int .i64 (aZ xs i).f2.f0) ∧ w.cell? ⟨(ad.add (i.toNat * 12)).block, (ad.add (i.toNat * 12)).off + 3, none⟩ = some (.int .i64 (aZ xs i).f2.f1) ∧ w.cell? ⟨(ad.add (i.toNat * 12)).block, (ad.add (i.toNat * 12)).off + 4, none⟩ = some (.int .i64 (aZ xs i).f2.f2.f0) ∧ w.cell? ⟨(ad.add (i.toNat * 12)).block, (ad.add (i.toNat * 12)).off + 5, none⟩ = some (.int .i64 (aZ xs i).f2.f2.f1) ∧ w.cell? ⟨(ad.add (i.toNat * 12)).block, (ad.add (i.toNat * 12)).off + 6, none⟩ = some (.string (aZ xs i).f2.f2.f2) ∧ w.cell? ⟨(ad.add (i.toNat * 12)).block, (ad.add (i.toNat * 12)).off + 7, none⟩ = some (.string (aZ xs i).f2.f3) ∧ w.cell? ⟨(ad.add (i.toNat * 12)).block, (ad.add (i.toNat * 12)).off + 8, none⟩ = some (.slice A8 (aZ xs i).f2.f4.length c8) ∧ w.cell? ⟨(ad.add (i.toNat * 12)).block, (ad.add (i.toNat * 12)).off + 9, none⟩ = some (.slice A9 (aZ xs i).f3.length c9) ∧ w.cell? ⟨(ad.add (i.toNat * 12)).block, (ad.add (i.toNat * 12)).off + 10, none⟩ = some (.int .i64 (aZ xs i).f4) ∧ w.cell? ⟨(ad.add (i.toNat * 12)).block, (ad.add (i.toNat * 12)).off + 11, none⟩ = some (.slice MX (aZ xs i).f5.length c11) ∧ (aZ xs i).f2.f4.length ≤ c8 ∧ k27.C w A8 (aZ xs i).f2.f4.length (aZ xs i).f2.f4 ∧ (aZ xs i).f3.length ≤ c9 ∧ k27.C w A9 (aZ xs i).f3.length (aZ xs i).f3 ∧ (aZ xs i).f5.length ≤ c11 ∧ k30.C w MX (aZ xs i).f5.length (aZ xs i).f5 := by
 obtain ⟨ad, c, e, _, hK, hc0⟩ := Kd.aEj h z30 i h0 h1
 have hc : ∀ j u, c[j]? = some u → w.cell? (ad.add (i.toNat * 12 + j)) = some u := hc0
 obtain ⟨A8, c8, A9, c9, MX, c11, rfl, l8, g8, l9, g9, l11, g11⟩ := aH9 hK
 exact ⟨ad, A8, c8, A9, c9, MX, c11, e, hc 0 _ rfl, by rw [← aAg _ _ 1 (by omega)]; exact hc 1 _ rfl, by rw [← aAg _ _ 2 (by omega)]; exact hc 2 _ rfl, by rw [← aAg _ _ 3 (by omega)]; exact hc 3 _ rfl, by rw [← aAg _ _ 4 (by omega)]; exact hc 4 _ rfl, by rw [← aAg _ _ 5 (by omega)]; exact hc 5 _ rfl, by rw [← aAg _ _ 6 (by omega)]; exact hc 6 _ rfl, by rw [← aAg _ _ 7 (by omega)]; exact hc 7 _ rfl, by rw [← aAg _ _ 8 (by omega)]; exact hc 8 _ rfl, by rw [← aAg _ _ 9 (by omega)]; exact hc 9 _ rfl, by rw [← aAg _ _ 10 (by omega)]; exact hc 10 _ rfl, by rw [← aAg _ _ 11 (by omega)]; exact hc 11 _ rfl, l8, g8, l9, g9, l11, g11⟩

structure S79 where
 f0 : ByteArray
 f1 : S30
 f2 : S57
def z79 : S79 := ⟨(⟨#[]⟩ : ByteArray), z30, z57⟩
def k79 : Kd S79 := Kd.iso (Kd.pair Kd.string (Kd.pair k30 k57)) (fun x : S79 => (x.f0, x.f1, x.f2))
theorem b88 {w : World} {x : S79} {cs : List Value} (h : k79.K w x cs) : ∃ A9 c9 RJ c10 KZ c12 SH c14, cs = [.string x.f0, .int .i64 x.f1.f0, .string x.f1.f1, .int .i64 x.f1.f2.f0, .int .i64 x.f1.f2.f1, .int .i64 x.f1.f2.f2.f0, .int .i64 x.f1.f2.f2.f1, .string x.f1.f2.f2.f2, .string x.f1.f2.f3, .slice A9 x.f1.f2.f4.length c9, .slice RJ x.f1.f3.length c10, .int .i64 x.f1.f4, .slice KZ x.f1.f5.length c12, .int .i64 x.f2.f0, .slice SH x.f2.f1.length c14] ∧ x.f1.f2.f4.length ≤ c9 ∧ k27.C w A9 x.f1.f2.f4.length x.f1.f2.f4 ∧ x.f1.f3.length ≤ c10 ∧ k27.C w RJ x.f1.f3.length x.f1.f3 ∧ x.f1.f5.length ≤ c12 ∧ k30.C w KZ x.f1.f5.length x.f1.f5 ∧ x.f2.f1.length ≤ c14 ∧ aNa.C w SH x.f2.f1.length x.f2.f1 := by
 obtain ⟨_, _, rfl, rfl, ⟨_, _, rfl, s1, s13⟩⟩ := h
 obtain ⟨A9, c9, RJ, c10, KZ, c12, rfl, l9, g9, l10, g10, l12, g12⟩ := aH9 s1
 obtain ⟨SH, c14, rfl, l14, g14⟩ := aDF s13
 exact ⟨A9, c9, RJ, c10, KZ, c12, SH, c14, rfl, l9, g9, l10, g10, l12, g12, l14, g14⟩
def bH (xs : List S79) (i : Int) : S79 := xs.getD i.toNat z79
theorem b6P {w : World} {A : Option Addr} {n : Nat} {xs : List S79} (h : Kd.C k79 w A n xs) (i : Int) (h0 : 0 ≤ i) (h1 : i < n) : ∃ ad A9 c9 RJ c10 KZ c12 SH c14, A = some ad ∧ w.cell? (ad.add (i.toNat * 15)) = some (.string (bH xs i).f0) ∧ w.cell? ⟨(ad.add (i.toNat * 15)).block, (ad.add (i.toNat * 15)).off + 1, none⟩ = some (.int .i64 (bH xs i).f1.f0) ∧ w.cell? ⟨(ad.add (i.toNat * 15)).block, (ad.add (i.toNat * 15)).off + 2, none⟩ = some (.string (bH xs i).f1.f1) ∧ w.cell? ⟨(ad.add (i.toNat * 15)).block, (ad.add (i.toNat * 15)).off + 3, none⟩ = some (.int .i64 (bH xs i).f1.f2.f0) ∧ w.cell? ⟨(ad.add (i.toNat * 15)).block, (ad.add (i.toNat * 15)).off + 4, none⟩ = some (.int .i64 (bH xs i).f1.f2.f1) ∧ w.cell? ⟨(ad.add (i.toNat * 15)).block, (ad.add (i.toNat * 15)).off + 5, none⟩ = some (.int .i64 (bH xs i).f1.f2.f2.f0) ∧ w.cell? ⟨(ad.add (i.toNat * 15)).block, (ad.add (i.toNat * 15)).off + 6, none⟩ = some (.int .i64 (bH xs i).f1.f2.f2.f1) ∧ w.cell? ⟨(ad.add (i.toNat * 15)).block, (ad.add (i.toNat * 15)).off + 7, none⟩ = some (.string (bH xs i).f1.f2.f2.f2) ∧ w.cell? ⟨(ad.add (i.toNat * 15)).block, (ad.add (i.toNat * 15)).off + 8, none⟩ = some (.string (bH xs i).f1.f2.f3) ∧ w.cell? ⟨(ad.add (i.toNat * 15)).block, (ad.add (i.toNat * 15)).off + 9, none⟩ = some (.slice A9 (bH xs i).f1.f2.f4.length c9) ∧ w.cell? ⟨(ad.add (i.toNat * 15)).block, (ad.add (i.toNat * 15)).off + 10, none⟩ = some (.slice RJ (bH xs i).f1.f3.length c10) ∧ w.cell? ⟨(ad.add (i.toNat * 15)).block, (ad.add (i.toNat * 15)).off + 11, none⟩ = some (.int .i64 (bH xs i).f1.f4) ∧ w.cell? ⟨(ad.add (i.toNat * 15)).block, (ad.add (i.toNat * 15)).off + 12, none⟩ = some (.slice KZ (bH xs i).f1.f5.length c12) ∧ w.cell? ⟨(ad.add (i.toNat * 15)).block, (ad.add (i.toNat * 15)).off + 13, none⟩ = some (.int .i64 (bH xs i).f2.f0) ∧ w.cell? ⟨(ad.add (i.toNat * 15)).block, (ad.add (i.toNat * 15)).off + 14, none⟩ = some (.slice SH (bH xs i).f2.f1.length c14) ∧ (bH xs i).f1.f2.f4.length ≤ c9 ∧ k27.C w A9 (bH xs i).f1.f2.f4.length (bH xs i).f1.f2.f4 ∧ (bH xs i).f1.f3.length ≤ c10 ∧ k27.C w RJ (bH xs i).f1.f3.length (bH xs i).f1.f3 ∧ (bH xs i).f1.f5.length ≤ c12 ∧ k30.C w KZ (bH xs i).f1.f5.length (bH xs i).f1.f5 ∧ (bH xs i).f2.f1.length ≤ c14 ∧ aNa.C w SH (bH xs i).f2.f1.length (bH xs i).f2.f1 := by
 obtain ⟨ad, c, e, _, hK, hc0⟩ := Kd.aEj h z79 i h0 h1
 have hc : ∀ j u, c[j]? = some u → w.cell? (ad.add (i.toNat * 15 + j)) = some u := hc0
 obtain ⟨A9, c9, RJ, c10, KZ, c12, SH, c14, rfl, l9, g9, l10, g10, l12, g12, l14, g14⟩ := b88 hK
 exact ⟨ad, A9, c9, RJ, c10, KZ, c12, SH, c14, e, hc 0 _ rfl, by rw [← aAg _ _ 1 (by omega)]; exact hc 1 _ rfl, by rw [← aAg _ _ 2 (by omega)]; exact hc 2 _ rfl, by rw [← aAg _ _ 3 (by omega)]; exact hc 3 _ rfl, by rw [← aAg _ _ 4 (by omega)]; exact hc 4 _ rfl, by rw [← aAg _ _ 5 (by omega)]; exact hc 5 _ rfl, by rw [← aAg _ _ 6 (by omega)]; exact hc 6 _ rfl, by rw [← aAg _ _ 7 (by omega)]; exact hc 7 _ rfl, by rw [← aAg _ _ 8 (by omega)]; exact hc 8 _ rfl, by rw [← aAg _ _ 9 (by omega)]; exact hc 9 _ rfl, by rw [← aAg _ _ 10 (by omega)]; exact hc 10 _ rfl, by rw [← aAg _ _ 11 (by omega)]; exact hc 11 _ rfl, by rw [← aAg _ _ 12 (by omega)]; exact hc 12 _ rfl, by rw [← aAg _ _ 13 (by omega)]; exact hc 13 _ rfl, by rw [← aAg _ _ 14 (by omega)]; exact hc 14 _ rfl, l9, g9, l10, g10, l12, g12, l14, g14⟩

structure S39 where
 f0 : Int
 f1 : Int
 f2 : S36
 f3 : ByteArray
 f4 : (List S39)
def z39 : S39 := ⟨(0 : Int), (0 : Int), z36, (⟨#[]⟩ : ByteArray), ([] : List S39)⟩
def F39 (d : Kd S39) : Kd S39 := Kd.iso (Kd.pair (Kd.int .i64) (Kd.pair (Kd.int .i64) (Kd.pair ER (Kd.pair Kd.string (Kd.slice 39 d))))) (fun x : S39 => (x.f0, x.f1, x.f2, x.f3, x.f4))
theorem b28 : Kd.Mono F39 := Kd.aOr _ (Kd.aDr (Kd.aDc _) (Kd.aDr (Kd.aDc _) (Kd.aDr (Kd.aDc _) (Kd.aDr (Kd.aDc _) (Kd.aKo 39 Kd.aRa)))))
theorem cMF : Kd.Sub F39 [39] := Kd.aLt _ (Kd.aCg (Kd.sub_const _ (by decide)) (Kd.aCg (Kd.sub_const _ (by decide)) (Kd.aCg (Kd.sub_const _ (by decide)) (Kd.aCg (Kd.sub_const _ (by decide)) (Kd.aHd 39 (by decide) Kd.aPb)))))
theorem cG5 : ∀ n, (Kd.upto F39 7 [39] n).sz = 7 := Kd.aLx (fun _ => rfl)
def jX : Kd S39 := Kd.fix F39 7 [39] cG5 (Kd.aMq cMF)
theorem zY {w : World} {x : S39} {cs : List Value} (h : jX.K w x cs) : ∃ A6 c6, cs = [.int .i64 x.f0, .int .i64 x.f1, .int .i64 x.f2.f0, .int .i64 x.f2.f1, .string x.f2.f2, .string x.f3, .slice A6 x.f4.length c6] ∧ x.f4.length ≤ c6 ∧ jX.C w A6 x.f4.length x.f4 := by
 obtain ⟨n, h⟩ := h
 cases n with
 | zero => exact h.elim
 | succ n =>
  obtain ⟨_, _, rfl, rfl, ⟨_, _, rfl, rfl, ⟨_, _, rfl, s2, ⟨_, _, rfl, rfl, ⟨A6, c6, rfl, l6, g6⟩⟩⟩⟩⟩ := h; obtain rfl := qP s2; exact ⟨A6, c6, rfl, l6, Kd.aTl g6⟩
theorem TL {w : World} {base : Nat} {ok : Nat → Prop} {x : S39} {cs : List Value} (h : jX.M w base ok x cs) : ∃ v6, cs = [.int .i64 x.f0, .int .i64 x.f1, .int .i64 x.f2.f0, .int .i64 x.f2.f1, .string x.f2.f2, .string x.f3, v6] ∧ jX.R 39 w base ok v6 x.f4 := by
 obtain ⟨n, h⟩ := h
 cases n with
 | zero => exact h.elim
 | succ n =>
  obtain ⟨_, _, rfl, rfl, ⟨_, _, rfl, rfl, ⟨_, _, rfl, s2, ⟨_, _, rfl, rfl, ⟨v6, rfl, g6⟩⟩⟩⟩⟩ := h; obtain rfl := SS s2; exact ⟨v6, rfl, Kd.aWt g6⟩
theorem aAB (w : World) (base : Nat) (ok : Nat → Prop) (x : S39) {v6 : Value} (g6 : jX.R 39 w base ok v6 x.f4) : jX.M w base ok x [.int .i64 x.f0, .int .i64 x.f1, .int .i64 x.f2.f0, .int .i64 x.f2.f1, .string x.f2.f2, .string x.f3, v6] := by
 obtain ⟨n6, q6⟩ := Kd.aKi b28 g6
 have r6 := Kd.aMz b28 cG5 (show n6 ≤ n6 by omega) q6
 exact ⟨n6 + 1, ⟨[.int .i64 x.f0], [.int .i64 x.f1, .int .i64 x.f2.f0, .int .i64 x.f2.f1, .string x.f2.f2, .string x.f3, v6], rfl, rfl, ⟨[.int .i64 x.f1], [.int .i64 x.f2.f0, .int .i64 x.f2.f1, .string x.f2.f2, .string x.f3, v6], rfl, rfl, ⟨[.int .i64 x.f2.f0, .int .i64 x.f2.f1, .string x.f2.f2], [.string x.f3, v6], rfl, (a6R w base ok x.f2 ), ⟨[.string x.f3], [v6], rfl, rfl, ⟨v6, rfl, r6⟩⟩⟩⟩⟩⟩
def aAh (xs : List S39) (i : Int) : S39 := xs.getD i.toNat z39
theorem I5 {w : World} {A : Option Addr} {n : Nat} {xs : List S39} (h : Kd.C jX w A n xs) (i : Int) (h0 : 0 ≤ i) (h1 : i < n) : ∃ ad A6 c6, A = some ad ∧ w.cell? (ad.add (i.toNat * 7)) = some (.int .i64 (aAh xs i).f0) ∧ w.cell? ⟨(ad.add (i.toNat * 7)).block, (ad.add (i.toNat * 7)).off + 1, none⟩ = some (.int .i64 (aAh xs i).f1) ∧ w.cell? ⟨(ad.add (i.toNat * 7)).block, (ad.add (i.toNat * 7)).off + 2, none⟩ = some (.int .i64 (aAh xs i).f2.f0) ∧ w.cell? ⟨(ad.add (i.toNat * 7)).block, (ad.add (i.toNat * 7)).off + 3, none⟩ = some (.int .i64 (aAh xs i).f2.f1) ∧ w.cell? ⟨(ad.add (i.toNat * 7)).block, (ad.add (i.toNat * 7)).off + 4, none⟩ = some (.string (aAh xs i).f2.f2) ∧ w.cell? ⟨(ad.add (i.toNat * 7)).block, (ad.add (i.toNat * 7)).off + 5, none⟩ = some (.string (aAh xs i).f3) ∧ w.cell? ⟨(ad.add (i.toNat * 7)).block, (ad.add (i.toNat * 7)).off + 6, none⟩ = some (.slice A6 (aAh xs i).f4.length c6) ∧ (aAh xs i).f4.length ≤ c6 ∧ jX.C w A6 (aAh xs i).f4.length (aAh xs i).f4 := by
 obtain ⟨ad, c, e, _, hK, hc0⟩ := Kd.aEj h z39 i h0 h1
 have hc : ∀ j u, c[j]? = some u → w.cell? (ad.add (i.toNat * 7 + j)) = some u := hc0
 obtain ⟨A6, c6, rfl, l6, g6⟩ := zY hK
 exact ⟨ad, A6, c6, e, hc 0 _ rfl, by rw [← aAg _ _ 1 (by omega)]; exact hc 1 _ rfl, by rw [← aAg _ _ 2 (by omega)]; exact hc 2 _ rfl, by rw [← aAg _ _ 3 (by omega)]; exact hc 3 _ rfl, by rw [← aAg _ _ 4 (by omega)]; exact hc 4 _ rfl, by rw [← aAg _ _ 5 (by omega)]; exact hc 5 _ rfl, by rw [← aAg _ _ 6 (by omega)]; exact hc 6 _ rfl, l6, g6⟩

structure S42 where
 f0 : Int
 f1 : ByteArray
 f2 : S39
 f3 : (List S39)
 f4 : Int
 f5 : (List S42)
def z42 : S42 := ⟨(0 : Int), (⟨#[]⟩ : ByteArray), z39, ([] : List S39), (0 : Int), ([] : List S42)⟩
def F42 (d : Kd S42) : Kd S42 := Kd.iso (Kd.pair (Kd.int .i64) (Kd.pair Kd.string (Kd.pair jX (Kd.pair (Kd.slice 39 jX) (Kd.pair (Kd.int .i64) (Kd.slice 42 d)))))) (fun x : S42 => (x.f0, x.f1, x.f2, x.f3, x.f4, x.f5))
theorem b76 : Kd.Mono F42 := Kd.aOr _ (Kd.aDr (Kd.aDc _) (Kd.aDr (Kd.aDc _) (Kd.aDr (Kd.aDc _) (Kd.aDr (Kd.aDc _) (Kd.aDr (Kd.aDc _) (Kd.aKo 42 Kd.aRa))))))
theorem cKP : Kd.Sub F42 [39, 42] := Kd.aLt _ (Kd.aCg (Kd.sub_const _ (by decide)) (Kd.aCg (Kd.sub_const _ (by decide)) (Kd.aCg (Kd.sub_const _ (by decide)) (Kd.aCg (Kd.sub_const _ (by decide)) (Kd.aCg (Kd.sub_const _ (by decide)) (Kd.aHd 42 (by decide) Kd.aPb))))))
theorem cA2 : ∀ n, (Kd.upto F42 12 [39, 42] n).sz = 12 := Kd.aLx (fun _ => rfl)
def E5 : Kd S42 := Kd.fix F42 12 [39, 42] cA2 (Kd.aMq cKP)
theorem aCP {w : World} {x : S42} {cs : List Value} (h : E5.K w x cs) : ∃ A8 c8 A9 c9 MX c11, cs = [.int .i64 x.f0, .string x.f1, .int .i64 x.f2.f0, .int .i64 x.f2.f1, .int .i64 x.f2.f2.f0, .int .i64 x.f2.f2.f1, .string x.f2.f2.f2, .string x.f2.f3, .slice A8 x.f2.f4.length c8, .slice A9 x.f3.length c9, .int .i64 x.f4, .slice MX x.f5.length c11] ∧ x.f2.f4.length ≤ c8 ∧ jX.C w A8 x.f2.f4.length x.f2.f4 ∧ x.f3.length ≤ c9 ∧ jX.C w A9 x.f3.length x.f3 ∧ x.f5.length ≤ c11 ∧ E5.C w MX x.f5.length x.f5 := by
 obtain ⟨n, h⟩ := h
 cases n with
 | zero => exact h.elim
 | succ n =>
  obtain ⟨_, _, rfl, rfl, ⟨_, _, rfl, rfl, ⟨_, _, rfl, s2, ⟨_, _, rfl, ⟨A9, c9, rfl, l9, g9⟩, ⟨_, _, rfl, rfl, ⟨MX, c11, rfl, l11, g11⟩⟩⟩⟩⟩⟩ := h; obtain ⟨A8, c8, rfl, l8, g8⟩ := zY s2; exact ⟨A8, c8, A9, c9, MX, c11, rfl, l8, g8, l9, g9, l11, Kd.aTl g11⟩
theorem TC {w : World} {base : Nat} {ok : Nat → Prop} {x : S42} {cs : List Value} (h : E5.M w base ok x cs) : ∃ v8 v9 v11, cs = [.int .i64 x.f0, .string x.f1, .int .i64 x.f2.f0, .int .i64 x.f2.f1, .int .i64 x.f2.f2.f0, .int .i64 x.f2.f2.f1, .string x.f2.f2.f2, .string x.f2.f3, v8, v9, .int .i64 x.f4, v11] ∧ jX.R 39 w base ok v8 x.f2.f4 ∧ jX.R 39 w base ok v9 x.f3 ∧ E5.R 42 w base ok v11 x.f5 := by
 obtain ⟨n, h⟩ := h
 cases n with
 | zero => exact h.elim
 | succ n =>
  obtain ⟨_, _, rfl, rfl, ⟨_, _, rfl, rfl, ⟨_, _, rfl, s2, ⟨_, _, rfl, ⟨v9, rfl, g9⟩, ⟨_, _, rfl, rfl, ⟨v11, rfl, g11⟩⟩⟩⟩⟩⟩ := h; obtain ⟨v8, rfl, g8⟩ := TL s2; exact ⟨v8, v9, v11, rfl, g8, g9, Kd.aWt g11⟩
theorem a3U (w : World) (base : Nat) (ok : Nat → Prop) (x : S42) {v8 : Value} (g8 : jX.R 39 w base ok v8 x.f2.f4) {v9 : Value} (g9 : jX.R 39 w base ok v9 x.f3) {v11 : Value} (g11 : E5.R 42 w base ok v11 x.f5) : E5.M w base ok x [.int .i64 x.f0, .string x.f1, .int .i64 x.f2.f0, .int .i64 x.f2.f1, .int .i64 x.f2.f2.f0, .int .i64 x.f2.f2.f1, .string x.f2.f2.f2, .string x.f2.f3, v8, v9, .int .i64 x.f4, v11] := by
 obtain ⟨n11, q11⟩ := Kd.aKi b76 g11
 have r11 := Kd.aMz b76 cA2 (show n11 ≤ n11 by omega) q11
 exact ⟨n11 + 1, ⟨[.int .i64 x.f0], [.string x.f1, .int .i64 x.f2.f0, .int .i64 x.f2.f1, .int .i64 x.f2.f2.f0, .int .i64 x.f2.f2.f1, .string x.f2.f2.f2, .string x.f2.f3, v8, v9, .int .i64 x.f4, v11], rfl, rfl, ⟨[.string x.f1], [.int .i64 x.f2.f0, .int .i64 x.f2.f1, .int .i64 x.f2.f2.f0, .int .i64 x.f2.f2.f1, .string x.f2.f2.f2, .string x.f2.f3, v8, v9, .int .i64 x.f4, v11], rfl, rfl, ⟨[.int .i64 x.f2.f0, .int .i64 x.f2.f1, .int .i64 x.f2.f2.f0, .int .i64 x.f2.f2.f1, .string x.f2.f2.f2, .string x.f2.f3, v8], [v9, .int .i64 x.f4, v11], rfl, (aAB w base ok x.f2 g8), ⟨[v9], [.int .i64 x.f4, v11], rfl, ⟨v9, rfl, g9⟩, ⟨[.int .i64 x.f4], [v11], rfl, rfl, ⟨v11, rfl, r11⟩⟩⟩⟩⟩⟩⟩
def aAe (xs : List S42) (i : Int) : S42 := xs.getD i.toNat z42
theorem YA {w : World} {A : Option Addr} {n : Nat} {xs : List S42} (h : Kd.C E5 w A n xs) (i : Int) (h0 : 0 ≤ i) (h1 : i < n) : ∃ ad A8 c8 A9 c9 MX c11, A = some ad ∧ w.cell? (ad.add (i.toNat * 12)) = some (.int .i64 (aAe xs i).f0) ∧ w.cell? ⟨(ad.add (i.toNat * 12)).block, (ad.add (i.toNat * 12)).off + 1, none⟩ = some (.string (aAe xs i).f1) ∧ w.cell? ⟨(ad.add (i.toNat * 12)).block, (ad.add (i.toNat * 12)).off + 2, none⟩ = some (.int .i64 (aAe xs i).f2.f0) ∧ w.cell? ⟨(ad.add (i.toNat * 12)).block, (ad.add (i.toNat * 12)).off + 3, none⟩ = some (.int .i64 (aAe xs i).f2.f1) ∧ w.cell? ⟨(ad.add (i.toNat * 12)).block, (ad.add (i.toNat * 12)).off + 4, none⟩ = some (.int .i64 (aAe xs i).f2.f2.f0) ∧ w.cell? ⟨(ad.add (i.toNat * 12)).block, (ad.add (i.toNat * 12)).off + 5, none⟩ = some (.int .i64 (aAe xs i).f2.f2.f1) ∧ w.cell? ⟨(ad.add (i.toNat * 12)).block, (ad.add (i.toNat * 12)).off + 6, none⟩ = some (.string (aAe xs i).f2.f2.f2) ∧ w.cell? ⟨(ad.add (i.toNat * 12)).block, (ad.add (i.toNat * 12)).off + 7, none⟩ = some (.string (aAe xs i).f2.f3) ∧ w.cell? ⟨(ad.add (i.toNat * 12)).block, (ad.add (i.toNat * 12)).off + 8, none⟩ = some (.slice A8 (aAe xs i).f2.f4.length c8) ∧ w.cell? ⟨(ad.add (i.toNat * 12)).block, (ad.add (i.toNat * 12)).off + 9, none⟩ = some (.slice A9 (aAe xs i).f3.length c9) ∧ w.cell? ⟨(ad.add (i.toNat * 12)).block, (ad.add (i.toNat * 12)).off + 10, none⟩ = some (.int .i64 (aAe xs i).f4) ∧ w.cell? ⟨(ad.add (i.toNat * 12)).block, (ad.add (i.toNat * 12)).off + 11, none⟩ = some (.slice MX (aAe xs i).f5.length c11) ∧ (aAe xs i).f2.f4.length ≤ c8 ∧ jX.C w A8 (aAe xs i).f2.f4.length (aAe xs i).f2.f4 ∧ (aAe xs i).f3.length ≤ c9 ∧ jX.C w A9 (aAe xs i).f3.length (aAe xs i).f3 ∧ (aAe xs i).f5.length ≤ c11 ∧ E5.C w MX (aAe xs i).f5.length (aAe xs i).f5 := by
 obtain ⟨ad, c, e, _, hK, hc0⟩ := Kd.aEj h z42 i h0 h1
 have hc : ∀ j u, c[j]? = some u → w.cell? (ad.add (i.toNat * 12 + j)) = some u := hc0
 obtain ⟨A8, c8, A9, c9, MX, c11, rfl, l8, g8, l9, g9, l11, g11⟩ := aCP hK
 exact ⟨ad, A8, c8, A9, c9, MX, c11, e, hc 0 _ rfl, by rw [← aAg _ _ 1 (by omega)]; exact hc 1 _ rfl, by rw [← aAg _ _ 2 (by omega)]; exact hc 2 _ rfl, by rw [← aAg _ _ 3 (by omega)]; exact hc 3 _ rfl, by rw [← aAg _ _ 4 (by omega)]; exact hc 4 _ rfl, by rw [← aAg _ _ 5 (by omega)]; exact hc 5 _ rfl, by rw [← aAg _ _ 6 (by omega)]; exact hc 6 _ rfl, by rw [← aAg _ _ 7 (by omega)]; exact hc 7 _ rfl, by rw [← aAg _ _ 8 (by omega)]; exact hc 8 _ rfl, by rw [← aAg _ _ 9 (by omega)]; exact hc 9 _ rfl, by rw [← aAg _ _ 10 (by omega)]; exact hc 10 _ rfl, by rw [← aAg _ _ 11 (by omega)]; exact hc 11 _ rfl, l8, g8, l9, g9, l11, g11⟩

structure S83 where
 f0 : ByteArray
 f1 : S42
 f2 : S66
def z83 : S83 := ⟨(⟨#[]⟩ : ByteArray), z42, z66⟩
def X8 : Kd S83 := Kd.iso (Kd.pair Kd.string (Kd.pair E5 k66)) (fun x : S83 => (x.f0, x.f1, x.f2))
theorem RZ {w : World} {x : S83} {cs : List Value} (h : X8.K w x cs) : ∃ A9 c9 RJ c10 KZ c12 SH c14, cs = [.string x.f0, .int .i64 x.f1.f0, .string x.f1.f1, .int .i64 x.f1.f2.f0, .int .i64 x.f1.f2.f1, .int .i64 x.f1.f2.f2.f0, .int .i64 x.f1.f2.f2.f1, .string x.f1.f2.f2.f2, .string x.f1.f2.f3, .slice A9 x.f1.f2.f4.length c9, .slice RJ x.f1.f3.length c10, .int .i64 x.f1.f4, .slice KZ x.f1.f5.length c12, .int .i64 x.f2.f0, .slice SH x.f2.f1.length c14] ∧ x.f1.f2.f4.length ≤ c9 ∧ jX.C w A9 x.f1.f2.f4.length x.f1.f2.f4 ∧ x.f1.f3.length ≤ c10 ∧ jX.C w RJ x.f1.f3.length x.f1.f3 ∧ x.f1.f5.length ≤ c12 ∧ E5.C w KZ x.f1.f5.length x.f1.f5 ∧ x.f2.f1.length ≤ c14 ∧ jU.C w SH x.f2.f1.length x.f2.f1 := by
 obtain ⟨_, _, rfl, rfl, ⟨_, _, rfl, s1, s13⟩⟩ := h
 obtain ⟨A9, c9, RJ, c10, KZ, c12, rfl, l9, g9, l10, g10, l12, g12⟩ := aCP s1
 obtain ⟨SH, c14, rfl, l14, g14⟩ := aHE s13
 exact ⟨A9, c9, RJ, c10, KZ, c12, SH, c14, rfl, l9, g9, l10, g10, l12, g12, l14, g14⟩
theorem a1X {w : World} {base : Nat} {ok : Nat → Prop} {x : S83} {cs : List Value} (h : X8.M w base ok x cs) : ∃ v9 v10 v12 v14, cs = [.string x.f0, .int .i64 x.f1.f0, .string x.f1.f1, .int .i64 x.f1.f2.f0, .int .i64 x.f1.f2.f1, .int .i64 x.f1.f2.f2.f0, .int .i64 x.f1.f2.f2.f1, .string x.f1.f2.f2.f2, .string x.f1.f2.f3, v9, v10, .int .i64 x.f1.f4, v12, .int .i64 x.f2.f0, v14] ∧ jX.R 39 w base ok v9 x.f1.f2.f4 ∧ jX.R 39 w base ok v10 x.f1.f3 ∧ E5.R 42 w base ok v12 x.f1.f5 ∧ jU.R 126 w base ok v14 x.f2.f1 := by
 obtain ⟨_, _, rfl, rfl, ⟨_, _, rfl, s1, s13⟩⟩ := h
 obtain ⟨v9, v10, v12, rfl, g9, g10, g12⟩ := TC s1
 obtain ⟨v14, rfl, g14⟩ := a0Y s13
 exact ⟨v9, v10, v12, v14, rfl, g9, g10, g12, g14⟩
theorem aPW (w : World) (base : Nat) (ok : Nat → Prop) (x : S83) {v9 : Value} (g9 : jX.R 39 w base ok v9 x.f1.f2.f4) {v10 : Value} (g10 : jX.R 39 w base ok v10 x.f1.f3) {v12 : Value} (g12 : E5.R 42 w base ok v12 x.f1.f5) {v14 : Value} (g14 : jU.R 126 w base ok v14 x.f2.f1) : X8.M w base ok x [.string x.f0, .int .i64 x.f1.f0, .string x.f1.f1, .int .i64 x.f1.f2.f0, .int .i64 x.f1.f2.f1, .int .i64 x.f1.f2.f2.f0, .int .i64 x.f1.f2.f2.f1, .string x.f1.f2.f2.f2, .string x.f1.f2.f3, v9, v10, .int .i64 x.f1.f4, v12, .int .i64 x.f2.f0, v14] := ⟨[.string x.f0], [.int .i64 x.f1.f0, .string x.f1.f1, .int .i64 x.f1.f2.f0, .int .i64 x.f1.f2.f1, .int .i64 x.f1.f2.f2.f0, .int .i64 x.f1.f2.f2.f1, .string x.f1.f2.f2.f2, .string x.f1.f2.f3, v9, v10, .int .i64 x.f1.f4, v12, .int .i64 x.f2.f0, v14], rfl, rfl, ⟨[.int .i64 x.f1.f0, .string x.f1.f1, .int .i64 x.f1.f2.f0, .int .i64 x.f1.f2.f1, .int .i64 x.f1.f2.f2.f0, .int .i64 x.f1.f2.f2.f1, .string x.f1.f2.f2.f2, .string x.f1.f2.f3, v9, v10, .int .i64 x.f1.f4, v12], [.int .i64 x.f2.f0, v14], rfl, (a3U w base ok x.f1 g9 g10 g12), (aWH w base ok x.f2 g14)⟩⟩
def aAl (xs : List S83) (i : Int) : S83 := xs.getD i.toNat z83
theorem IM {w : World} {A : Option Addr} {n : Nat} {xs : List S83} (h : Kd.C X8 w A n xs) (i : Int) (h0 : 0 ≤ i) (h1 : i < n) : ∃ ad A9 c9 RJ c10 KZ c12 SH c14, A = some ad ∧ w.cell? (ad.add (i.toNat * 15)) = some (.string (aAl xs i).f0) ∧ w.cell? ⟨(ad.add (i.toNat * 15)).block, (ad.add (i.toNat * 15)).off + 1, none⟩ = some (.int .i64 (aAl xs i).f1.f0) ∧ w.cell? ⟨(ad.add (i.toNat * 15)).block, (ad.add (i.toNat * 15)).off + 2, none⟩ = some (.string (aAl xs i).f1.f1) ∧ w.cell? ⟨(ad.add (i.toNat * 15)).block, (ad.add (i.toNat * 15)).off + 3, none⟩ = some (.int .i64 (aAl xs i).f1.f2.f0) ∧ w.cell? ⟨(ad.add (i.toNat * 15)).block, (ad.add (i.toNat * 15)).off + 4, none⟩ = some (.int .i64 (aAl xs i).f1.f2.f1) ∧ w.cell? ⟨(ad.add (i.toNat * 15)).block, (ad.add (i.toNat * 15)).off + 5, none⟩ = some (.int .i64 (aAl xs i).f1.f2.f2.f0) ∧ w.cell? ⟨(ad.add (i.toNat * 15)).block, (ad.add (i.toNat * 15)).off + 6, none⟩ = some (.int .i64 (aAl xs i).f1.f2.f2.f1) ∧ w.cell? ⟨(ad.add (i.toNat * 15)).block, (ad.add (i.toNat * 15)).off + 7, none⟩ = some (.string (aAl xs i).f1.f2.f2.f2) ∧ w.cell? ⟨(ad.add (i.toNat * 15)).block, (ad.add (i.toNat * 15)).off + 8, none⟩ = some (.string (aAl xs i).f1.f2.f3) ∧ w.cell? ⟨(ad.add (i.toNat * 15)).block, (ad.add (i.toNat * 15)).off + 9, none⟩ = some (.slice A9 (aAl xs i).f1.f2.f4.length c9) ∧ w.cell? ⟨(ad.add (i.toNat * 15)).block, (ad.add (i.toNat * 15)).off + 10, none⟩ = some (.slice RJ (aAl xs i).f1.f3.length c10) ∧ w.cell? ⟨(ad.add (i.toNat * 15)).block, (ad.add (i.toNat * 15)).off + 11, none⟩ = some (.int .i64 (aAl xs i).f1.f4) ∧ w.cell? ⟨(ad.add (i.toNat * 15)).block, (ad.add (i.toNat * 15)).off + 12, none⟩ = some (.slice KZ (aAl xs i).f1.f5.length c12) ∧ w.cell? ⟨(ad.add (i.toNat * 15)).block, (ad.add (i.toNat * 15)).off + 13, none⟩ = some (.int .i64 (aAl xs i).f2.f0) ∧ w.cell? ⟨(ad.add (i.toNat * 15)).block, (ad.add (i.toNat * 15)).off + 14, none⟩ = some (.slice SH (aAl xs i).f2.f1.length c14) ∧ (aAl xs i).f1.f2.f4.length ≤ c9 ∧ jX.C w A9 (aAl xs i).f1.f2.f4.length (aAl xs i).f1.f2.f4 ∧ (aAl xs i).f1.f3.length ≤ c10 ∧ jX.C w RJ (aAl xs i).f1.f3.length (aAl xs i).f1.f3 ∧ (aAl xs i).f1.f5.length ≤ c12 ∧ E5.C w KZ (aAl xs i).f1.f5.length (aAl xs i).f1.f5 ∧ (aAl xs i).f2.f1.length ≤ c14 ∧ jU.C w SH (aAl xs i).f2.f1.length (aAl xs i).f2.f1 := by
 obtain ⟨ad, c, e, _, hK, hc0⟩ := Kd.aEj h z83 i h0 h1
 have hc : ∀ j u, c[j]? = some u → w.cell? (ad.add (i.toNat * 15 + j)) = some u := hc0
 obtain ⟨A9, c9, RJ, c10, KZ, c12, SH, c14, rfl, l9, g9, l10, g10, l12, g12, l14, g14⟩ := RZ hK
 exact ⟨ad, A9, c9, RJ, c10, KZ, c12, SH, c14, e, hc 0 _ rfl, by rw [← aAg _ _ 1 (by omega)]; exact hc 1 _ rfl, by rw [← aAg _ _ 2 (by omega)]; exact hc 2 _ rfl, by rw [← aAg _ _ 3 (by omega)]; exact hc 3 _ rfl, by rw [← aAg _ _ 4 (by omega)]; exact hc 4 _ rfl, by rw [← aAg _ _ 5 (by omega)]; exact hc 5 _ rfl, by rw [← aAg _ _ 6 (by omega)]; exact hc 6 _ rfl, by rw [← aAg _ _ 7 (by omega)]; exact hc 7 _ rfl, by rw [← aAg _ _ 8 (by omega)]; exact hc 8 _ rfl, by rw [← aAg _ _ 9 (by omega)]; exact hc 9 _ rfl, by rw [← aAg _ _ 10 (by omega)]; exact hc 10 _ rfl, by rw [← aAg _ _ 11 (by omega)]; exact hc 11 _ rfl, by rw [← aAg _ _ 12 (by omega)]; exact hc 12 _ rfl, by rw [← aAg _ _ 13 (by omega)]; exact hc 13 _ rfl, by rw [← aAg _ _ 14 (by omega)]; exact hc 14 _ rfl, l9, g9, l10, g10, l12, g12, l14, g14⟩

def d5K := PProd.mk Tryz.underlying59 Tryz.underlying57
def cKB := PProd.mk Tryz.underlying24 Tryz.underlying36
def cA8 := PProd.mk Tryz.underlying136 Tryz.underlying126
def d7E := PProd.mk Tryz.underlying57 Tryz.underlying66
def d4V := PProd.mk Tryz.underlying59 (PProd.mk Tryz.underlying68 (PProd.mk Tryz.underlying57 Tryz.underlying66))
def d6E := PProd.mk Tryz.underlying59 Tryz.underlying68
def cLI := PProd.mk Tryz.underlying68 Tryz.underlying66
def d4Y := PProd.mk Tryz.underlying27 Tryz.underlying24
def d52 := PProd.mk Tryz.underlying30 Tryz.underlying27
def cJL := PProd.mk Tryz.underlying79 (PProd.mk Tryz.underlying30 Tryz.underlying57)
def aSC := PProd.mk Tryz.underlying39 Tryz.underlying36
def b0Y := PProd.mk Tryz.underlying42 Tryz.underlying39
def c5J := PProd.mk Tryz.underlying42 (PProd.mk Tryz.underlying66 Tryz.underlying39)
def bOR := PProd.mk Tryz.underlying66 Tryz.underlying126
def cFN := PProd.mk Tryz.underlying66 Tryz.underlying42
def cDL := PProd.mk Tryz.underlying27 Tryz.underlying39
def cEF := PProd.mk Tryz.underlying27 (PProd.mk Tryz.underlying39 (PProd.mk Tryz.underlying24 Tryz.underlying36))
def c60 := PProd.mk Tryz.underlying30 Tryz.underlying42
def cI9 := PProd.mk Tryz.underlying30 (PProd.mk Tryz.underlying42 (PProd.mk Tryz.underlying27 Tryz.underlying39))
def cG3 := PProd.mk Tryz.underlying79 (PProd.mk Tryz.underlying83 (PProd.mk Tryz.underlying30 (PProd.mk Tryz.underlying42 (PProd.mk Tryz.underlying57 Tryz.underlying66))))
def cEQ := PProd.mk Tryz.underlying79 Tryz.underlying83
def c4N := PProd.mk Tryz.underlying42 (PProd.mk Tryz.underlying68 (PProd.mk Tryz.underlying66 Tryz.underlying39))
def cAY := PProd.mk Tryz.underlying83 (PProd.mk Tryz.underlying68 Tryz.underlying42)
def cC9 := PProd.mk Tryz.underlying83 (PProd.mk Tryz.underlying42 Tryz.underlying66)
theorem od_ {p : Prop} [Decidable p] (h : decide p = true := by first | (with_reducible assumption) | assumption) : p := of_decide_eq_true h
theorem aM0 (d : Nat) (w : World) (x0 y0 : Int) (x1 y1 : Int) (x2 y2 : ByteArray) :
  (Op.equalIn (d + 2) 36 (.agg #[.int .i64 x0, .int .i64 x1, .string x2]) (.agg #[.int .i64 y0, .int .i64 y1, .string y2])).run Tryz.prog w = .ok (x0 == y0 && (x1 == y1 && (x2.toList == y2.toList))) w := by
 refine aXa Tryz.underlying36 (by kernel_rfl) ?_
 refine aOy (by rfl) (by go_simp; rfl) (by go_simp; rfl) (by go_simp) ?_
 refine aOy (by rfl) (by go_simp; rfl) (by go_simp; rfl) (by go_simp) ?_
 exact aTk (by rfl) (by go_simp; rfl) (by go_simp; rfl) (by go_simp)
end Go.Proofs.YtnobhkmpkichdaaGreat.PFnExactViewsOk
