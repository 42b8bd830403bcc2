import PyProof.Rows.All
import Wide.All
import OpenK.AllK
import Wide.FinOn
import PySem.Challenge.RW_pc0044_01
open PySem PySem.W PySem.Calls PyProof.Rows
set_option Elab.async false
set_option maxRecDepth 100000
set_option maxHeartbeats 8000000
set_option rowWalk.seconds 0
set_option linter.unusedVariables false
set_option compiler.extract_closed false
namespace Mine
section
local macro_rules | `(tactic| o_head $_h) => `(tactic| assumption)
theorem kp (h : PySem.Challenge.rw_pc0044_01.row.Holds) : PySem.Challenge.rw_pc0044_01.row.Holds := by k_head
end
def Vw : Program := { PySem.Challenge.rw_pc0044_01.row.toRowW.1 with main := { PySem.Challenge.rw_pc0044_01.row.toRowW.1.main with body := (PySem.Challenge.rw_pc0044_01.row.toRowW.1.main.body.zipIdx.filter fun p => p.2 != 1 && p.2 != 14 && p.2 != 17 && p.2 != 23).map (·.1) } }
theorem allC {α : Type} {p : α → Prop} {a : α} {l : List α} (h : p a) (t : ∀ x ∈ l, p x) : ∀ x ∈ a :: l, p x := List.forall_mem_cons.mpr ⟨h, t⟩
abbrev TT (mean : ExcName → Option Value) (mg mb : PySem.Str → Option Value) (h : Heap) : Prop := Top Vw (looseW Vw [Str.ofString "has_domains"]) mean mg mb h
abbrev tup (vs : List Value) : Obj := { cls := .type "tuple", data := .seq vs.toArray }
def Stop (P : Prop) : Prop := P
theorem Stop.intro {P : Prop} (h : Stop P) : P := h
theorem Stop.out {P : Prop} (h : P) : Stop P := h
section
variable {h₀ h' : Heap} {L : Addr} {m : PySem.Str → Option Value} {s : Shared} {Q : Value → Shared → Prop} {news news' : List (Addr × Obj)} {tk' : Nat}
theorem ret_bool {x y : Bool} (hret : ∀ h' tk', Fr h₀ L h' m → InElt s.heap h' → Q (.bool x) { s with heap := h', toks := tk' }) (e : y = x) (F : Fr h₀ L h' m) (K : InElt s.heap h') :
    Q (.bool y) { s with heap := h', toks := tk' } := e ▸ hret h' tk' F K
theorem ret_int {x y : Int} {t : Tok} (hret : ∀ t h' tk', Fr h₀ L h' m → InElt s.heap h' → Q (.int x t) { s with heap := h', toks := tk' }) (e : y = x) (F : Fr h₀ L h' m) (K : InElt s.heap h') :
    Q (.int y t) { s with heap := h', toks := tk' } := e ▸ hret t h' tk' F K
end
/-- the address is new to the heap -/
def stops (n : Nat) : Bool := ([244, 353, 358, 363, 387, 437, 465, 470, 475] : List Nat).contains n
theorem stop_at {M : Model} {A : Around} {n : Addr} {vs : List Value} {Q E : Value → Shared → Prop} {s : Shared} (_ : stops n = true) (g : Stop (wpAny M A (call (.ref n) vs) Q E s)) : wpAny M A (call (.ref n) vs) Q E s := g
def Fresh (h : Heap) (q : Addr) : Prop := h.get? q = none
theorem mem1 {α : Type} {a0 x : α} {l : List α} : x ∈ a0 :: x :: l := .tail _ (.head _)
theorem mem2 {α : Type} {a0 a1 x : α} {l : List α} : x ∈ a0 :: a1 :: x :: l := .tail _ (.tail _ (.head _))
theorem mem3 {α : Type} {a0 a1 a2 x : α} {l : List α} : x ∈ a0 :: a1 :: a2 :: x :: l := .tail _ (.tail _ (.tail _ (.head _)))
theorem mem4 {α : Type} {a0 a1 a2 a3 x : α} {l : List α} : x ∈ a0 :: a1 :: a2 :: a3 :: x :: l := .tail _ (.tail _ (.tail _ (.tail _ (.head _))))
theorem mem5 {α : Type} {a0 a1 a2 a3 a4 x : α} {l : List α} : x ∈ a0 :: a1 :: a2 :: a3 :: a4 :: x :: l := .tail _ (.tail _ (.tail _ (.tail _ (.tail _ (.head _)))))
theorem mem6 {α : Type} {a0 a1 a2 a3 a4 a5 x : α} {l : List α} : x ∈ a0 :: a1 :: a2 :: a3 :: a4 :: a5 :: x :: l := .tail _ (.tail _ (.tail _ (.tail _ (.tail _ (.tail _ (.head _))))))
theorem mem7 {α : Type} {a0 a1 a2 a3 a4 a5 a6 x : α} {l : List α} : x ∈ a0 :: a1 :: a2 :: a3 :: a4 :: a5 :: a6 :: x :: l := .tail _ (.tail _ (.tail _ (.tail _ (.tail _ (.tail _ (.tail _ (.head _)))))))
theorem mem8 {α : Type} {a0 a1 a2 a3 a4 a5 a6 a7 x : α} {l : List α} : x ∈ a0 :: a1 :: a2 :: a3 :: a4 :: a5 :: a6 :: a7 :: x :: l := .tail _ (.tail _ (.tail _ (.tail _ (.tail _ (.tail _ (.tail _ (.tail _ (.head _))))))))
theorem mem9 {α : Type} {a0 a1 a2 a3 a4 a5 a6 a7 a8 x : α} {l : List α} : x ∈ a0 :: a1 :: a2 :: a3 :: a4 :: a5 :: a6 :: a7 :: a8 :: x :: l := .tail _ (.tail _ (.tail _ (.tail _ (.tail _ (.tail _ (.tail _ (.tail _ (.tail _ (.head _)))))))))
theorem mem10 {α : Type} {a0 a1 a2 a3 a4 a5 a6 a7 a8 a9 x : α} {l : List α} : x ∈ a0 :: a1 :: a2 :: a3 :: a4 :: a5 :: a6 :: a7 :: a8 :: a9 :: x :: l := .tail _ (.tail _ (.tail _ (.tail _ (.tail _ (.tail _ (.tail _ (.tail _ (.tail _ (.tail _ (.head _))))))))))
theorem mem11 {α : Type} {a0 a1 a2 a3 a4 a5 a6 a7 a8 a9 a10 x : α} {l : List α} : x ∈ a0 :: a1 :: a2 :: a3 :: a4 :: a5 :: a6 :: a7 :: a8 :: a9 :: a10 :: x :: l := .tail _ (.tail _ (.tail _ (.tail _ (.tail _ (.tail _ (.tail _ (.tail _ (.tail _ (.tail _ (.tail _ (.head _)))))))))))
theorem mem12 {α : Type} {a0 a1 a2 a3 a4 a5 a6 a7 a8 a9 a10 a11 x : α} {l : List α} : x ∈ a0 :: a1 :: a2 :: a3 :: a4 :: a5 :: a6 :: a7 :: a8 :: a9 :: a10 :: a11 :: x :: l := .tail _ (.tail _ (.tail _ (.tail _ (.tail _ (.tail _ (.tail _ (.tail _ (.tail _ (.tail _ (.tail _ (.tail _ (.head _))))))))))))
theorem mem13 {α : Type} {a0 a1 a2 a3 a4 a5 a6 a7 a8 a9 a10 a11 a12 x : α} {l : List α} : x ∈ a0 :: a1 :: a2 :: a3 :: a4 :: a5 :: a6 :: a7 :: a8 :: a9 :: a10 :: a11 :: a12 :: x :: l := .tail _ (.tail _ (.tail _ (.tail _ (.tail _ (.tail _ (.tail _ (.tail _ (.tail _ (.tail _ (.tail _ (.tail _ (.tail _ (.head _)))))))))))))
theorem mem14 {α : Type} {a0 a1 a2 a3 a4 a5 a6 a7 a8 a9 a10 a11 a12 a13 x : α} {l : List α} : x ∈ a0 :: a1 :: a2 :: a3 :: a4 :: a5 :: a6 :: a7 :: a8 :: a9 :: a10 :: a11 :: a12 :: a13 :: x :: l := .tail _ (.tail _ (.tail _ (.tail _ (.tail _ (.tail _ (.tail _ (.tail _ (.tail _ (.tail _ (.tail _ (.tail _ (.tail _ (.tail _ (.head _))))))))))))))
theorem mem15 {α : Type} {a0 a1 a2 a3 a4 a5 a6 a7 a8 a9 a10 a11 a12 a13 a14 x : α} {l : List α} : x ∈ a0 :: a1 :: a2 :: a3 :: a4 :: a5 :: a6 :: a7 :: a8 :: a9 :: a10 :: a11 :: a12 :: a13 :: a14 :: x :: l := .tail _ (.tail _ (.tail _ (.tail _ (.tail _ (.tail _ (.tail _ (.tail _ (.tail _ (.tail _ (.tail _ (.tail _ (.tail _ (.tail _ (.tail _ (.head _)))))))))))))))
theorem mem16 {α : Type} {a0 a1 a2 a3 a4 a5 a6 a7 a8 a9 a10 a11 a12 a13 a14 a15 x : α} {l : List α} : x ∈ a0 :: a1 :: a2 :: a3 :: a4 :: a5 :: a6 :: a7 :: a8 :: a9 :: a10 :: a11 :: a12 :: a13 :: a14 :: a15 :: x :: l := .tail _ (.tail _ (.tail _ (.tail _ (.tail _ (.tail _ (.tail _ (.tail _ (.tail _ (.tail _ (.tail _ (.tail _ (.tail _ (.tail _ (.tail _ (.tail _ (.head _))))))))))))))))
theorem mem17 {α : Type} {a0 a1 a2 a3 a4 a5 a6 a7 a8 a9 a10 a11 a12 a13 a14 a15 a16 x : α} {l : List α} : x ∈ a0 :: a1 :: a2 :: a3 :: a4 :: a5 :: a6 :: a7 :: a8 :: a9 :: a10 :: a11 :: a12 :: a13 :: a14 :: a15 :: a16 :: x :: l := .tail _ (.tail _ (.tail _ (.tail _ (.tail _ (.tail _ (.tail _ (.tail _ (.tail _ (.tail _ (.tail _ (.tail _ (.tail _ (.tail _ (.tail _ (.tail _ (.tail _ (.head _)))))))))))))))))
theorem mem18 {α : Type} {a0 a1 a2 a3 a4 a5 a6 a7 a8 a9 a10 a11 a12 a13 a14 a15 a16 a17 x : α} {l : List α} : x ∈ a0 :: a1 :: a2 :: a3 :: a4 :: a5 :: a6 :: a7 :: a8 :: a9 :: a10 :: a11 :: a12 :: a13 :: a14 :: a15 :: a16 :: a17 :: x :: l := .tail _ (.tail _ (.tail _ (.tail _ (.tail _ (.tail _ (.tail _ (.tail _ (.tail _ (.tail _ (.tail _ (.tail _ (.tail _ (.tail _ (.tail _ (.tail _ (.tail _ (.tail _ (.head _))))))))))))))))))
theorem mem19 {α : Type} {a0 a1 a2 a3 a4 a5 a6 a7 a8 a9 a10 a11 a12 a13 a14 a15 a16 a17 a18 x : α} {l : List α} : x ∈ a0 :: a1 :: a2 :: a3 :: a4 :: a5 :: a6 :: a7 :: a8 :: a9 :: a10 :: a11 :: a12 :: a13 :: a14 :: a15 :: a16 :: a17 :: a18 :: x :: l := .tail _ (.tail _ (.tail _ (.tail _ (.tail _ (.tail _ (.tail _ (.tail _ (.tail _ (.tail _ (.tail _ (.tail _ (.tail _ (.tail _ (.tail _ (.tail _ (.tail _ (.tail _ (.tail _ (.head _)))))))))))))))))))
theorem mem20 {α : Type} {a0 a1 a2 a3 a4 a5 a6 a7 a8 a9 a10 a11 a12 a13 a14 a15 a16 a17 a18 a19 x : α} {l : List α} : x ∈ a0 :: a1 :: a2 :: a3 :: a4 :: a5 :: a6 :: a7 :: a8 :: a9 :: a10 :: a11 :: a12 :: a13 :: a14 :: a15 :: a16 :: a17 :: a18 :: a19 :: x :: l := .tail _ (.tail _ (.tail _ (.tail _ (.tail _ (.tail _ (.tail _ (.tail _ (.tail _ (.tail _ (.tail _ (.tail _ (.tail _ (.tail _ (.tail _ (.tail _ (.tail _ (.tail _ (.tail _ (.tail _ (.head _))))))))))))))))))))
theorem mem21 {α : Type} {a0 a1 a2 a3 a4 a5 a6 a7 a8 a9 a10 a11 a12 a13 a14 a15 a16 a17 a18 a19 a20 x : α} {l : List α} : x ∈ a0 :: a1 :: a2 :: a3 :: a4 :: a5 :: a6 :: a7 :: a8 :: a9 :: a10 :: a11 :: a12 :: a13 :: a14 :: a15 :: a16 :: a17 :: a18 :: a19 :: a20 :: x :: l := .tail _ (.tail _ (.tail _ (.tail _ (.tail _ (.tail _ (.tail _ (.tail _ (.tail _ (.tail _ (.tail _ (.tail _ (.tail _ (.tail _ (.tail _ (.tail _ (.tail _ (.tail _ (.tail _ (.tail _ (.tail _ (.head _)))))))))))))))))))))
theorem mem22 {α : Type} {a0 a1 a2 a3 a4 a5 a6 a7 a8 a9 a10 a11 a12 a13 a14 a15 a16 a17 a18 a19 a20 a21 x : α} {l : List α} : x ∈ a0 :: a1 :: a2 :: a3 :: a4 :: a5 :: a6 :: a7 :: a8 :: a9 :: a10 :: a11 :: a12 :: a13 :: a14 :: a15 :: a16 :: a17 :: a18 :: a19 :: a20 :: a21 :: x :: l := .tail _ (.tail _ (.tail _ (.tail _ (.tail _ (.tail _ (.tail _ (.tail _ (.tail _ (.tail _ (.tail _ (.tail _ (.tail _ (.tail _ (.tail _ (.tail _ (.tail _ (.tail _ (.tail _ (.tail _ (.tail _ (.tail _ (.head _))))))))))))))))))))))
theorem mem23 {α : Type} {a0 a1 a2 a3 a4 a5 a6 a7 a8 a9 a10 a11 a12 a13 a14 a15 a16 a17 a18 a19 a20 a21 a22 x : α} {l : List α} : x ∈ a0 :: a1 :: a2 :: a3 :: a4 :: a5 :: a6 :: a7 :: a8 :: a9 :: a10 :: a11 :: a12 :: a13 :: a14 :: a15 :: a16 :: a17 :: a18 :: a19 :: a20 :: a21 :: a22 :: x :: l := .tail _ (.tail _ (.tail _ (.tail _ (.tail _ (.tail _ (.tail _ (.tail _ (.tail _ (.tail _ (.tail _ (.tail _ (.tail _ (.tail _ (.tail _ (.tail _ (.tail _ (.tail _ (.tail _ (.tail _ (.tail _ (.tail _ (.tail _ (.head _)))))))))))))))))))))))
theorem mem24 {α : Type} {a0 a1 a2 a3 a4 a5 a6 a7 a8 a9 a10 a11 a12 a13 a14 a15 a16 a17 a18 a19 a20 a21 a22 a23 x : α} {l : List α} : x ∈ a0 :: a1 :: a2 :: a3 :: a4 :: a5 :: a6 :: a7 :: a8 :: a9 :: a10 :: a11 :: a12 :: a13 :: a14 :: a15 :: a16 :: a17 :: a18 :: a19 :: a20 :: a21 :: a22 :: a23 :: x :: l := .tail _ (.tail _ (.tail _ (.tail _ (.tail _ (.tail _ (.tail _ (.tail _ (.tail _ (.tail _ (.tail _ (.tail _ (.tail _ (.tail _ (.tail _ (.tail _ (.tail _ (.tail _ (.tail _ (.tail _ (.tail _ (.tail _ (.tail _ (.tail _ (.head _))))))))))))))))))))))))
theorem lt_ne {a b : Addr} (h : @LT.lt Nat _ a b) : a ≠ b := Nat.ne_of_lt h
theorem gt_ne {a b : Addr} (h : @LT.lt Nat _ b a) : a ≠ b := Nat.ne_of_gt h
theorem mem_ne {l : List (Addr × Obj)} {a x : Addr} {o : Obj} (h : ∀ p ∈ l, p.1 < x) (m : (a, o) ∈ l) : a ≠ x := Nat.ne_of_lt (h _ m)
theorem ne_mem {l : List (Addr × Obj)} {a x : Addr} {o : Obj} (h : ∀ p ∈ l, p.1 < x) (m : (a, o) ∈ l) : x ≠ a := Nat.ne_of_gt (h _ m)
theorem mem_ne2 {l : List (Addr × Obj)} {a d x : Addr} {o : Obj} (k : @LT.lt Nat _ d x) (h : ∀ p ∈ l, p.1 < d) (m : (a, o) ∈ l) : a ≠ x := Nat.ne_of_lt (Nat.lt_trans (h _ m) k)
theorem ne_mem2 {l : List (Addr × Obj)} {a d x : Addr} {o : Obj} (k : @LT.lt Nat _ d x) (h : ∀ p ∈ l, p.1 < d) (m : (a, o) ∈ l) : x ≠ a := Nat.ne_of_gt (Nat.lt_trans (h _ m) k)
/-- the numbers of a contract, as one -/
structure Ctx where
  w : World
  mean : ExcName → Option Value
  mg : PySem.Str → Option Value
  mb : PySem.Str → Option Value
  dp : Nat
  un : Nat
  gd : Option (List Code)
  cn : PySem.Str
  cs : Scope
  a : Addr
  ccd : Value
  cl0 : List (PySem.Str × Addr)
  outer : List Env
  A₀ : Around
  base : Heap
  h₀ : Heap
  L : Addr
  m : PySem.Str → Option Value
  s : Shared
  Q : Value → Shared → Prop
  E : Value → Shared → Prop
  Ad : Nat → Addr
  In : Nat → Int
  Tk : Nat → Tok
  Nt : Nat → Nat
  Ar : Nat → Array Value
  Ob : Nat → Obj
  Kv : Nat → List (Int × Value)
  Lv : Nat → List Value
  Li : Nat → List Int
  Lo : Nat → List (Addr × Obj)
  Hp : Nat → Heap
  Mp : Nat → PySem.Str → Option Value
  Vl : Nat → Value
  Bo : Nat → Bool
  Ov : Nat → Option Value
  Cl : Nat → List (PySem.Str × Addr)
theorem ctx_ne : Nonempty Ctx :=
  ⟨{ w := ⟨fun _ _ => 0, { strHash := fun _ => 0, shareClass := fun _ => 0, mergeTok := fun t => t, idOf := fun _ => 0, idOfShared := fun _ _ => 0, followText := fun _ => true, idOfImm := fun _ => 0 }⟩, mean := fun _ => none, mg := fun _ => none, mb := fun _ => none, dp := 0, un := 0, gd := none, cn := default, cs := default, a := 0, ccd := .none, cl0 := [], outer := [], A₀ := {}, base := default, h₀ := default, L := 0, m := fun _ => none, s := {}, Q := fun _ _ => True, E := fun _ _ => True, Ad := fun _ => 0, In := fun _ => 0, Tk := fun _ => 0, Nt := fun _ => 0, Ar := fun _ => #[], Ob := fun _ => tup [], Kv := fun _ => [], Lv := fun _ => [], Li := fun _ => [], Lo := fun _ => [], Hp := fun _ => default, Mp := fun _ _ => none, Vl := fun _ => .none, Bo := fun _ => true, Ov := fun _ => none, Cl := fun _ => [] }⟩
/-- what holds at the chosen numbers (a counterexample, if there is one) holds at all -/
theorem eps_all {P : Ctx → Prop} {k : Ctx} (e : k = @Classical.epsilon Ctx ctx_ne fun c => ¬ P c) (h : P k) (c : Ctx) : P c := by
  refine Classical.byContradiction fun hn => ?_
  have := Classical.epsilon_spec_aux ctx_ne (fun c => ¬ P c) ⟨c, hn⟩
  exact this (e ▸ h)
def pick {α : Type} (d : α) : List α → Nat → α
  | [], _ => d
  | a :: _, 0 => a
  | _ :: l, n + 1 => pick d l n
theorem sub_refl {α : Type} {l : List α} : ∀ p ∈ l, p ∈ l := fun _ h => h
theorem sub_nil {α : Type} {l : List α} : ∀ p ∈ ([] : List α), p ∈ l := fun _ h => nomatch h
theorem sub_skip {α : Type} {a : α} {k l : List α} (h : ∀ p ∈ k, p ∈ l) : ∀ p ∈ k, p ∈ a :: l := fun p hp => .tail _ (h p hp)
theorem sub_take {α : Type} {a : α} {k l : List α} (h : ∀ p ∈ k, p ∈ l) : ∀ p ∈ a :: k, p ∈ a :: l := fun p hp => by
  rcases List.mem_cons.mp hp with rfl | hp
  · exact .head _
  · exact .tail _ (h p hp)
theorem mem_lt {l : List (Addr × Obj)} {a x : Addr} {o : Obj} (h : ∀ p ∈ l, p.1 < x) (m : (a, o) ∈ l) : @LT.lt Nat _ a x := h _ m
theorem rm0 {d b e l : Nat} (h : d + b < l) (he : d = e) : e < l := he ▸ Nat.lt_of_le_of_lt (Nat.le_add_right d b) h
theorem rm1 {d b e l a : Nat} (h : d + b < l) (he : d + a = e) (hk : Nat.ble a b = true) : e < l := he ▸ Nat.lt_of_le_of_lt (Nat.add_le_add_left (Nat.le_of_ble_eq_true hk) d) h
theorem rm2 {d b e l a c : Nat} (h : d + b < l) (he : d + c + a = e) (hk : Nat.ble (c + a) b = true) : e < l := rm1 h ((Nat.add_assoc d c a).symm.trans he) hk
theorem rm3 {d b e l a c f : Nat} (h : d + b < l) (he : d + f + c + a = e) (hk : Nat.ble (f + c + a) b = true) : e < l := rm2 h ((congrArg (· + a) (Nat.add_assoc d f c).symm).trans he) hk
theorem rm4 {d b e l a c f g : Nat} (h : d + b < l) (he : d + g + f + c + a = e) (hk : Nat.ble (g + f + c + a) b = true) : e < l := rm3 h ((congrArg (· + c + a) (Nat.add_assoc d g f).symm).trans he) hk
/-- the end of a test that changes nothing that stood -/
def TestEnd (h₀ : Heap) (L : Addr) (m : PySem.Str → Option Value) (s : Shared) (led : List (Addr × Obj)) (b ok : Bool) (s' : Shared) : Prop :=
  ok = b ∧ ∃ h' tk', s' = { s with heap := h', toks := tk' } ∧ Fr h₀ L h' m ∧ News h₀ L h' led
theorem TestEnd.intro {h₀ : Heap} {L : Addr} {m : PySem.Str → Option Value} {s : Shared} {led led' : List (Addr × Obj)} {b ok : Bool} {h' : Heap} {tk' : Nat}
    (F : Fr h₀ L h' m) (N : News h₀ L h' led') (hs : ∀ p ∈ led, p ∈ led') (e : ok = b) : TestEnd h₀ L m s led b ok { s with heap := h', toks := tk' } :=
  ⟨e, h', tk', rfl, F, fun p hp => N p (hs p hp)⟩
section
variable {prog : Program} {w : World} {A : Around} {h₀ : Heap} {L : Addr} {m : PySem.Str → Option Value} {env : Env} {ct elt : Expr} {x : PySem.Str} {scope : Scope} {cl : List (PySem.Str × Addr)} {s : Shared}
  {S : List (Addr × Obj) → Prop} {P : Nat → Value → Prop} {Fin : List Value → List (Addr × Obj) → Prop} {news : List (Addr × Obj)}
theorem restT_inv {n : Nat} (I : Nat → List Value → List (Addr × Obj) → Prop)
    (turn : ∀ i ys nw, i < n → I i ys nw → ∀ v J oJ C oC D m₂ h tk (E' : Value → Shared → Prop), P i v → LCg.NsObj oC m₂ → m₂ x = some v → Fr h₀ L h m →
      News h₀ L h ((J, oJ) :: (C, oC) :: (D, LCg.lst ys) :: nw) → LCg.Off3 J C D nw → ((@Ne Nat J C) ∧ (@Ne Nat J D) ∧ (@Ne Nat C D)) →
      wpAny (model prog w) A (isTrue ct (compEnvC scope cl C env) (eval ct (compEnvC scope cl C env))) (fun ok s' => if ok = true then
        wpAny (model prog w) A (eval elt (compEnvC scope cl C env)) (LCg.CompEnd h₀ L m { s with heap := h, toks := tk } J oJ C oC D (LCg.lst ys) S (fun y nw' => I (i + 1) (ys ++ [y]) nw')) E' s'
        else LCg.CompEnd h₀ L m { s with heap := h, toks := tk } J oJ C oC D (LCg.lst ys) S (fun _ nw' => I (i + 1) ys nw') Value.none s') E' { s with heap := h, toks := tk })
    (fin : ∀ ys nw, I n ys nw → Fin ys nw) (h0 : I 0 [] news) : LCt.CompRestT prog w A h₀ L m env ct elt x scope cl s S P Fin n 0 [] news := by
  have key : ∀ (j i : Nat) (ys : List Value) (nw : List (Addr × Obj)), i + j = n → I i ys nw → LCt.CompRestT prog w A h₀ L m env ct elt x scope cl s S P Fin j i ys nw := by
    intro j
    induction j with
    | zero => intro i ys nw hi hI; have e : i = n := by omega
              subst e; exact LCt.CompRestT.zero (fin ys nw hI)
    | succ j ih =>
      intro i ys nw hi hI
      refine LCt.CompRestT.succ ?_
      intro v J oJ C oC D m₂ h tk E' hv hC hx F N off ne
      refine wpAny_mono (turn i ys nw (by omega) hI v J oJ C oC D m₂ h tk E' hv hC hx F N off ne) (fun b s₂ hq => ?_) fun _ _ e => e
      cases b with
      | true =>
        simp only [if_true] at hq ⊢
        refine wpAny_mono hq (fun y s₃ hr => ?_) fun _ _ e => e
        obtain ⟨h', tk', nw', e, F', N', off', hS, hI'⟩ := hr
        exact ⟨h', tk', nw', e, F', N', off', hS, ih (i + 1) _ _ (by omega) hI'⟩
      | false =>
        simp only [Bool.false_eq_true, if_false] at hq ⊢
        obtain ⟨h', tk', nw', e, F', N', off', hS, hI'⟩ := hq
        exact ⟨h', tk', nw', e, F', N', off', hS, ih (i + 1) _ _ (by omega) hI'⟩
  exact key n 0 [] news (by omega) h0
theorem rest_inv {n : Nat} (I : Nat → List Value → List (Addr × Obj) → Prop)
    (turn : ∀ i ys nw, i < n → I i ys nw → ∀ v J oJ C oC D m₂ h tk (E' : Value → Shared → Prop), P i v → LCg.NsObj oC m₂ → m₂ x = some v → Fr h₀ L h m →
      News h₀ L h ((J, oJ) :: (C, oC) :: (D, LCg.lst ys) :: nw) → LCg.Off3 J C D nw → ((@Ne Nat J C) ∧ (@Ne Nat J D) ∧ (@Ne Nat C D)) →
      wpAny (model prog w) A (eval elt (compEnvC scope cl C env)) (LCg.CompEnd h₀ L m { s with heap := h, toks := tk } J oJ C oC D (LCg.lst ys) S (fun y nw' => I (i + 1) (ys ++ [y]) nw')) E' { s with heap := h, toks := tk })
    (fin : ∀ ys nw, I n ys nw → Fin ys nw) (h0 : I 0 [] news) : LCg.CompRest prog w A h₀ L m env elt x scope cl s S P Fin n 0 [] news := by
  have key : ∀ (j i : Nat) (ys : List Value) (nw : List (Addr × Obj)), i + j = n → I i ys nw → LCg.CompRest prog w A h₀ L m env elt x scope cl s S P Fin j i ys nw := by
    intro j
    induction j with
    | zero => intro i ys nw hi hI; have e : i = n := by omega
              subst e; exact LCg.CompRest.zero (fin ys nw hI)
    | succ j ih =>
      intro i ys nw hi hI
      refine LCg.CompRest.succ ?_
      intro v J oJ C oC D m₂ h tk E' hv hC hx F N off ne
      refine wpAny_mono (turn i ys nw (by omega) hI v J oJ C oC D m₂ h tk E' hv hC hx F N off ne) (fun y s₃ hr => ?_) fun _ _ e => e
      obtain ⟨h', tk', nw', e, F', N', off', hS, hI'⟩ := hr
      exact ⟨h', tk', nw', e, F', N', off', hS, ih (i + 1) _ _ (by omega) hI'⟩
  exact key n 0 [] news (by omega) h0

/-- ints of a source, kept by a test that changes nothing, each as it is -/
theorem restT_filter {n : Nat} {ks : List Int} (p : Int → Bool) {px : Pos} (hks : ks.length = n) (hS : S news)
    (hP : ∀ i v, i < n → P i v → ∃ k t, ks[i]? = some k ∧ v = .int k t)
    (hkind : scope.kind = .function) (hx : scope.names.lookup x = some .local) (hdb : (x == ("__debug__" : PySem.Str)) = false)
    (turn : ∀ k t ys J oJ C oC D m₂ h tk (E' : Value → Shared → Prop), k ∈ ks → LCg.NsObj oC m₂ → m₂ x = some (.int k t) → Fr h₀ L h m →
      News h₀ L h ((J, oJ) :: (C, oC) :: (D, LCg.lst ys) :: news) → LCg.Off3 J C D news → ((@Ne Nat J C) ∧ (@Ne Nat J D) ∧ (@Ne Nat C D)) →
      wpAny (model prog w) A (isTrue ct (compEnvC scope cl C env) (eval ct (compEnvC scope cl C env))) (TestEnd h₀ L m { s with heap := h, toks := tk } ((J, oJ) :: (C, oC) :: (D, LCg.lst ys) :: news) (p k)) E' { s with heap := h, toks := tk })
    (fin : ∀ ys, IntsAre ys (ks.filter p) → Fin ys news) : LCt.CompRestT prog w A h₀ L m env ct (.Name x px) x scope cl s S P Fin n 0 [] news := by
  refine restT_inv (fun i ys nw => nw = news ∧ IntsAre ys ((ks.take i).filter p)) ?_ ?_ ⟨rfl, .nil⟩
  · rintro i ys nw hi ⟨rfl, hI⟩ v J oJ C oC D m₂ h tk E' hv hC hm F N off ne
    obtain ⟨k, t, hk, rfl⟩ := hP i v hi hv
    have hs : ks.take (i + 1) = ks.take i ++ [k] := by rw [List.take_add_one, hk]; rfl
    refine wpAny_mono (turn k t ys J oJ C oC D m₂ h tk E' (List.mem_of_getElem? hk) hC hm F N off ne) (fun ok s₂ hq => ?_) fun _ _ e => e
    obtain ⟨rfl, h', tk', rfl, F', N'⟩ := hq
    cases hp : p k with
    | true =>
      simp only [if_true]
      refine LCgL.ld_own N' (.tail _ (.head _)) hC hm ?_ (by simp [compEnvC, relabel, hkind]) (lookup_relabel_local hx) hdb
      refine ⟨h', tk', nw, rfl, F', N', off, hS, rfl, ?_⟩
      rw [hs, List.filter_append]
      refine IntsAre.append hI ?_
      simp only [List.filter_cons, hp, if_true, List.filter_nil]
      exact .cons k t .nil
    | false =>
      simp only [Bool.false_eq_true, if_false]
      refine ⟨h', tk', nw, rfl, F', N', off, hS, rfl, ?_⟩
      rw [hs, List.filter_append]
      simp only [List.filter_cons, hp, List.filter_nil, Bool.false_eq_true, if_false, List.append_nil]
      exact hI
  · rintro ys nw ⟨rfl, hI⟩
    refine fin ys ?_
    rw [← hks, List.take_length] at hI
    exact hI
theorem restT_filter_range {n : Nat} {a : Int} (p : Int → Bool) {px : Pos}
    (hkind : scope.kind = .function) (hx : scope.names.lookup x = some .local) (hdb : (x == ("__debug__" : PySem.Str)) = false)
    (turn : ∀ k t ys J oJ C oC D m₂ h tk (E' : Value → Shared → Prop), a ≤ k ∧ k < a + (n : Int) → LCg.NsObj oC m₂ → m₂ x = some (.int k t) → Fr h₀ L h m →
      News h₀ L h ((J, oJ) :: (C, oC) :: (D, LCg.lst ys) :: news) → LCg.Off3 J C D news → ((@Ne Nat J C) ∧ (@Ne Nat J D) ∧ (@Ne Nat C D)) →
      wpAny (model prog w) A (isTrue ct (compEnvC scope cl C env) (eval ct (compEnvC scope cl C env))) (TestEnd h₀ L m { s with heap := h, toks := tk } ((J, oJ) :: (C, oC) :: (D, LCg.lst ys) :: news) (p k)) E' { s with heap := h, toks := tk })
    (fin : ∀ ys, IntsAre ys ((rangeKs a n).filter p) → Fin ys news) :
    LCt.CompRestT prog w A h₀ L m env ct (.Name x px) x scope cl s (fun _ => True) (fun i v => ∃ t, v = .int (a + (i : Int)) t) Fin n 0 [] news :=
  restT_filter (ks := rangeKs a n) p (rangeKs_length a n) trivial (fun i v hi hv => by
    obtain ⟨t, e⟩ := hv
    exact ⟨a + (i : Int), t, by simp [rangeKs, hi], e⟩) hkind hx hdb
    (fun k t ys J oJ C oC D m₂ h tk E' hk => turn k t ys J oJ C oC D m₂ h tk E' (mem_rangeKs hk)) fin
end
/-- a call of a def whose locals are captured; what the heap held beside the ledger is said of the callee's ground -/
theorem enter_cells {prog : Program} {w : World} {A₀ A : Around} {s : Shared} {base h₀ : Heap} {outer : List Env} {L : Addr} {m : PySem.Str → Option Value} {env : Env} {news : List (Addr × Obj)} {K : Frag}
    {p : Program} {loose : List PySem.Str} {mean : ExcName → Option Value} {mg mb : PySem.Str → Option Value} {R : Result → Shared → Prop} {name qual : PySem.Str} {params : Arguments} {body : List Stmt} {scope : Scope} {dV kV doc pm cdv ct oc : Value} {an od : Option Addr} {osl : Array (Option Value)} {f : Addr} {args : Args} {binds : List (PySem.Str × Value)}
    (B : Below A₀ base outer h₀) (F : Fr h₀ L s.heap m) (X₀ : K.In h₀) (N : News h₀ L s.heap news) (T : Top p loose mean mg mb h₀) (hA : A.frames = some (env :: outer)) (hf : env.frame = some L) (hke : env.scope.kind = .function)
    (ho : K.lookup f = some ⟨oc, od, .func (fnOf name qual params body scope dV kV doc pm an cdv ct), osl⟩) (hcd : codeIn K cdv qual = true) (hroom : A.depth < recursionLimit)
    (hbind : BindsTo s (fnOf name qual params body scope dV kV doc pm an cdv ct) args binds) (hkind : (binds.all fun y => scope.names.lookup y.1 == some .local || scope.names.lookup y.1 == some .cell) = true)
    (hnd : ((cellsFrom 0 scope.names []).map (·.1)).Nodup)
    (h : ∀ g L' h₁ tk cells, Fr h₀ L g m → Fr g L' h₁ (bindL (envOfC qual scope L' f cdv).kindOf binds fun _ => none) → News g L' h₁ (cells ++ news) →
      CellsAre (bindC (envOfC qual scope L' f cdv).kindOf binds fun _ => none) (cellsFrom (L' + 1) scope.names []) cells → Below A base (env :: outer) g → K.In g → Top p loose mean mg mb g → (∀ p ∈ news, p.1 < L') →
      GSub s.heap g (news.map (·.1)) →
      wpAny (model prog w) (A.deeper (envOfC qual scope L' f cdv)) (execs body (envOfC qual scope L' f cdv))
        (fun fl s' => LeaveK h₀ L m g R (match fl with | .ret v => v | _ => .none) s')
        (fun e s' => wpAny (model prog w) (A.deeper (envOfC qual scope L' f cdv)) (leaving (envOfC qual scope L' f cdv) e) (fun _ s'' => R (.error e) s'') (fun e' s'' => R (.error e') s'') s')
        { s with heap := h₁, toks := tk })
    (hco : scope.isCoroutine = false) (hgen : scope.isGenerator = false) (hk : scope.kind = .function) : codeAny (model prog w) A (.call (.ref f) args) R s := by
  obtain ⟨FG, BG, st, lv⟩ := groundX (R := R) B F N hA hf hke
  have XG := X₀.keeps st
  have TG := T.keeps st
  have lt : ∀ p ∈ news, p.1 < s.heap.objs.size := fun p hp => Heap.lt_size (N p hp).1
  have sub : GSub s.heap (hideAll s.heap (news.map (·.1))) (news.map (·.1)) := fun b o e n => hideAll_get _ e n
  refine codeAny_call_function hroom (X₀.keeps F.keep _ _ ho) rfl hco hgen rfl (codeRec_of (X₀.keeps F.keep) hcd) (hbind _ _ _ _ ?_)
  refine wpAny_newFunctionEnv_cells hk (kindsX hkind _) fun env' he s' x => ?_
  subst he
  refine ⟨(T.nolimit.keeps F.keep).keeps x.toInCall.keep, codeAny_func ?_⟩
  obtain ⟨h₁, tk, rfl, _⟩ := x.done
  have up := x.toInCall.keep
  obtain ⟨cells, NC, Y⟩ := Cl.news (h₀ := s.heap) (Nat.le_refl _) fun n c hm => ⟨x.cell n c (lookup_of_mem_nodup (cellsFrom_names scope.names 0 (s.heap.objs.size + 1) [] [] rfl ▸ hnd) hm), x.above n c hm⟩
  have N₁ : News (hideAll s.heap (news.map (·.1))) s.heap.objs.size h₁ (cells ++ news) := by
    intro p hp
    cases List.mem_append.mp hp with
    | inl hc =>
      have z := NC p hc
      refine ⟨z.1, z.2.1, ?_⟩
      cases q : (hideAll s.heap (news.map (·.1))).get? p.1 with
      | none => rfl
      | some o => rw [of_hideAll _ q] at z; cases z.2.2
    | inr hn => exact ⟨up _ _ (N p hn).1, Nat.ne_of_lt (lt p hn), hideAll_none _ (List.mem_map_of_mem hn)⟩
  have F₁ : Fr (hideAll s.heap (news.map (·.1))) s.heap.objs.size h₁ (bindL (envOfC qual scope s.heap.objs.size f cdv).kindOf binds fun _ => none) :=
    ⟨x.toInCall.ns, fun b o e => up b o (of_hideAll _ e), Nat.le_of_eq (hideAll_size _ _)⟩
  exact wpAny_mono (h _ _ h₁ tk cells FG F₁ N₁ Y BG XG TG lt sub) (fun fl s' hl => lv _ _ hl) fun _ _ y => y

/-- the address is none of the ledger's -/
def AllNe (q : Addr) : List (Addr × Obj) → Prop
  | [] => True
  | p :: r => (@Ne Nat q p.1) ∧ AllNe q r
theorem AllNe.notin {q : Addr} : ∀ {l : List (Addr × Obj)}, AllNe q l → q ∉ l.map (·.1)
  | [], _, h => nomatch h
  | p :: r, h, hm => by
    rcases List.mem_cons.mp hm with e | hm
    · exact h.1 e
    · exact h.2.notin hm
theorem allNe_nil {q : Addr} : AllNe q [] := trivial
theorem allNe_cons {q : Addr} {p : Addr × Obj} {l : List (Addr × Obj)} (h : q ≠ p.1) (t : AllNe q l) : AllNe q (p :: l) := ⟨h, t⟩
theorem allNe_lt {q : Addr} : ∀ {l : List (Addr × Obj)}, (∀ p ∈ l, p.1 < q) → AllNe q l
  | [], _ => trivial
  | p :: _, h => ⟨Nat.ne_of_gt (h p (.head _)), allNe_lt fun z hz => h z (.tail _ hz)⟩
/-- what is new to the callee's ground and off the ledger is new to the heap of the call -/
theorem fresh_of {H g h' : Heap} {news : List (Addr × Obj)} {L' q : Addr} {o : Obj} {news' : List (Addr × Obj)} (G : GSub H g (news.map (·.1))) (N : News g L' h' news') (hm : (q, o) ∈ news') (hne : AllNe q news) : H.get? q = none := by
  cases e : H.get? q with
  | none => rfl
  | some o' => have := G q o' e hne.notin; rw [(N _ hm).2.2] at this; cases this
/-- all that stood stands, if the ledger's objects stand as they stood -/
theorem keep_of {H g H' h₀ : Heap} {L L' : Addr} {m' : PySem.Str → Option Value} {news news' : List (Addr × Obj)} (G : GSub H g (news.map (·.1))) (N : News h₀ L H news) (F' : Fr g L' H' m') (N' : News g L' H' news') (hs : ∀ p ∈ news, p ∈ news') : InElt H H' :=
  elt_after (InElt.start H) G N F' N' hs
theorem fresh_ne {H h₀ : Heap} {L q : Addr} : ∀ {news : List (Addr × Obj)}, Fresh H q → News h₀ L H news → AllNe q news
  | [], _, _ => trivial
  | p :: r, Z, N => by
    refine ⟨fun e => ?_, fresh_ne Z fun p hp => N p (.tail _ hp)⟩
    have z := (N p (.head _)).1
    unfold Fresh at Z
    rw [← e, Z] at z
    cases z
theorem news_cons {h h₀ : Heap} {L q : Addr} {o : Obj} {news : List (Addr × Obj)} (M : News h₀ L h [(q, o)]) (N : News h₀ L h news) : News h₀ L h ((q, o) :: news) := fun p hp => by
  rcases List.mem_cons.mp hp with rfl | hp
  · exact M _ (.head _)
  · exact N p hp
/-- ties the kept ledger of a comprehension's turn to the one that stood at its start -/
theorem comp_sub {I C D : Addr} {news : List (Addr × Obj)} {P : Prop} (_ : LCg.Off3 I C D news) (h : P) : P := h
theorem allNe_off {D : Addr} : ∀ {l : List (Addr × Obj)}, LCg.Off1 D l → AllNe D l
  | [], _ => trivial
  | _ :: _, h => ⟨Ne.symm h.1, allNe_off h.2⟩
theorem AllNe.sub {q : Addr} {l l' : List (Addr × Obj)} (h : AllNe q l) (hs : ∀ p ∈ l', p ∈ l) : AllNe q l' := by
  have mem : ∀ {l : List (Addr × Obj)}, AllNe q l → ∀ p ∈ l, q ≠ p.1 := by
    intro l
    induction l with
    | nil => intro _ p hp; cases hp
    | cons a r ih => intro h p hp; rcases List.mem_cons.mp hp with rfl | hp; exact h.1; exact ih h.2 p hp
  have of : ∀ {l : List (Addr × Obj)}, (∀ p ∈ l, q ≠ p.1) → AllNe q l := by
    intro l
    induction l with
    | nil => intro _; trivial
    | cons a r ih => intro h; exact ⟨h a (.head _), ih fun p hp => h p (.tail _ hp)⟩
  exact of fun p hp => mem h p (hs p hp)
/-- the end of a turn whose element is the newest object -/
theorem compEnd_new {h₀ : Heap} {L I C D q : Addr} {m : PySem.Str → Option Value} {s₁ : Shared} {oI oC oD o : Obj} {S : List (Addr × Obj) → Prop} {rest : Value → List (Addr × Obj) → Prop} {h' : Heap} {tk : Nat} {all news : List (Addr × Obj)}
    (F : Fr h₀ L h' m) (N : News h₀ L h' ((q, o) :: all)) (off : LCg.Off3 I C D news) (hq : (@Ne Nat q I) ∧ (@Ne Nat q C) ∧ (@Ne Nat q D)) (sub : ∀ p ∈ (I, oI) :: (C, oC) :: (D, oD) :: news, p ∈ all) (hS : S ((q, o) :: news)) (r : rest (.ref q) ((q, o) :: news)) :
    LCg.CompEnd h₀ L m s₁ I oI C oC D oD S rest (.ref q) { s₁ with heap := h', toks := tk } := by
  refine LCg.CompEnd.intro F N ((q, o) :: news) (fun p hp => ?_) ⟨hq, off⟩ hS r
  rcases List.mem_cons.mp hp with rfl | hp
  · exact .tail _ (sub _ (.head _))
  rcases List.mem_cons.mp hp with rfl | hp
  · exact .tail _ (sub _ (.tail _ (.head _)))
  rcases List.mem_cons.mp hp with rfl | hp
  · exact .tail _ (sub _ (.tail _ (.tail _ (.head _))))
  rcases List.mem_cons.mp hp with rfl | hp
  · exact .head _
  · exact .tail _ (sub _ (.tail _ (.tail _ (.tail _ hp))))
theorem news_13 {h₀ h : Heap} {L : Addr} {a x b : Addr × Obj} {r : List (Addr × Obj)} (N : News h₀ L h (a :: x :: b :: r)) : News h₀ L h [a, b] := cb_drop N (by kcj_all)
theorem news_1 {h₀ h : Heap} {L : Addr} {a : Addr × Obj} {r : List (Addr × Obj)} (N : News h₀ L h (a :: r)) : News h₀ L h [a] := cb_drop N (by kcj_all)
theorem news_app {h h₀ : Heap} {L : Addr} {new news : List (Addr × Obj)} (M : News h₀ L h new) (N : News h₀ L h news) : News h₀ L h (new ++ news) := fun p hp => by
  rcases List.mem_append.mp hp with hp | hp
  · exact M p hp
  · exact N p hp
theorem tdiv_of (v y : Int) : Int.tdiv v y = if (decide (v < 0) == decide (y < 0)) = true then (if v < 0 then -v else v).fdiv (if y < 0 then -y else y) else -(if v < 0 then -v else v).fdiv (if y < 0 then -y else y) := by
  have pos : ∀ a b : Int, 0 ≤ a → 0 ≤ b → a.fdiv b = a.tdiv b := fun a b ha hb => by
    rw [Int.fdiv_eq_ediv_of_nonneg a hb, Int.tdiv_eq_ediv_of_nonneg ha]
  by_cases hv : v < 0 <;> by_cases hy : y < 0
  · simp only [hv, hy, decide_true, beq_self_eq_true, if_true]
    rw [pos _ _ (by omega) (by omega), Int.neg_tdiv, Int.tdiv_neg, Int.neg_neg]
  · simp only [hv, hy, decide_true, decide_false, if_true, if_false]
    rw [if_neg (by decide), pos _ _ (by omega) (by omega), Int.neg_tdiv, Int.neg_neg]
  · simp only [hv, hy, decide_true, decide_false, if_true, if_false]
    rw [if_neg (by decide), pos _ _ (by omega) (by omega), Int.tdiv_neg, Int.neg_neg]
  · simp only [hv, hy, decide_false, beq_self_eq_true, if_true, if_false]
    rw [pos _ _ (by omega) (by omega)]
theorem any_of_filter (p : Int → Bool) (l : List Int) : (!decide (l.filter p = [])) = l.any p := by
  induction l with
  | nil => rfl
  | cons a r ih =>
    rw [List.any_cons, ← ih]
    cases h : p a <;> simp [List.filter_cons, h]
def hasRest (lo hi many z : Int) : Bool :=
  if z < 0 then decide ((if -z > -hi then -z else -hi) + (-z - if -z > -hi then -z else -hi).fmod many ≤ -lo)
  else if z > 0 then decide ((if z > lo then z else lo) + (z - if z > lo then z else lo).fmod many ≤ hi)
  else decide (lo + (z - lo).fmod many ≤ hi)
def canBe2 (a0 b0 y v : Int) : Bool := decide ((v.natAbs : Int) < y.natAbs) && hasRest a0 b0 y.natAbs v
def szOf (a b : Int) : Int := max (a.natAbs : Int) b.natAbs
def lo1 (a0 c v : Int) : Int := max c (max (1 - (v.natAbs : Int)) (min a0 0))
def hi1 (b0 d v : Int) : Int := min d (min ((v.natAbs : Int) - 1) (max b0 0))
def canBe1 (a0 b0 c d v : Int) : Bool := (rangeKs (lo1 a0 c v) (hi1 b0 d v + 1 - lo1 a0 c v).toNat).any (hasRest a0 b0 v.natAbs)
def outM (a0 b0 y : Int) : Int := min ((y.natAbs : Int) - 1) (szOf a0 b0)
def outLo (a0 b0 y : Int) : Int := if a0 < 0 then -(outM a0 b0 y) else 0
def outHi (a0 b0 y : Int) : Int := if b0 > 0 then outM a0 b0 y else 0
theorem emod_le_self {a b : Int} (ha : 0 ≤ a) (hb : 0 < b) : a % b ≤ a := by
  rw [Int.emod_def]
  have := Int.mul_nonneg (Int.le_of_lt hb) (Int.ediv_nonneg ha (Int.le_of_lt hb))
  omega
/-- the first number from l on that is z on the clock -/
theorem first_from {l many z : Int} (hm : 0 < many) : l ≤ l + (z - l).fmod many ∧ (l + (z - l).fmod many) % many = z % many ∧ ∀ n, l ≤ n → n % many = z % many → l + (z - l).fmod many ≤ n := by
  rw [Int.fmod_eq_emod_of_nonneg _ (Int.le_of_lt hm)]
  have h0 := Int.emod_nonneg (z - l) (Int.ne_of_gt hm)
  refine ⟨by omega, ?_, fun n hn e => ?_⟩
  · rw [Int.add_emod_emod]
    congr 1; omega
  · have h1 : (z - l) % many = (n - l) % many := by
      rw [Int.sub_emod, ← e, ← Int.sub_emod]
    have h2 : (n - l) % many ≤ n - l := emod_le_self (by omega) hm
    omega
theorem tmod_abs (n y : Int) : Int.tmod n y = Int.tmod n (y.natAbs : Int) := by
  rcases Int.natAbs_eq y with h | h
  · rw [← h]
  · conv => lhs; rw [h]
    rw [Int.tmod_neg]
theorem tmod_up {n many : Int} (h : 0 ≤ n) : Int.tmod n many = n % many := Int.tmod_eq_emod_of_nonneg h
theorem tmod_down {n many : Int} (h : n ≤ 0) : Int.tmod n many = -((-n) % many) := by
  have e : n = -(-n) := by omega
  conv => lhs; rw [e]
  rw [Int.neg_tmod, tmod_up (by omega)]
/-- a rest keeps its number's sign, is no larger than it, and is nearer to 0 than the divisor -/
theorem tmod_bounds (n : Int) {many : Int} (hm : 0 < many) : (0 ≤ n → 0 ≤ Int.tmod n many ∧ Int.tmod n many ≤ n) ∧ (n ≤ 0 → Int.tmod n many ≤ 0 ∧ n ≤ Int.tmod n many) ∧ -many < Int.tmod n many ∧ Int.tmod n many < many := by
  rcases Int.le_total 0 n with h | h
  · rw [tmod_up h]
    have h0 := Int.emod_nonneg n (Int.ne_of_gt hm)
    have h1 := Int.emod_lt_of_pos n hm
    have h2 := emod_le_self h hm
    refine ⟨fun _ => ⟨h0, h2⟩, fun h' => ?_, by omega, h1⟩
    omega
  · rw [tmod_down h]
    have h0 := Int.emod_nonneg (-n) (Int.ne_of_gt hm)
    have h1 := Int.emod_lt_of_pos (-n) hm
    have h2 := emod_le_self (a := -n) (by omega) hm
    refine ⟨fun h' => ?_, fun _ => by omega, by omega, by omega⟩
    omega
theorem rest_pos {lo hi many z : Int} (hm : 0 < many) (hz : z < many) (hz0 : 0 < z) :
    ((if z > lo then z else lo) + (z - if z > lo then z else lo).fmod many ≤ hi) ↔ ∃ n, lo ≤ n ∧ n ≤ hi ∧ Int.tmod n many = z := by
  generalize hl : (if z > lo then z else lo) = l
  have hl1 : z ≤ l ∧ lo ≤ l ∧ ∀ n, z ≤ n → lo ≤ n → l ≤ n := by
    split at hl <;> (subst hl; refine ⟨by omega, by omega, fun n h1 h2 => by omega⟩)
  obtain ⟨f1, f2, f3⟩ := first_from (l := l) (z := z) hm
  have hzz : z % many = z := Int.emod_eq_of_lt (by omega) hz
  constructor
  · intro h
    exact ⟨_, by omega, h, by rw [tmod_up (by omega), f2, hzz]⟩
  · rintro ⟨n, h1, h2, h3⟩
    have b := tmod_bounds n hm
    have hn : 0 ≤ n := by
      rcases Int.le_total 0 n with h | h
      · exact h
      · have := (b.2.1 h).1; omega
    have hzn := (b.1 hn).2
    have := f3 n (hl1.2.2 n (by omega) h1) (by rw [hzz, ← h3, tmod_up hn])
    omega
theorem rest_zero {lo hi many : Int} (hm : 0 < many) : (lo + (0 - lo).fmod many ≤ hi) ↔ ∃ n, lo ≤ n ∧ n ≤ hi ∧ Int.tmod n many = 0 := by
  obtain ⟨f1, f2, f3⟩ := first_from (l := lo) (z := 0) hm
  have zero : ∀ n : Int, Int.tmod n many = 0 ↔ n % many = 0 % many := by
    intro n
    rw [Int.zero_emod]
    rcases Int.le_total 0 n with h | h
    · rw [tmod_up h]
    · rw [tmod_down h]
      constructor
      · intro e
        have e : -n % many = 0 := by omega
        have := Int.dvd_of_emod_eq_zero e
        exact Int.emod_eq_zero_of_dvd ((Int.dvd_neg).mp this)
      · intro e
        have := Int.dvd_of_emod_eq_zero e
        rw [Int.emod_eq_zero_of_dvd ((Int.dvd_neg).mpr this)]; rfl
  constructor
  · intro h; exact ⟨_, f1, h, (zero _).mpr f2⟩
  · rintro ⟨n, h1, h2, h3⟩
    have := f3 n h1 ((zero n).mp h3)
    omega
theorem hasRest_iff {lo hi many z : Int} (hm : 0 < many) (h1 : -many < z) (h2 : z < many) : hasRest lo hi many z = true ↔ ∃ n, lo ≤ n ∧ n ≤ hi ∧ Int.tmod n many = z := by
  unfold hasRest
  by_cases hz : z < 0
  · rw [if_pos hz, decide_eq_true_eq, rest_pos hm (by omega) (by omega)]
    constructor
    · rintro ⟨n, a, b, e⟩; exact ⟨-n, by omega, by omega, by rw [Int.neg_tmod]; omega⟩
    · rintro ⟨n, a, b, e⟩; exact ⟨-n, by omega, by omega, by rw [Int.neg_tmod]; omega⟩
  · rw [if_neg hz]
    by_cases hp : z > 0
    · rw [if_pos hp, decide_eq_true_eq, rest_pos hm h2 hp]
    · have e : z = 0 := by omega
      subst e
      rw [if_neg hp, decide_eq_true_eq, rest_zero hm]
theorem abs_pos' {y : Int} (hy : y ≠ 0) : 0 < (y.natAbs : Int) := by omega
theorem canBe2_iff {a b y v : Int} (hy : y ≠ 0) : canBe2 a b y v = true ↔ ∃ n, a ≤ n ∧ n ≤ b ∧ Int.tmod n y = v := by
  unfold canBe2
  rw [Bool.and_eq_true, decide_eq_true_eq]
  constructor
  · rintro ⟨h, r⟩
    obtain ⟨n, h1, h2, h3⟩ := (hasRest_iff (abs_pos' hy) (by omega) (by omega)).mp r
    exact ⟨n, h1, h2, by rw [tmod_abs]; exact h3⟩
  · rintro ⟨n, h1, h2, h3⟩
    rw [tmod_abs] at h3
    have b := tmod_bounds n (abs_pos' hy)
    exact ⟨by omega, (hasRest_iff (abs_pos' hy) (by omega) (by omega)).mpr ⟨n, h1, h2, h3⟩⟩
theorem out_rests {a b y n : Int} (hy : y ≠ 0) (h1 : a ≤ n) (h2 : n ≤ b) : outLo a b y ≤ Int.tmod n y ∧ Int.tmod n y ≤ outHi a b y := by
  have t := tmod_bounds n (abs_pos' hy)
  rw [← tmod_abs] at t
  obtain ⟨t1, t2, t3, t4⟩ := t
  have hs : (n.natAbs : Int) ≤ szOf a b := by unfold szOf; omega
  have hM : -(outM a b y) ≤ Int.tmod n y ∧ Int.tmod n y ≤ outM a b y := by
    unfold outM
    rcases Int.le_total 0 n with h | h
    · have := t1 h; omega
    · have := t2 h; omega
  unfold outLo outHi
  constructor
  · split
    · exact hM.1
    · exact (t1 (by omega)).1
  · split
    · exact hM.2
    · exact (t2 (by omega)).1
theorem canBe1_of {a b c d y n : Int} (hy : y ≠ 0) (h1 : a ≤ n) (h2 : n ≤ b) (h3 : c ≤ Int.tmod n y) (h4 : Int.tmod n y ≤ d) : canBe1 a b c d y = true := by
  have t := tmod_bounds n (abs_pos' hy)
  rw [← tmod_abs] at t
  obtain ⟨t1, t2, t3, t4⟩ := t
  have t5 : min a 0 ≤ Int.tmod n y ∧ Int.tmod n y ≤ max b 0 := by
    rcases Int.le_total 0 n with h | h
    · have := t1 h; omega
    · have := t2 h; omega
  have e1 : lo1 a c y ≤ Int.tmod n y := by unfold lo1; omega
  have e2 : Int.tmod n y ≤ hi1 b d y := by unfold hi1; omega
  unfold canBe1
  rw [List.any_eq_true]
  refine ⟨Int.tmod n y, ?_, (hasRest_iff (abs_pos' hy) (by omega) (by omega)).mpr ⟨n, h1, h2, (tmod_abs n y).symm⟩⟩
  unfold rangeKs
  rw [List.mem_map]
  refine ⟨(Int.tmod n y - lo1 a c y).toNat, List.mem_range.mpr (by omega), by omega⟩
section
variable {prog : Program} {w : World} {A : Around} {E : Value → Shared → Prop} {s : Shared} {h₀ : Heap} {L : Addr} {m : PySem.Str → Option Value} {news : List (Addr × Obj)}
theorem max_three {a b c : Int} {t u v : Tok} {Q : Value → Shared → Prop} (hh : A.handled = none) (F : Fr h₀ L s.heap m) (N : News h₀ L s.heap news)
    (h : ∀ q h' tk, Fr h₀ L h' m → News h₀ L h' news → Q (.int (max a (max b c)) q) { s with heap := h', toks := tk }) :
    wpAny (model prog w) A (call (.builtin "max") [.int a t, .int b u, .int c v]) Q E s :=
  max_three_ints hh fun h' tk old => by
    have k9 := fun q => h q h' tk (F.grownK old) (N.grown old)
    by_cases h1 : b > a <;> by_cases h2 : c > b <;> by_cases h3 : c > a <;> simp only [h1, h2, h3, if_true, if_false] <;> first | omega | (rw [show max a (max b c) = c by omega] at k9; exact k9 _) | (rw [show max a (max b c) = b by omega] at k9; exact k9 _) | (rw [show max a (max b c) = a by omega] at k9; exact k9 _)
theorem min_three {a b c : Int} {t u v : Tok} {Q : Value → Shared → Prop} (hh : A.handled = none) (F : Fr h₀ L s.heap m) (N : News h₀ L s.heap news)
    (h : ∀ q h' tk, Fr h₀ L h' m → News h₀ L h' news → Q (.int (min a (min b c)) q) { s with heap := h', toks := tk }) :
    wpAny (model prog w) A (call (.builtin "min") [.int a t, .int b u, .int c v]) Q E s :=
  min_three_ints hh fun h' tk old => by
    have k9 := fun q => h q h' tk (F.grownK old) (N.grown old)
    by_cases h1 : b < a <;> by_cases h2 : c < b <;> by_cases h3 : c < a <;> simp only [h1, h2, h3, if_true, if_false] <;> first | omega | (rw [show min a (min b c) = c by omega] at k9; exact k9 _) | (rw [show min a (min b c) = b by omega] at k9; exact k9 _) | (rw [show min a (min b c) = a by omega] at k9; exact k9 _)
end
section
variable {prog : Program} {w : World} {A : Around} {E : Value → Shared → Prop} {s : Shared} {h₀ : Heap} {L : Addr} {m : PySem.Str → Option Value} {news : List (Addr × Obj)}
theorem max_two {a b : Int} {t u : Tok} {Q : Value → Shared → Prop} (hh : A.handled = none) (F : Fr h₀ L s.heap m) (N : News h₀ L s.heap news)
    (h : ∀ q h' tk, Fr h₀ L h' m → News h₀ L h' news → Q (.int (max a b) q) { s with heap := h', toks := tk }) :
    wpAny (model prog w) A (call (.builtin "max") [.int a t, .int b u]) Q E s :=
  max_two_N hh F N fun h' tk F' N' => by
    have e : (if b > a then b else a) = max a b := by split <;> omega
    rw [e]; exact h _ h' tk F' N'
theorem min_two {a b : Int} {t u : Tok} {Q : Value → Shared → Prop} (hh : A.handled = none) (F : Fr h₀ L s.heap m) (N : News h₀ L s.heap news)
    (h : ∀ q h' tk, Fr h₀ L h' m → News h₀ L h' news → Q (.int (min a b) q) { s with heap := h', toks := tk }) :
    wpAny (model prog w) A (call (.builtin "min") [.int a t, .int b u]) Q E s :=
  min_two_N hh F N fun h' tk F' N' => by
    have e : (if b < a then b else a) = min a b := by split <;> omega
    rw [e]; exact h _ h' tk F' N'
end
section
variable {prog : Program} {w : World} {A : Around} {E : Value → Shared → Prop} {s : Shared} {h₀ : Heap} {L : Addr} {m : PySem.Str → Option Value} {env : Env}
/-- a tuple of the ledger as a comprehension's source -/
def SrcTup (prog : Program) (w : World) (A : Around) (h₀ : Heap) (L : Addr) (m : PySem.Str → Option Value) (env : Env) (elt : Expr) (x : PySem.Str) (scope : Scope) (cl : List (PySem.Str × Addr)) (Fin : Shared → List Value → List (Addr × Obj) → Prop) (xv : Value) (s₁ : Shared) : Prop :=
  ∃ ax its k news, xv = .ref ax ∧ A.handled = none ∧ Fr h₀ L s₁.heap m ∧ News h₀ L s₁.heap news ∧ (ax, ({ cls := .type "tuple", data := .seq its k } : Obj)) ∈ news ∧ its.size ≤ sizeLine ∧
    ∀ g, LCg.CompRest prog w A h₀ L m env elt x scope cl { s₁ with heap := g } (fun nw => (ax, ({ cls := .type "tuple", data := .seq its k } : Obj)) ∈ nw) (fun i v => its[i]? = some v) (Fin { s₁ with heap := g }) its.size 0 [] news
theorem SrcTup.intro {elt : Expr} {x : PySem.Str} {scope : Scope} {cl : List (PySem.Str × Addr)} {Fin : Shared → List Value → List (Addr × Obj) → Prop} {ax : Addr} {its : Array Value} {k : Nat} {news : List (Addr × Obj)} {s₁ : Shared}
    (hh : A.handled = none) (F : Fr h₀ L s₁.heap m) (N : News h₀ L s₁.heap news) (hm : (ax, ({ cls := .type "tuple", data := .seq its k } : Obj)) ∈ news) (hsz : its.size ≤ sizeLine)
    (h : ∀ g, LCg.CompRest prog w A h₀ L m env elt x scope cl { s₁ with heap := g } (fun nw => (ax, ({ cls := .type "tuple", data := .seq its k } : Obj)) ∈ nw) (fun i v => its[i]? = some v) (Fin { s₁ with heap := g }) its.size 0 [] news) :
    SrcTup prog w A h₀ L m env elt x scope cl Fin (.ref ax) s₁ := ⟨ax, its, k, news, rfl, hh, F, N, hm, hsz, h⟩
theorem tup_keeps {ax I : Addr} {its : Array Value} {k : Nat} : ∀ i (h h' : Heap) (o : Obj) (nw : List (Addr × Obj)), (h.IsTupleIter I ax i ∧ h.IsTuple ax its) → h.get? I = some o → h'.get? I = some o → (∀ b o, h₀.get? b = some o → h'.get? b = some o) → News h₀ L h' nw →
    (ax, ({ cls := .type "tuple", data := .seq its k } : Obj)) ∈ nw → (h'.IsTupleIter I ax i ∧ h'.IsTuple ax its) :=
  fun i h h' o nw st e e' _ N hm => ⟨by obtain ⟨o', q, r⟩ := st.1; rw [e] at q; cases q; exact ⟨o, e', r⟩, ⟨_, (N _ hm).1, rfl, k, rfl⟩⟩
theorem ListComp_tup {elt iter : Expr} {x : PySem.Str} {px : Pos} {scope : Scope} {cl : List (PySem.Str × Addr)} {pos : Pos} {Q : Value → Shared → Prop} (F₀ : Fr h₀ L s.heap m)
    (hclos : closureFor scope env = pure cl) (hcell : ∀ y ∈ scope.names, y.2 ≠ .cell) (hkind : scope.kind = .function)
    (hnames : ∀ y ∈ scope.names, y.2 = .local → scope.names.lookup y.1 = some .local) (hx : scope.names.lookup x = some .local)
    (h : wpAny (model prog w) A (eval iter env) (SrcTup prog w A h₀ L m env elt x scope cl (fun s₂ => LCg.FinE h₀ L m s₂ Q)) E s)
    (hs : ∀ x, foldedSetIterable iter env x = pure x := by intro _; rfl) :
    wpAny (model prog w) A (eval (.ListComp elt [⟨.Name x px, iter, [], 0⟩] scope pos) env) Q E s := by
  rw [eval_ListComp]
  refine wpAny_comprehension_free (use := none) rfl hs hclos hkind hnames (wpAny_mono h (fun xv s₁ h₁ => ?_) fun _ _ e => e)
  obtain ⟨ax, its, k, news, rfl, hh, F, N, hm, hsz, R⟩ := h₁
  have ht : s₁.heap.IsTuple ax its := ⟨_, (N _ hm).1, rfl, k, rfl⟩
  have hlt : ax < s₁.heap.objs.size := Heap.lt_size (N _ hm).1
  have up : ∀ b o, s₁.heap.get? b = some o → (s₁.heap.push { cls := .type "tuple_iterator", data := .fields #[.ref ax, .int 0 0] }).get? b = some o := fun b o e => Heap.get?_push_of_some _ e
  refine wpAny_pyIter_tuple ht (LCg.block_U (Walks.tuple hh s₁.heap.objs.size ax (Nat.ne_of_lt hlt) its) hsz (fun i h st => by obtain ⟨o, e, _⟩ := st.1; exact ⟨o, e⟩) tup_keeps hcell hkind hx ⟨⟨_, Heap.get?_push_size _ rfl, rfl, rfl⟩, ht.push _⟩ (fun b hb => ?_)
    (F.keeps up) (N.grown up) (Nat.ne_of_lt F.ns.lt) (next_is_new F) (fun p hp => Nat.ne_of_lt (Heap.lt_size (N p hp).1)) hm (R _) ?_)
  · show b < (s₁.heap.push _).objs.size
    rw [Heap.size_push]
    simp only [List.mem_cons, List.not_mem_nil, or_false] at hb
    rcases hb with rfl | rfl
    · exact Nat.lt_succ_self _
    · exact Nat.lt_succ_of_lt hlt
  · intro D C h tk m' ys news' F' N' o1 hn hC₀ hD₀ hCL hDL hCD offC fin
    refine ⟨m', hn, fun h'' hs'' => fin D h'' tk (F'.change hs'' hCL hC₀) (fun p hp => ⟨hs''.extBut _ _ ?_ (N' p hp).1, (N' p hp).2⟩) o1⟩
    rcases List.mem_cons.mp hp with rfl | hp
    · exact Ne.symm hCD
    · exact offC p hp
theorem Assign_ListComp_tup {elt iter : Expr} {x y : PySem.Str} {px py : Pos} {scope : Scope} {cl : List (PySem.Str × Addr)} {pos spos : Pos} {Q : Flow → Shared → Prop} (F₀ : Fr h₀ L s.heap m) (hLe : env.locals = L)
    (hsw : swapsWith (.ListComp elt [⟨.Name x px, iter, [], 0⟩] scope pos) (some (.Name y py)) spos.line env = pure true)
    (hclos : closureFor scope env = pure cl) (hcell : ∀ z ∈ scope.names, z.2 ≠ .cell) (hkind : scope.kind = .function)
    (hnames : ∀ z ∈ scope.names, z.2 = .local → scope.names.lookup z.1 = some .local) (hx : scope.names.lookup x = some .local)
    (hy : env.kindOf y = some .local) (hp : (env.scope.kind == .class || (env.scope.kind == .module && env.locals != env.globals)) = false)
    (h : wpAny (model prog w) A (eval iter env) (SrcTup prog w A h₀ L m env elt x scope cl (fun s₂ => LCg.FinA h₀ L m s₂ y Q)) E s)
    (hs : ∀ x, foldedSetIterable iter env x = pure x := by intro _; rfl) :
    wpAny (model prog w) A (exec (.Assign [.Name y py] (.ListComp elt [⟨.Name x px, iter, [], 0⟩] scope pos) spos) env) Q E s := by
  subst hLe
  rw [exec_Assign_Name_used _ _ _ _ hsw]
  refine wpAny_bind (wpAny_standAt (wpAny_bind ?_))
  show wpAny _ A (do let _ ← comprehension (.ListComp elt [⟨.Name x px, iter, [], 0⟩] scope pos) scope env _ (newList []) false (eval iter env) (some (assign (.Name y py) env))) _ _ s
  refine wpAny_bind (wpAny_mono (wpAny_comprehension_free (use := some (assign (.Name y py) env)) (Q := fun _ s' => Q .next s') rfl hs hclos hkind hnames
    (wpAny_mono h (fun xv s₁ h₁ => ?_) fun _ _ e => e)) (fun _ s' hq => wpAny_pure (wpAny_pure hq)) fun _ _ e => e)
  obtain ⟨ax, its, k, news, rfl, hh, F, N, hm, hsz, R⟩ := h₁
  have ht : s₁.heap.IsTuple ax its := ⟨_, (N _ hm).1, rfl, k, rfl⟩
  have hlt : ax < s₁.heap.objs.size := Heap.lt_size (N _ hm).1
  have up : ∀ b o, s₁.heap.get? b = some o → (s₁.heap.push { cls := .type "tuple_iterator", data := .fields #[.ref ax, .int 0 0] }).get? b = some o := fun b o e => Heap.get?_push_of_some _ e
  refine wpAny_pyIter_tuple ht (LCg.block_U (Walks.tuple hh s₁.heap.objs.size ax (Nat.ne_of_lt hlt) its) hsz (fun i h st => by obtain ⟨o, e, _⟩ := st.1; exact ⟨o, e⟩) tup_keeps hcell hkind hx ⟨⟨_, Heap.get?_push_size _ rfl, rfl, rfl⟩, ht.push _⟩ (fun b hb => ?_)
    (F.keeps up) (N.grown up) (Nat.ne_of_lt F.ns.lt) (next_is_new F) (fun p hp => Nat.ne_of_lt (Heap.lt_size (N p hp).1)) hm (R _) ?_)
  · show b < (s₁.heap.push _).objs.size
    rw [Heap.size_push]
    simp only [List.mem_cons, List.not_mem_nil, or_false] at hb
    rcases hb with rfl | rfl
    · exact Nat.lt_succ_self _
    · exact Nat.lt_succ_of_lt hlt
  · intro D C h' tk m' ys news' F' N' o1 hn hC₀ hD₀ hCL hDL hCD offC fin
    show wpAny _ A (assign (.Name y py) env (.ref D)) _ _ _
    refine wpAny_assign_Name (wpAny_storeName_local hy F'.ns (fun h₂ hn₂ hs₂ => ?_) hp)
    have hL₀ : h₀.get? env.locals = none := Heap.get?_none_of_le F'.above
    have F₂ : Fr h₀ env.locals h₂ (fun z => if z = y then some (.ref D) else m z) := ⟨hn₂, fun b o e => hs₂.extBut b o (fun q => by rw [q, hL₀] at e; cases e) (F'.keep b o e), F'.above⟩
    refine ⟨m', hn.sameBut hs₂ hCL, fun h'' hs'' => fin D h'' _ (F₂.change hs'' hCL hC₀) (fun p hp => ⟨hs''.extBut _ _ ?_ (hs₂.extBut _ _ (N' p hp).2.1 (N' p hp).1), (N' p hp).2⟩) o1⟩
    rcases List.mem_cons.mp hp with rfl | hp
    · exact Ne.symm hCD
    · exact offC p hp

/-- a tuple of one pair, unpacked in a comprehension with one test -/
def SrcOne (prog : Program) (w : World) (A : Around) (h₀ : Heap) (L : Addr) (m : PySem.Str → Option Value) (env : Env) (c elt : Expr) (a b : PySem.Str) (scope : Scope) (cl : List (PySem.Str × Addr)) (Fin : Shared → List Value → List (Addr × Obj) → Prop) (xv : Value) (s₁ : Shared) : Prop :=
  ∃ d p x y kd kp news, xv = .ref d ∧ A.handled = none ∧ Fr h₀ L s₁.heap m ∧ News h₀ L s₁.heap news ∧ (d, ({ cls := .type "tuple", data := .seq #[.ref p] kd } : Obj)) ∈ news ∧ (p, ({ cls := .type "tuple", data := .seq #[x, y] kp } : Obj)) ∈ news ∧
    ∀ g, KctRest prog w A h₀ L m env c elt a b scope cl { s₁ with heap := g } (fun nw => (d, ({ cls := .type "tuple", data := .seq #[.ref p] kd } : Obj)) ∈ nw) (Fin { s₁ with heap := g }) [(fun _ => x, y)] [] news
theorem SrcOne.intro {c elt : Expr} {a b : PySem.Str} {scope : Scope} {cl : List (PySem.Str × Addr)} {Fin : Shared → List Value → List (Addr × Obj) → Prop} {d p : Addr} {x y : Value} {kd kp : Nat} {news : List (Addr × Obj)} {s₁ : Shared}
    (hh : A.handled = none) (F : Fr h₀ L s₁.heap m) (N : News h₀ L s₁.heap news) (hd : (d, ({ cls := .type "tuple", data := .seq #[.ref p] kd } : Obj)) ∈ news) (hp : (p, ({ cls := .type "tuple", data := .seq #[x, y] kp } : Obj)) ∈ news)
    (h : ∀ g, KctRest prog w A h₀ L m env c elt a b scope cl { s₁ with heap := g } (fun nw => (d, ({ cls := .type "tuple", data := .seq #[.ref p] kd } : Obj)) ∈ nw) (Fin { s₁ with heap := g }) [(fun _ => x, y)] [] news) :
    SrcOne prog w A h₀ L m env c elt a b scope cl Fin (.ref d) s₁ := ⟨d, p, x, y, kd, kp, news, rfl, hh, F, N, hd, hp, h⟩
inductive OneSt (h₀ : Heap) (L : Addr) (m : PySem.Str → Option Value) (s₁ : Shared) (H1 : Heap) (Q : Value → Shared → Prop) (I C D d p : Addr) (s₀ : Shared) (k : Nat) (s' : Shared) : Prop
  | start : k = 2 → s' = s₀ → OneSt h₀ L m s₁ H1 Q I C D d p s₀ k s'
  | one (h' : Heap) (tk : Nat) (ys : List Value) (m' : PySem.Str → Option Value) (news' : List (Addr × Obj)) : k = 1 → s' = { s₁ with heap := h', toks := tk } → Fr h₀ L h' m → News h₀ L h' ((D, LCg.lst ys) :: news') → LCg.Off3 I C D news' → h'.Ns C m' →
      h'.IsTupleIter I d 1 → h'.IsTuple d #[.ref p] → LCg.FinE h₀ L m { s₁ with heap := H1 } Q ys news' → OneSt h₀ L m s₁ H1 Q I C D d p s₀ k s'
theorem ListComp_one {elt iter c : Expr} {a b : PySem.Str} {pa pb tp : Pos} {kk : Nat} {scope : Scope} {cl : List (PySem.Str × Addr)} {pos : Pos} {Q : Value → Shared → Prop} (F₀ : Fr h₀ L s.heap m)
    (hclos : closureFor scope env = pure cl) (hcell : ∀ y ∈ scope.names, y.2 ≠ .cell) (hkind : scope.kind = .function)
    (hnames : ∀ y ∈ scope.names, y.2 = .local → scope.names.lookup y.1 = some .local) (ha : scope.names.lookup a = some .local) (hb : scope.names.lookup b = some .local) (hab : ¬ a = b)
    (h : wpAny (model prog w) A (eval iter env) (SrcOne prog w A h₀ L m env c elt a b scope cl (fun s₂ => LCg.FinE h₀ L m s₂ Q)) E s)
    (hs : ∀ x, foldedSetIterable iter env x = pure x := by intro _; rfl) :
    wpAny (model prog w) A (eval (.ListComp elt [⟨.Tuple [.Name a pa, .Name b pb] kk tp, iter, [c], 0⟩] scope pos) env) Q E s := by
  rw [eval_ListComp]
  refine wpAny_comprehension_free (use := none) rfl hs hclos hkind hnames (wpAny_mono h (fun xv s₁ h₁ => ?_) fun _ _ e => e)
  obtain ⟨d, p, x, y, kd, kp, news, rfl, hh, F, N, hd, hp, R⟩ := h₁
  have ht : s₁.heap.IsTuple d #[.ref p] := ⟨_, (N _ hd).1, rfl, kd, rfl⟩
  have hlt : d < s₁.heap.objs.size := Heap.lt_size (N _ hd).1
  refine wpAny_pyIter_tuple ht (wpAny_newObj_type (wpAny_newFunctionEnv hcell (by intro y hy; simp at hy) (fun h₁ hns₁ hsb₁ => ?_) hkind))
  -- the iterator I, the list D, the block's names C lie one behind the other
  have W := Walks.tuple (prog := prog) (w := w) (A := A) hh s₁.heap.objs.size d (Nat.ne_of_lt hlt) #[.ref p]
  obtain ⟨I, hI⟩ : ∃ I, I = s₁.heap.objs.size := ⟨_, rfl⟩
  obtain ⟨H1, hH1⟩ : ∃ H1, H1 = s₁.heap.push { cls := .type "tuple_iterator", data := .fields #[.ref d, .int 0 0] } := ⟨_, rfl⟩
  obtain ⟨D, hD⟩ : ∃ D, D = H1.objs.size := ⟨_, rfl⟩
  obtain ⟨H2, hH2⟩ : ∃ H2, H2 = H1.push { cls := .type "list", data := .seq ([] : List Value).toArray } := ⟨_, rfl⟩
  obtain ⟨C, hC⟩ : ∃ C, C = H2.objs.size := ⟨_, rfl⟩
  simp only [← hI, ← hH1, ← hD, ← hH2, ← hC] at hns₁ hsb₁ W ⊢
  have hDI : D = I + 1 := by rw [hD, hH1, Heap.size_push, hI]
  have hCI : C = I + 2 := by rw [hC, hH2, Heap.size_push, ← hD, hDI]
  have lt0 : ∀ b o, s₁.heap.get? b = some o → @LT.lt Nat _ b I := fun b o e => by rw [hI]; exact Heap.lt_size e
  have n1 : I ≠ C := by rw [hCI]; exact Nat.ne_of_lt (by omega)
  have n2 : I ≠ D := by rw [hDI]; exact Nat.ne_of_lt (by omega)
  have n3 : C ≠ D := by rw [hCI, hDI]; exact Nat.ne_of_gt (by omega)
  have up1 : ∀ b o, s₁.heap.get? b = some o → H2.get? b = some o := fun b o e => by rw [hH2, hH1]; exact Heap.get?_push_of_some _ (Heap.get?_push_of_some _ e)
  have old : ∀ b o, s₁.heap.get? b = some o → h₁.get? b = some o := fun b o e => hsb₁.extBut b o (fun q => by have := lt0 b o e; rw [show b = C from q, hCI] at this; omega) (Heap.get?_push_of_some _ (up1 b o e))
  have eI : h₁.get? I = some { cls := .type "tuple_iterator", data := .fields #[.ref d, .int 0 0] } := hsb₁.extBut _ _ n1 (Heap.get?_push_of_some _ (by rw [hH2]; refine Heap.get?_push_of_some _ ?_; rw [hH1, hI]; exact Heap.get?_push_size _ rfl))
  have eD : h₁.get? D = some (LCg.lst []) := hsb₁.extBut _ _ (Ne.symm n3) (Heap.get?_push_of_some _ (by rw [hH2, hD]; exact Heap.get?_push_size _ rfl))
  have new0 : ∀ q, @LE.le Nat _ I q → h₀.get? q = none := fun q hq => by
    cases e : h₀.get? q with
    | none => rfl
    | some o => exact absurd (lt0 q o (F.keep q o e)) (Nat.not_lt.mpr hq)
  have I0 : h₀.get? I = none := new0 I (Nat.le_refl _)
  have D0 : h₀.get? D = none := new0 D (by rw [hDI]; omega)
  have C0 : h₀.get? C = none := new0 C (by rw [hCI]; omega)
  have Ll : @LT.lt Nat _ L I := by rw [hI]; exact F.ns.lt
  have LI : L ≠ I := Nat.ne_of_lt Ll
  have DL : D ≠ L := by rw [hDI]; exact Nat.ne_of_gt (Nat.lt_of_lt_of_le Ll (by omega))
  have CL : C ≠ L := by rw [hCI]; exact Nat.ne_of_gt (Nat.lt_of_lt_of_le Ll (by omega))
  have off : LCg.Off3 I C D news := LCg.Off3.of fun q hq => by
    have := lt0 _ _ (N q hq).1
    exact ⟨Nat.ne_of_lt this, by rw [hCI]; exact Nat.ne_of_lt (Nat.lt_of_lt_of_le this (by omega)), by rw [hDI]; exact Nat.ne_of_lt (Nat.lt_of_lt_of_le this (by omega))⟩
  have N1 : News h₀ L h₁ news := N.grown old
  have F1 : Fr h₀ L h₁ m := F.keeps old
  have ND : News h₀ L h₁ ((D, LCg.lst []) :: news) := fun q hq => by
    rcases List.mem_cons.mp hq with rfl | hq
    · exact ⟨eD, DL, D0⟩
    · exact N1 q hq
  have tup1 : ∀ h' : Heap, News h₀ L h' news → h'.IsTuple d #[.ref p] := fun h' N' => ⟨_, (N' _ hd).1, rfl, kd, rfl⟩
  have ends : ∀ (ys : List Value) (h' : Heap) (m' : PySem.Str → Option Value) (news' : List (Addr × Obj)), Fr h₀ L h' m → News h₀ L h' ((D, LCg.lst ys) :: news') → LCg.Off3 I C D news' → h'.Ns C m' →
      LCg.FinE h₀ L m { s₁ with heap := H1 } Q ys news' → ∀ (h₂ : Heap) (tk₂ : Nat), (∀ b o, b ∉ [I] → h'.get? b = some o → h₂.get? b = some o) →
      compPost (model prog w) A E none Q (.ref D) C (.ok .next) { s₁ with heap := h₂, toks := tk₂ } := by
    intro ys h' m' news' F' N' off' hn' fin h₂ tk₂ hk₂
    have off3 := off'.mem
    have F₂ := LCg.fr_but F' hk₂ LI I0
    have N₂ : News h₀ L h₂ ((D, LCg.lst ys) :: news') := LCg.news_but N' hk₂ fun q hq => by
      rcases List.mem_cons.mp hq with rfl | hq
      · exact Ne.symm n2
      · exact (off3 q hq).1
    refine ⟨m', hn'.at' fun o e => hk₂ _ o (by simpa using Ne.symm n1) e, fun h'' hs'' => fin D h'' tk₂ (F₂.change hs'' CL C0) (fun q hq => ⟨hs''.extBut _ _ ?_ (N₂ q hq).1, (N₂ q hq).2⟩) off'.one⟩
    rcases List.mem_cons.mp hq with rfl | hq
    · exact Ne.symm n3
    · exact (off3 q hq).2.1
  have loop : ∀ tk₀ : Nat, codeAny (model prog w) A (.compLoop (.ListComp elt [⟨.Tuple [.Name a pa, .Name b pb] kk tp, iter, [c], 0⟩] scope pos) 0 (.ref I) (.ref D) (compEnvC scope cl C env)) (compPost (model prog w) A E none Q (.ref D) C) { s₁ with heap := h₁, toks := tk₀ } := by
    intro tk₀
    refine kct_loop (OneSt h₀ L m s₁ H1 Q I C D d p { s₁ with heap := h₁, toks := tk₀ }) ?_ 2 (.start rfl rfl)
    rintro k s' (⟨rfl, rfl⟩ | ⟨h', tk, ys, m', news', rfl, rfl, F', N', off', hn', st, st', fin⟩)
    · refine W.item 0 _ _ _ Nat.zero_lt_one ⟨⟨_, eI, rfl, rfl⟩, tup1 h₁ N1⟩ fun v h₂ tk₂ hP st₂ hk₂ => ?_
      have hv : v = .ref p := by simpa using hP.symm
      subst hv
      have off3 := off.mem
      refine letGo_tupleiter st₂.1 ?_
      have N₂ : News h₀ L h₂ ((D, LCg.lst []) :: news) := LCg.news_but ND hk₂ fun q hq => by
        rcases List.mem_cons.mp hq with rfl | hq
        · exact Ne.symm n2
        · exact (off3 q hq).1
      have tp₂ : h₂.IsTuple p #[x, y] := ⟨_, (N₂ _ (.tail _ hp)).1, rfl, kp, rfl⟩
      refine kcp_assign (env := compEnvC scope cl C env) hh tp₂ (lookup_relabel_local ha) (lookup_relabel_local hb) (by simp [compEnvC, relabel, hkind]) (hns₁.at' fun o e => hk₂ _ o (by simpa using Ne.symm n1) e) fun h₃ tk₃ hn₃ hs₃ => ?_
      obtain ⟨oI, heI, hoI⟩ : ∃ oI : Obj, h₃.get? I = some oI ∧ ∀ h : Heap, h.get? I = some oI → h.IsTupleIter I d 1 := by
        obtain ⟨o, e, r⟩ := st₂.1
        exact ⟨o, hs₃ I o n1 e, fun h e' => ⟨o, e', r⟩⟩
      obtain ⟨oC, heC, hoC⟩ := LCg.ns_obj hn₃
      have F₂ := LCg.fr_but F1 hk₂ LI I0
      have F₃ : Fr h₀ L h₃ m := ⟨F₂.ns.at' fun o e => hs₃ L o (Ne.symm CL) e, fun q o e => hs₃ q o (fun z => by rw [show q = C from z, C0] at e; cases e) (F₂.keep q o e), F₂.above⟩
      have N₃ : News h₀ L h₃ ((I, oI) :: (C, oC) :: (D, LCg.lst []) :: news) := fun q hq => by
        rcases List.mem_cons.mp hq with rfl | hq
        · exact ⟨heI, Ne.symm LI, I0⟩
        rcases List.mem_cons.mp hq with rfl | hq
        · exact ⟨heC, CL, C0⟩
        refine ⟨hs₃ _ _ ?_ (N₂ q hq).1, (N₂ q hq).2⟩
        rcases List.mem_cons.mp hq with rfl | hq
        · exact Ne.symm n3
        · exact (off3 q hq).2.1
      have after : ∀ (ys : List Value) (h₅ : Heap) (tk₅ : Nat) (news₅ : List (Addr × Obj)), Fr h₀ L h₅ m → News h₀ L h₅ ((I, oI) :: (C, oC) :: (D, LCg.lst ys) :: news₅) → LCg.Off3 I C D news₅ → (d, ({ cls := .type "tuple", data := .seq #[.ref p] kd } : Obj)) ∈ news₅ → LCg.FinE h₀ L m { s₁ with heap := H1 } Q ys news₅ →
          ∃ q, q < 2 ∧ OneSt h₀ L m s₁ H1 Q I C D d p { s₁ with heap := h₁, toks := tk₀ } q { s₁ with heap := h₅, toks := tk₅ } :=
        fun ys h₅ tk₅ news₅ F₅ N₅ off₅ hd₅ fin₅ => ⟨1, by decide, .one h₅ tk₅ ys _ news₅ rfl rfl F₅ ( fun q hq => N₅ q (.tail _ (.tail _ hq))) off₅ (hoC.ns (N₅ _ (.tail _ (.head _))).1) (hoI _ (N₅ _ (.head _)).1) ⟨_, (N₅ _ (.tail _ (.tail _ (.tail _ hd₅)))).1, rfl, kd, rfl⟩ fin₅⟩
      refine wpAny_mono (R H1 0 I oI C oC D _ h₃ tk₃ _ hoC (by simp [hab]) (by simp) F₃ N₃ off ⟨n1, n2, n3⟩) (fun ok s₅ hq => ?_) fun _ _ e => e
      cases ok with
      | false =>
        simp only [Bool.false_eq_true, if_false] at hq ⊢
        obtain ⟨h₅, tk₅, news₅, rfl, F₅, N₅, off₅, hd₅, R₅⟩ := hq
        exact after [] h₅ tk₅ news₅ F₅ N₅ off₅ hd₅ R₅
      | true =>
        simp only [if_true] at hq ⊢
        refine wpAny_mono hq (fun z s₆ hz => ?_) fun _ _ e => e
        obtain ⟨h₅, tk₅, news₅, rfl, F₅, N₅, off₅, hd₅, R₅⟩ := hz
        refine append_at (hsz := by decide) (N₅ _ (.tail _ (.tail _ (.head _)))).1 fun h₆ hs₆ hD₆ => ?_
        have off5 := off₅.mem
        refine after [z] h₆ tk₅ news₅ (F₅.change hs₆ DL D0) (fun q hq => ?_) off₅ hd₅ R₅
        rcases List.mem_cons.mp hq with rfl | hq
        · exact ⟨hs₆.extBut _ _ n2 (N₅ _ (.head _)).1, Ne.symm LI, I0⟩
        rcases List.mem_cons.mp hq with rfl | hq
        · exact ⟨hs₆.extBut _ _ n3 (N₅ _ (.tail _ (.head _))).1, CL, C0⟩
        rcases List.mem_cons.mp hq with rfl | hq
        · exact ⟨hD₆.trans (congrArg some (LCg.lst_snoc [] z)), DL, D0⟩
        · exact ⟨hs₆.extBut _ _ (off5 q hq).2.2 (N₅ q (.tail _ (.tail _ (.tail _ hq)))).1, (N₅ q (.tail _ (.tail _ (.tail _ hq)))).2⟩
    · exact W.done _ _ _ ⟨st, st'⟩ fun h₂ tk₂ hk₂ => ends ys h' m' news' F' N' off' hn' fin h₂ tk₂ hk₂
  exact codeAny_compStart_list (loop _) (W.self 0 _ _ _ ⟨⟨_, eI, rfl, rfl⟩, tup1 h₁ N1⟩ (loop _))
end
def KeepBut (as : List Addr) (h h' : Heap) : Prop := ∀ b o, b ∉ as → h.get? b = some o → h'.get? b = some o
theorem keepBut_of {H g H' h₀ : Heap} {L L' : Addr} {m' : PySem.Str → Option Value} {as : List Addr} {news news' : List (Addr × Obj)} (G : GSub H g (news.map (·.1))) (N : News h₀ L H news) (F' : Fr g L' H' m') (N' : News g L' H' news')
    (hs : ∀ p ∈ news, p ∈ news' ∨ p.1 ∈ as) : KeepBut as H H' := by
  intro b o hb e
  by_cases hm : b ∈ news.map (·.1)
  · obtain ⟨p, hp, rfl⟩ := List.mem_map.mp hm
    rcases hs p hp with h | h
    · have z := (N p hp).1
      rw [e] at z
      cases z
      exact (N' p h).1
    · exact absurd h hb
  · exact F'.keep b o (G b o e hm)
theorem keepBut_refl {as : List Addr} {h h' : Heap} (k : InElt h h') : KeepBut as h h' := fun b o _ e => k b o e
theorem ne_kind {h₀ h : Heap} {L a b : Addr} {o o' : Obj} {news : List (Addr × Obj)} {c c' : Value} (N : News h₀ L h news) (ha : (a, o) ∈ news) (hb : (b, o') ∈ news) (h1 : o.cls = c) (h2 : o'.cls = c') (h3 : c ≠ c') : a ≠ b := by
  rintro rfl
  have e := (N _ ha).1.symm.trans (N _ hb).1
  cases e
  exact h3 (h1.symm.trans h2)
abbrev ent (w : World) (n : String) (t : Tok) (v : Value) : DictEntry := { hash := PyData.keyHash w.params (Str.ofString n), key := .str (Str.ofString n) t, val := v }
abbrev remD (w : World) (sc : Addr) (u1 u2 u3 u4 u5 u6 u7 : Tok) : Obj := W.dictOf [ent w "number" u1 (.int (-1) u2), ent w "scope" u3 (.ref sc), ent w "strength" u4 (.str (Str.ofString "bounds") u5), ent w "name" u6 (.str (Str.ofString "mod") u7)] 4
abbrev storeD (w : World) (dl fl tl ml nd : Addr) (b : Bool) (cl : Addr) (u1 u2 u3 u4 u5 u6 u7 u8 u9 : Tok) : Obj :=
  W.dictOf [ent w "domains" u1 (.ref dl), ent w "firsts" u2 (.ref fl), ent w "trail" u3 (.ref tl), ent w "marks" u4 (.ref ml), ent w "news" u5 (.ref nd), ent w "speaker" u6 (.int (-1) u7), ent w "is_failed" u8 (.bool b), ent w "clash" u9 (.ref cl)] 8
theorem type_ne {a b : String} (h : a ≠ b) : Value.type a ≠ Value.type b := fun e => h (by injection e)
theorem type_ne_ref {a : String} {b : Addr} : Value.type a ≠ Value.ref b := fun e => by cases e
theorem ref_ne_type {a : String} {b : Addr} : Value.ref b ≠ Value.type a := fun e => by cases e
section
variable {prog : Program} {w : World} {A : Around} {E : Value → Shared → Prop} {s : Shared} {h₀ : Heap} {L : Addr} {news : List (Addr × Obj)}
theorem led_tup {value slice : Expr} {t : Addr} {l : List Value} {n : Nat} {k : Int} {u : Tok} {j : Nat} {x : Value} {Q : Value → Shared → Prop} (N : News h₀ L s.heap news) (hm : (t, ({ cls := .type "tuple", data := .seq l.toArray n } : Obj)) ∈ news)
    (hlo : -(2 ^ 63) ≤ k) (hhi : k < 2 ^ 63) (hj : seqIndex? k l.length = some j) (hx : l[j]? = some x) (h : Q x s)
    (hs : subscripted slice false (.ref t) (.int k u) = operate [.ref t, .int k u] (getItem (.ref t) (.int k u)) := by with_unfolding_all rfl) :
    wpAny (model prog w) A (subscriptTail value slice (.ref t) (.int k u)) Q E s := item_tupleT (N.isTup hm) hlo hhi hj hx h hs
theorem led_list {value slice : Expr} {t : Addr} {l : List Value} {n : Nat} {k : Int} {u : Tok} {x : Value} {Q : Value → Shared → Prop} (N : News h₀ L s.heap news) (hm : (t, ({ cls := .type "list", data := .seq l.toArray n } : Obj)) ∈ news)
    (hlo : 0 ≤ k) (hhi : k < 2 ^ 63) (hx : l[k.toNat]? = some x) (h : Q x s)
    (hs : subscripted slice false (.ref t) (.int k u) = operate [.ref t, .int k u] (getItem (.ref t) (.int k u)) := by with_unfolding_all rfl) :
    wpAny (model prog w) A (subscriptTail value slice (.ref t) (.int k u)) Q E s :=
  tail_any (N.isList hm).typeIs slot_list_getitem.lookup (wpAny_getItem_list (N.isList hm) hlo hhi (by simpa using hx) h) hs
end
theorem news_keep {h₀ h h' : Heap} {L : Addr} {as : List Addr} {news sub : List (Addr × Obj)} (N : News h₀ L h news) (K : KeepBut as h h') (hs : ∀ p ∈ sub, p ∈ news ∧ p.1 ∉ as) : News h₀ L h' sub :=
  fun p hp => ⟨K _ _ (hs p hp).2 (N p (hs p hp).1).1, (N p (hs p hp).1).2⟩
theorem keepBut_trans {as : List Addr} {h h' h'' : Heap} (K : KeepBut as h h') (K' : KeepBut as h' h'') : KeepBut as h h'' := fun b o hb e => K' b o hb (K b o hb e)
theorem notin4 {q a b c d : Addr} (h1 : q ≠ a) (h2 : q ≠ b) (h3 : q ≠ c) (h4 : q ≠ d) : q ∉ [a, b, c, d] := by
  simp only [List.mem_cons, List.not_mem_nil, or_false, not_or]; exact ⟨h1, h2, h3, h4⟩
theorem led_set {prog : Program} {w : World} {A : Around} {E : Value → Shared → Prop} {s : Shared} {h₀ : Heap} {L D : Addr} {m : PySem.Str → Option Value} {news news' : List (Addr × Obj)} {vs : List Value} {n : Nat} {k : Int} {t : Tok} {v : Value} {Q : Unit → Shared → Prop}
    (F : Fr h₀ L s.heap m) (N : News h₀ L s.heap news) (U : Upd D (W.listOf vs.toArray n) (W.listOf (vs.set k.toNat v).toArray n) news news') (h0 : 0 ≤ k) (hfit : k < 2 ^ 63) (h1 : k.toNat < vs.length)
    (h : ∀ h', Fr h₀ L h' m → News h₀ L h' news' → Q () { s with heap := h' }) : wpAny (model prog w) A (setItem (.ref D) (.int k t) v) Q E s := by
  obtain ⟨pre, post, rfl, rfl, a, b⟩ := U.split
  have z := N (D, W.listOf vs.toArray n) (List.mem_append.mpr (.inr (.head _)))
  have hs : vs.toArray.size = vs.length := List.size_toArray
  refine ki_setAt z.1 h0 hfit (by omega) (h _ (F.change (Heap.SameBut.update ..) z.2.1 z.2.2) (ki_turn _ N a b ?_ ?_))
  · show vs.toArray.setIfInBounds k.toNat v = (vs.set k.toNat v).toArray
    apply Array.toList_inj.mp
    simp
  · simp
theorem news_keep2 {h₀ h h' : Heap} {L : Addr} {as : List Addr} {news sub : List (Addr × Obj)} (N : News h₀ L h news) (K : KeepBut as h h') (hs : ∀ p ∈ sub, p ∈ news) (ha : ∀ p ∈ sub, p.1 ∉ as) : News h₀ L h' sub :=
  fun p hp => ⟨K _ _ (ha p hp) (N p (hs p hp)).1, (N p (hs p hp)).2⟩
theorem kept_off {w : World} {h₀ h : Heap} {L : Addr} {self rd sc st sd dl fl tl ml nd cl d0 d1 d2 p0 p1 p2 : Addr} {a0 b0 y c d : Int} {t1 t2 t3 t4 t5 t6 u1 u2 u3 u4 u5 u6 u7 u8 u9 w1 w2 w3 w4 w5 w6 w7 v1 v2 v3 : Tok} {kdl ktl : Nat} {tits : Array Value} {on : Obj}
  (N : News h₀ L h [(self, W.instObj 437 rd), (rd, remD w sc w1 w2 w3 w4 w5 w6 w7), (sc, tup [.int 0 v1, .int 1 v2, .int 2 v3]), (st, W.instObj 244 sd), (sd, storeD w dl fl tl ml nd false cl u1 u2 u3 u4 u5 u6 u7 u8 u9), (dl, W.listOf #[.ref d0, .ref d1, .ref d2] kdl), (tl, W.listOf tits ktl), (nd, on), (d0, tup [.ref p0]), (p0, tup [.int a0 t1, .int b0 t2]), (d1, tup [.ref p1]), (p1, tup [.int y t3, .int y t4]), (d2, tup [.ref p2]), (p2, tup [.int c t5, .int d t6])]) (ho : @LT.lt Nat _ sd st ∧ @LT.lt Nat _ st dl ∧ @LT.lt Nat _ dl tl ∧ @LT.lt Nat _ tl nd ∧ @LT.lt Nat _ nd rd) (hoc : on.cls = .type "dict") :
  ∀ p ∈ [(self, W.instObj 437 rd), (rd, remD w sc w1 w2 w3 w4 w5 w6 w7), (sc, tup [.int 0 v1, .int 1 v2, .int 2 v3]), (d0, tup [.ref p0]), (p0, tup [.int a0 t1, .int b0 t2]), (d1, tup [.ref p1]), (p1, tup [.int y t3, .int y t4]), (d2, tup [.ref p2]), (p2, tup [.int c t5, .int d t6])], p.1 ∉ [sd, dl, tl, nd] := by
  repeat' (first | exact List.forall_mem_nil _ | (refine allC ?_ ?_))
  all_goals (refine notin4 ?_ ?_ ?_ ?_)
  all_goals (refine neN ?_; (try dsimp only); first
  | omega
  | exact ne_kind N (by k_mem) (by k_mem) (by first | assumption | rfl) (by first | assumption | rfl) (by first | exact type_ne (by decide) | exact type_ne_ref | exact ref_ne_type))
theorem AllNe.off4 {q a b c d : Addr} {l : List (Addr × Obj)} {o₁ o₂ o₃ o₄ : Obj} (h : AllNe q l) (h1 : (a, o₁) ∈ l) (h2 : (b, o₂) ∈ l) (h3 : (c, o₃) ∈ l) (h4 : (d, o₄) ∈ l) : q ∉ [a, b, c, d] := by
  have k : ∀ {x : Addr} {o : Obj}, (x, o) ∈ l → q ≠ x := fun hm e => h.notin (List.mem_map.mpr ⟨_, hm, e.symm⟩)
  exact notin4 (k h1) (k h2) (k h3) (k h4)
theorem ne_data {h₀ h : Heap} {L a b : Addr} {o o' : Obj} {news : List (Addr × Obj)} (N : News h₀ L h news) (ha : (a, o) ∈ news) (hb : (b, o') ∈ news) (hd : o ≠ o') : a ≠ b := by
  rintro rfl
  have e := (N _ ha).1.symm.trans (N _ hb).1
  injection e with e
  exact hd e
theorem tup_ne_ref {p : Addr} {vs : List Value} {x y : Int} {t u : Tok} : tup [.int x t, .int y u] ≠ tup [.ref p] := by intro e; simp [tup] at e
theorem ends_off {w : World} {h₀ h : Heap} {L : Addr} {self rd sc st sd dl fl tl ml nd cl d0 d1 d2 p0 p1 p2 : Addr} {a0 b0 y c d : Int} {t1 t2 t3 t4 t5 t6 u1 u2 u3 u4 u5 u6 u7 u8 u9 w1 w2 w3 w4 w5 w6 w7 v1 v2 v3 : Tok} {kdl ktl : Nat} {tits : Array Value} {on : Obj}
  (N : News h₀ L h [(self, W.instObj 437 rd), (rd, remD w sc w1 w2 w3 w4 w5 w6 w7), (sc, tup [.int 0 v1, .int 1 v2, .int 2 v3]), (st, W.instObj 244 sd), (sd, storeD w dl fl tl ml nd false cl u1 u2 u3 u4 u5 u6 u7 u8 u9), (dl, W.listOf #[.ref d0, .ref d1, .ref d2] kdl), (tl, W.listOf tits ktl), (nd, on), (d0, tup [.ref p0]), (p0, tup [.int a0 t1, .int b0 t2]), (d1, tup [.ref p1]), (p1, tup [.int y t3, .int y t4]), (d2, tup [.ref p2]), (p2, tup [.int c t5, .int d t6])]) (ho : @LT.lt Nat _ sd st ∧ @LT.lt Nat _ st dl ∧ @LT.lt Nat _ dl tl ∧ @LT.lt Nat _ tl nd ∧ @LT.lt Nat _ nd rd) (hoc : on.cls = .type "dict") (hne : p0 ≠ p1 ∧ p2 ≠ p1) :
  ∀ p ∈ [(p0, tup [.int a0 t1, .int b0 t2]), (p2, tup [.int c t5, .int d t6])], p.1 ∉ [sd, dl, tl, nd, d0, d1, p1, d2] := by
  have hk := kept_off N ho hoc
  have h0 := hk (p0, tup [.int a0 t1, .int b0 t2]) (by k_mem)
  have h2 := hk (p2, tup [.int c t5, .int d t6]) (by k_mem)
  simp only [List.mem_cons, List.not_mem_nil, or_false, not_or] at h0 h2
  have e0 : p0 ≠ d0 := ne_data N (o := tup [.int a0 t1, .int b0 t2]) (o' := tup [.ref p0]) (by k_mem) (by k_mem) (tup_ne_ref (vs := []))
  have e1 : p0 ≠ d1 := ne_data N (o := tup [.int a0 t1, .int b0 t2]) (o' := tup [.ref p1]) (by k_mem) (by k_mem) (tup_ne_ref (vs := []))
  have e2 : p0 ≠ d2 := ne_data N (o := tup [.int a0 t1, .int b0 t2]) (o' := tup [.ref p2]) (by k_mem) (by k_mem) (tup_ne_ref (vs := []))
  have f0 : p2 ≠ d0 := ne_data N (o := tup [.int c t5, .int d t6]) (o' := tup [.ref p0]) (by k_mem) (by k_mem) (tup_ne_ref (vs := []))
  have f1 : p2 ≠ d1 := ne_data N (o := tup [.int c t5, .int d t6]) (o' := tup [.ref p1]) (by k_mem) (by k_mem) (tup_ne_ref (vs := []))
  have f2 : p2 ≠ d2 := ne_data N (o := tup [.int c t5, .int d t6]) (o' := tup [.ref p2]) (by k_mem) (by k_mem) (tup_ne_ref (vs := []))
  refine allC ?_ (allC ?_ (List.forall_mem_nil _))
  · simp only [List.mem_cons, List.not_mem_nil, or_false, not_or]
    exact ⟨h0.1, h0.2.1, h0.2.2.1, h0.2.2.2, e0, e1, hne.1, e2⟩
  · simp only [List.mem_cons, List.not_mem_nil, or_false, not_or]
    exact ⟨h2.1, h2.2.1, h2.2.2.1, h2.2.2.2, f0, f1, hne.2, f2⟩
theorem ite_twice {α : Type} {P : Prop} [Decidable P] (a b c : α) : (if P then a else if P then b else c) = if P then a else c := by split <;> rfl
/-- the end of a turn that moves one name that holds an int -/
def MoveEnd (h₀ : Heap) (L : Addr) (mb : PySem.Str → Option Value) (x : PySem.Str) (v : Int) (s : Shared) (led : List (Addr × Obj)) (f : Flow) (s' : Shared) : Prop :=
  f = .next ∧ ∃ t m' h' tk', s' = { s with heap := h', toks := tk' } ∧ (∀ y, m' y = if y = x then some (.int v t) else mb y) ∧ Fr h₀ L h' m' ∧ News h₀ L h' led
theorem MoveEnd.intro {h₀ : Heap} {L : Addr} {mb m' : PySem.Str → Option Value} {x : PySem.Str} {v : Int} {t : Tok} {s : Shared} {led led' : List (Addr × Obj)} {h' : Heap} {tk' : Nat}
    (F : Fr h₀ L h' m') (N : News h₀ L h' led') (hs : ∀ p ∈ led, p ∈ led') (e : ∀ y, m' y = if y = x then some (.int v t) else mb y) : MoveEnd h₀ L mb x v s led .next { s with heap := h', toks := tk' } :=
  ⟨rfl, t, m', h', tk', rfl, e, F, fun p hp => N p (hs p hp)⟩
section
variable {prog : Program} {w : World} {A : Around} {E : Value → Shared → Prop} {Q : Flow → Shared → Prop} {s : Shared} {env : Env} {h₀ : Heap} {L : Addr} {news : List (Addr × Obj)} {mb : PySem.Str → Option Value} {x : PySem.Str} {v0 : Int} {t0 : Tok} {test : Expr} {body : List Stmt} {pos : Pos}
theorem while_step (n : Int → Nat) (C : Int → Bool) (I : Int → Prop) (g : Int → Int) (h0 : I v0) (hn : ∀ v, I v → C v = true → n (g v) < n v) (hI : ∀ v, I v → C v = true → I (g v))
    (F : Fr h₀ L s.heap (fun y => if y = x then some (.int v0 t0) else mb y)) (N : News h₀ L s.heap news)
    (ht : ∀ v t h tk, I v → Fr h₀ L h (fun y => if y = x then some (.int v t) else mb y) → News h₀ L h news →
      wpAny (model prog w) A (isTrue test env (eval test env)) (TestEnd h₀ L (fun y => if y = x then some (.int v t) else mb y) { s with heap := h, toks := tk } news (C v)) E { s with heap := h, toks := tk })
    (hb : ∀ v t h tk, I v → C v = true → Fr h₀ L h (fun y => if y = x then some (.int v t) else mb y) → News h₀ L h news →
      wpAny (model prog w) A (execs body env) (MoveEnd h₀ L mb x (g v) { s with heap := h, toks := tk } news) E { s with heap := h, toks := tk })
    (done : ∀ v t h tk, I v → C v = false → Fr h₀ L h (fun y => if y = x then some (.int v t) else mb y) → News h₀ L h news → Q .next { s with heap := h, toks := tk })
    (hE : PassesOwn (model prog w) A env E := by passes_own) :
    wpAny (model prog w) A (exec (.While test body [] pos) env) Q E s := by
  refine While_inv (fun k m₁ nw => ∃ v t, m₁ = (fun y => if y = x then some (.int v t) else mb y) ∧ nw = news ∧ I v ∧ k = n v) F N ⟨v0, t0, rfl, rfl, h0, rfl⟩ ?_ hE
  rintro k m₁ nw h₁ tk₁ F₁ N₁ ⟨v, t, rfl, rfl, hv, rfl⟩
  refine wpAny_mono (ht v t h₁ tk₁ hv F₁ N₁) (fun b s₂ hq => ?_) fun _ _ e => e
  obtain ⟨rfl, h₂, tk₂, rfl, F₂, N₂⟩ := hq
  cases hc : C v with
  | false =>
    simp only [Bool.false_eq_true, if_false]
    exact done v t h₂ tk₂ hv hc F₂ N₂
  | true =>
    simp only [if_true]
    refine wpAny_mono (hb v t h₂ tk₂ hv hc F₂ N₂) (fun f s₃ hq => ?_) fun _ _ e => e
    obtain ⟨rfl, t', m', h₃, tk₃, rfl, em, F₃, N₃⟩ := hq
    have em' : m' = fun y => if y = x then some (.int (g v) t') else mb y := funext em
    subst em'
    exact WhileStep.intro F₃ N₃ (hn v hv hc) ⟨g v, t', rfl, rfl, hI v hv hc, rfl⟩
/-- upward: the first number from v0 on that is beyond the end or is taken -/
theorem while_up (p : Int → Bool) (lim : Int)
    (F : Fr h₀ L s.heap (fun y => if y = x then some (.int v0 t0) else mb y)) (N : News h₀ L s.heap news)
    (ht : ∀ v t h tk, v0 ≤ v → v ≤ max v0 (lim + 1) → Fr h₀ L h (fun y => if y = x then some (.int v t) else mb y) → News h₀ L h news →
      wpAny (model prog w) A (isTrue test env (eval test env)) (TestEnd h₀ L (fun y => if y = x then some (.int v t) else mb y) { s with heap := h, toks := tk } news (decide (v ≤ lim) && !p v)) E { s with heap := h, toks := tk })
    (hb : ∀ v t h tk, v0 ≤ v → Fr h₀ L h (fun y => if y = x then some (.int v t) else mb y) → News h₀ L h news →
      wpAny (model prog w) A (execs body env) (MoveEnd h₀ L mb x (v + 1) { s with heap := h, toks := tk } news) E { s with heap := h, toks := tk })
    (done : ∀ v t h tk, v0 ≤ v → v ≤ max v0 (lim + 1) → (∀ u, v0 ≤ u → u < v → u ≤ lim ∧ p u = false) → (v ≤ lim → p v = true) → Fr h₀ L h (fun y => if y = x then some (.int v t) else mb y) → News h₀ L h news → Q .next { s with heap := h, toks := tk })
    (hE : PassesOwn (model prog w) A env E := by passes_own) :
    wpAny (model prog w) A (exec (.While test body [] pos) env) Q E s := by
  refine while_step (fun v => (lim + 1 - v).toNat) (fun v => decide (v ≤ lim) && !p v) (fun v => v0 ≤ v ∧ v ≤ max v0 (lim + 1) ∧ ∀ u, v0 ≤ u → u < v → u ≤ lim ∧ p u = false) (fun v => v + 1) ⟨Int.le_refl _, by omega, fun u a b => by omega⟩ ?_ ?_ F N
    (fun v t h tk hv => ht v t h tk hv.1 hv.2.1) (fun v t h tk hv _ => hb v t h tk hv.1) (fun v t h tk hv hc => done v t h tk hv.1 hv.2.1 hv.2.2 ?_) hE
  · intro v hv hc
    simp only [Bool.and_eq_true, decide_eq_true_eq] at hc
    (try dsimp only)
    omega
  · intro v hv hc
    simp only [Bool.and_eq_true, decide_eq_true_eq, Bool.not_eq_true'] at hc
    refine ⟨by omega, by omega, fun u a b => ?_⟩
    by_cases e : u = v
    · subst e; exact hc
    · exact hv.2.2 u a (by omega)
  · intro hl
    simp only [hl, decide_true, Bool.true_and, Bool.not_eq_false'] at hc
    exact hc
/-- downward: the first number from v0 down that is taken, or the least -/
theorem while_down (p : Int → Bool) (low : Int)
    (F : Fr h₀ L s.heap (fun y => if y = x then some (.int v0 t0) else mb y)) (N : News h₀ L s.heap news)
    (ht : ∀ v t h tk, v ≤ v0 → min v0 low ≤ v → Fr h₀ L h (fun y => if y = x then some (.int v t) else mb y) → News h₀ L h news →
      wpAny (model prog w) A (isTrue test env (eval test env)) (TestEnd h₀ L (fun y => if y = x then some (.int v t) else mb y) { s with heap := h, toks := tk } news (decide (low < v) && !p v)) E { s with heap := h, toks := tk })
    (hb : ∀ v t h tk, v ≤ v0 → Fr h₀ L h (fun y => if y = x then some (.int v t) else mb y) → News h₀ L h news →
      wpAny (model prog w) A (execs body env) (MoveEnd h₀ L mb x (v - 1) { s with heap := h, toks := tk } news) E { s with heap := h, toks := tk })
    (done : ∀ v t h tk, v ≤ v0 → min v0 low ≤ v → (∀ u, v < u → u ≤ v0 → low < u ∧ p u = false) → (low < v → p v = true) → Fr h₀ L h (fun y => if y = x then some (.int v t) else mb y) → News h₀ L h news → Q .next { s with heap := h, toks := tk })
    (hE : PassesOwn (model prog w) A env E := by passes_own) :
    wpAny (model prog w) A (exec (.While test body [] pos) env) Q E s := by
  refine while_step (fun v => (v - low).toNat) (fun v => decide (low < v) && !p v) (fun v => v ≤ v0 ∧ min v0 low ≤ v ∧ ∀ u, v < u → u ≤ v0 → low < u ∧ p u = false) (fun v => v - 1) ⟨Int.le_refl _, by omega, fun u a b => by omega⟩ ?_ ?_ F N
    (fun v t h tk hv => ht v t h tk hv.1 hv.2.1) (fun v t h tk hv _ => hb v t h tk hv.1) (fun v t h tk hv hc => done v t h tk hv.1 hv.2.1 hv.2.2 ?_) hE
  · intro v hv hc
    simp only [Bool.and_eq_true, decide_eq_true_eq] at hc
    (try dsimp only)
    omega
  · intro v hv hc
    simp only [Bool.and_eq_true, decide_eq_true_eq, Bool.not_eq_true'] at hc
    refine ⟨by omega, by omega, fun u a b => ?_⟩
    by_cases e : u = v
    · subst e; exact hc
    · exact hv.2.2 u (by omega) b
  · intro hl
    simp only [hl, decide_true, Bool.true_and, Bool.not_eq_false'] at hc
    exact hc
end
/-- the three ranges as lift and lower read them -/
def RangesEnd (h₀ : Heap) (L : Addr) (m : PySem.Str → Option Value) (s : Shared) (led : List (Addr × Obj)) (a0 b0 a1 b1 a2 b2 : Int) (v : Value) (s' : Shared) : Prop :=
  ∃ rg r0 r1 r2 n t1 t2 t3 t4 t5 t6 h' tk', v = .ref rg ∧ s' = { s with heap := h', toks := tk' } ∧ Fr h₀ L h' m ∧
    News h₀ L h' ((rg, W.listOf #[.ref r0, .ref r1, .ref r2] n) :: (r0, tup [.int a0 t1, .int b0 t2]) :: (r1, tup [.int a1 t3, .int b1 t4]) :: (r2, tup [.int a2 t5, .int b2 t6]) :: led)
theorem RangesEnd.intro {h₀ h' : Heap} {L rg r0 r1 r2 : Addr} {m : PySem.Str → Option Value} {s : Shared} {led led' : List (Addr × Obj)} {a0 b0 a1 b1 a2 b2 : Int} {n : Nat} {t1 t2 t3 t4 t5 t6 : Tok} {tk' : Nat} (F : Fr h₀ L h' m) (N : News h₀ L h' led')
    (hs : ∀ p ∈ (rg, W.listOf #[.ref r0, .ref r1, .ref r2] n) :: (r0, tup [.int a0 t1, .int b0 t2]) :: (r1, tup [.int a1 t3, .int b1 t4]) :: (r2, tup [.int a2 t5, .int b2 t6]) :: led, p ∈ led') :
    RangesEnd h₀ L m s led a0 b0 a1 b1 a2 b2 (.ref rg) { s with heap := h', toks := tk' } :=
  ⟨rg, r0, r1, r2, n, t1, t2, t3, t4, t5, t6, h', tk', rfl, rfl, F, fun p hp => N p (hs p hp)⟩
theorem ranges_cut {M : Model} {A : Around} {t : Sem Value} {h₀ : Heap} {L : Addr} {m : PySem.Str → Option Value} {s : Shared} {led : List (Addr × Obj)} {Q E : Value → Shared → Prop} (a0 b0 a1 b1 a2 b2 : Int) (F : Fr h₀ L s.heap m) (N : News h₀ L s.heap led)
    (key : wpAny M A t (RangesEnd h₀ L m s led a0 b0 a1 b1 a2 b2) E s)
    (rest : ∀ rg r0 r1 r2 n t1 t2 t3 t4 t5 t6 h' tk', Fr h₀ L h' m → News h₀ L h' ((rg, W.listOf #[.ref r0, .ref r1, .ref r2] n) :: (r0, tup [.int a0 t1, .int b0 t2]) :: (r1, tup [.int a1 t3, .int b1 t4]) :: (r2, tup [.int a2 t5, .int b2 t6]) :: led) → Q (.ref rg) { s with heap := h', toks := tk' }) :
    wpAny M A t Q E s := by
  refine wpAny_mono key (fun v s' h => ?_) fun _ _ e => e
  obtain ⟨rg, r0, r1, r2, n, t1, t2, t3, t4, t5, t6, h', tk', rfl, rfl, F', N'⟩ := h
  exact rest rg r0 r1 r2 n t1 t2 t3 t4 t5 t6 h' tk' F' N'
theorem ite_beq_t {x y : Int} {P R : Prop} (h : x = y) (k : P) : if (x == y) = true then P else R := by rw [if_pos (by simp [h])]; exact k
theorem ite_beq_f {x y : Int} {P R : Prop} (h : ¬ x = y) (k : R) : if (x == y) = true then P else R := by rw [if_neg (by simp [h])]; exact k
theorem ite_bne_t {x y : Int} {P R : Prop} (h : ¬ x = y) (k : P) : if (x != y) = true then P else R := by rw [if_pos (by simp [h])]; exact k
theorem ite_bne_f {x y : Int} {P R : Prop} (h : x = y) (k : R) : if (x != y) = true then P else R := by rw [if_neg (by simp [h])]; exact k
def inS (y a b c d n : Int) : Prop := a ≤ n ∧ n ≤ b ∧ c ≤ Int.tmod n y ∧ Int.tmod n y ≤ d
def Fix (y a b c d : Int) : Prop := inS y a b c d a ∧ inS y a b c d b ∧ (∃ n, inS y a b c d n ∧ Int.tmod n y = c) ∧ (∃ n, inS y a b c d n ∧ Int.tmod n y = d)
theorem sameS_lift0 {y a b c d v : Int} (h1 : a ≤ v) (h : ∀ u, a ≤ u → a ≤ u → u < v → decide (c ≤ Int.tmod u y ∧ Int.tmod u y ≤ d) = false) (n : Int) : inS y a b c d n ↔ inS y v b c d n := by
  unfold inS
  constructor
  · rintro ⟨p1, p2, p3, p4⟩
    refine ⟨?_, p2, p3, p4⟩
    rcases Int.lt_or_le n v with q | q
    · exact absurd (And.intro p3 p4) (of_decide_eq_false (h n p1 p1 q))
    · exact q
  · rintro ⟨p1, p2, p3, p4⟩; exact ⟨by omega, p2, p3, p4⟩
theorem sameS_lower0 {y a b c d v : Int} (h1 : v ≤ b) (h : ∀ u, v < u → u ≤ b → u ≤ b → decide (c ≤ Int.tmod u y ∧ Int.tmod u y ≤ d) = false) (n : Int) : inS y a b c d n ↔ inS y a v c d n := by
  unfold inS
  constructor
  · rintro ⟨p1, p2, p3, p4⟩
    refine ⟨p1, ?_, p3, p4⟩
    rcases Int.lt_or_le v n with q | q
    · exact absurd (And.intro p3 p4) (of_decide_eq_false (h n q p2 p2))
    · exact q
  · rintro ⟨p1, p2, p3, p4⟩; exact ⟨p1, by omega, p3, p4⟩
theorem noneS_lift0 {y a b c d : Int} (h : ∀ u, a ≤ u → a ≤ u → u ≤ b → u ≤ b → decide (c ≤ Int.tmod u y ∧ Int.tmod u y ≤ d) = false) (n : Int) : ¬ inS y a b c d n := by
  rintro ⟨p1, p2, p3, p4⟩
  exact absurd (And.intro p3 p4) (of_decide_eq_false (h n p1 p1 p2 p2))
theorem noneS_lift1 {y a b c d : Int} (hy : y ≠ 0) (h : canBe1 a b c d y = false) (n : Int) : ¬ inS y a b c d n := by
  rintro ⟨p1, p2, p3, p4⟩
  rw [canBe1_of hy p1 p2 p3 p4] at h
  cases h
theorem sameS_lift2 {y a b c d v : Int} (hy : y ≠ 0) (h1 : c ≤ v) (h : ∀ u, c ≤ u → outLo a b y ≤ u → u < v → canBe2 a b y u = false) (n : Int) : inS y a b c d n ↔ inS y a b v d n := by
  unfold inS
  constructor
  · rintro ⟨p1, p2, p3, p4⟩
    refine ⟨p1, p2, ?_, p4⟩
    rcases Int.lt_or_le (Int.tmod n y) v with q | q
    · have := h _ p3 (out_rests hy p1 p2).1 q
      rw [(canBe2_iff hy).mpr ⟨n, p1, p2, rfl⟩] at this
      cases this
    · exact q
  · rintro ⟨p1, p2, p3, p4⟩; exact ⟨p1, p2, by omega, p4⟩
theorem sameS_lower2 {y a b c d v : Int} (hy : y ≠ 0) (h1 : v ≤ d) (h : ∀ u, v < u → u ≤ d → u ≤ outHi a b y → canBe2 a b y u = false) (n : Int) : inS y a b c d n ↔ inS y a b c v n := by
  unfold inS
  constructor
  · rintro ⟨p1, p2, p3, p4⟩
    refine ⟨p1, p2, p3, ?_⟩
    rcases Int.lt_or_le v (Int.tmod n y) with q | q
    · have := h _ q p4 (out_rests hy p1 p2).2
      rw [(canBe2_iff hy).mpr ⟨n, p1, p2, rfl⟩] at this
      cases this
    · exact q
  · rintro ⟨p1, p2, p3, p4⟩; exact ⟨p1, p2, p3, by omega⟩
theorem noneS_lift2 {y a b c d : Int} (hy : y ≠ 0) (h : ∀ u, c ≤ u → outLo a b y ≤ u → u ≤ d → u ≤ outHi a b y → canBe2 a b y u = false) (n : Int) : ¬ inS y a b c d n := by
  rintro ⟨p1, p2, p3, p4⟩
  have := h _ p3 (out_rests hy p1 p2).1 p4 (out_rests hy p1 p2).2
  rw [(canBe2_iff hy).mpr ⟨n, p1, p2, rfl⟩] at this
  cases this
theorem fix_of {y a b c d : Int} (hy : y ≠ 0) (hab : a ≤ b) (hcd : c ≤ d) (h1 : decide (c ≤ Int.tmod a y ∧ Int.tmod a y ≤ d) = true) (h2 : decide (c ≤ Int.tmod b y ∧ Int.tmod b y ≤ d) = true) (h3 : canBe2 a b y c = true) (h4 : canBe2 a b y d = true) : Fix y a b c d := by
  have h1 := of_decide_eq_true h1
  have h2 := of_decide_eq_true h2
  obtain ⟨n, n1, n2, n3⟩ := (canBe2_iff hy).mp h3
  obtain ⟨k, k1, k2, k3⟩ := (canBe2_iff hy).mp h4
  exact ⟨⟨Int.le_refl _, hab, h1⟩, ⟨hab, Int.le_refl _, h2⟩, ⟨n, ⟨n1, n2, by omega, by omega⟩, n3⟩, ⟨k, ⟨k1, k2, by omega, by omega⟩, k3⟩⟩
-- two lists of three domains, each of one range, compared
section
variable {prog : Program} {w : World} {A : Around} {E : Value → Shared → Prop} {s : Shared} {h₀ : Heap} {L : Addr} {news : List (Addr × Obj)} {Q : Value → Shared → Prop}
theorem reads_dom {e f : Addr} {x y : Int} {t u : Tok} (N : News h₀ L s.heap news) (m1 : (e, tup [.ref f]) ∈ news) (m2 : (f, tup [.int x t, .int y u]) ∈ news) :
    Reads s.heap (.ref e) (.tuple [.tuple [.int x, .int y]]) ([] ++ []) :=
  reads_tuple_at (N.get m1) rfl rfl (.cons (reads_tuple_at (N.get m2) rfl rfl (.cons (.int _ _) (.cons (.int _ _) .nil))) .nil)
theorem reads_doms {l e0 e1 e2 f0 f1 f2 : Addr} {x0 y0 x1 y1 x2 y2 : Int} {t0 u0 t1 u1 t2 u2 : Tok} {n : Nat} (N : News h₀ L s.heap news) (m : (l, W.listOf #[.ref e0, .ref e1, .ref e2] n) ∈ news)
    (a0 : (e0, tup [.ref f0]) ∈ news) (b0 : (f0, tup [.int x0 t0, .int y0 u0]) ∈ news) (a1 : (e1, tup [.ref f1]) ∈ news) (b1 : (f1, tup [.int x1 t1, .int y1 u1]) ∈ news) (a2 : (e2, tup [.ref f2]) ∈ news) (b2 : (f2, tup [.int x2 t2, .int y2 u2]) ∈ news) :
    ∃ as, Reads s.heap (.ref l) (.list [.tuple [.tuple [.int x0, .int y0]], .tuple [.tuple [.int x1, .int y1]], .tuple [.tuple [.int x2, .int y2]]]) as :=
  ⟨_, reads_list_at (N.get m) rfl rfl (.cons (reads_dom N a0 b0) (.cons (reads_dom N a1 b1) (.cons (reads_dom N a2 b2) .nil)))⟩
theorem eqv_doms {a b y c d a' b' c' d' : Int} : PyData.eqv (.list [.tuple [.tuple [.int a, .int b]], .tuple [.tuple [.int y, .int y]], .tuple [.tuple [.int c, .int d]]]) (.list [.tuple [.tuple [.int a', .int b']], .tuple [.tuple [.int y, .int y]], .tuple [.tuple [.int c', .int d']]]) = decide (a = a' ∧ b = b' ∧ c = c' ∧ d = d') := by
  simp only [PyData.eqv, PyData.eqvAll, Bool.and_true]
  by_cases h1 : a = a' <;> by_cases h2 : b = b' <;> by_cases h3 : c = c' <;> by_cases h4 : d = d' <;> simp [h1, h2, h3, h4]
theorem ne_doms {l l' e0 e1 e2 f0 f1 f2 e0' e1' e2' f0' f1' f2' : Addr} {a b y c d a' b' c' d' : Int} {t0 u0 t1 u1 t2 u2 t0' u0' t1' u1' t2' u2' : Tok} {n n' : Nat} (N : News h₀ L s.heap news) (m : (l, W.listOf #[.ref e0, .ref e1, .ref e2] n) ∈ news)
    (g0 : (e0, tup [.ref f0]) ∈ news) (k0 : (f0, tup [.int a t0, .int b u0]) ∈ news) (g1 : (e1, tup [.ref f1]) ∈ news) (k1 : (f1, tup [.int y t1, .int y u1]) ∈ news) (g2 : (e2, tup [.ref f2]) ∈ news) (k2 : (f2, tup [.int c t2, .int d u2]) ∈ news)
    (m' : (l', W.listOf #[.ref e0', .ref e1', .ref e2'] n') ∈ news)
    (g0' : (e0', tup [.ref f0']) ∈ news) (k0' : (f0', tup [.int a' t0', .int b' u0']) ∈ news) (g1' : (e1', tup [.ref f1']) ∈ news) (k1' : (f1', tup [.int y t1', .int y u1']) ∈ news) (g2' : (e2', tup [.ref f2']) ∈ news) (k2' : (f2', tup [.int c' t2', .int d' u2']) ∈ news)
    (hu : A.units + 64 < cLine) (h : Q (.bool (!decide (a = a' ∧ b = b' ∧ c = c' ∧ d = d'))) s) : wpAny (model prog w) A (compareOp .NotEq (.ref l) (.ref l')) Q E s := by
  obtain ⟨_, r⟩ := reads_doms N m g0 k0 g1 k1 g2 k2
  obtain ⟨_, r'⟩ := reads_doms N m' g0' k0' g1' k1' g2' k2'
  exact ne_dataH r r' rfl rfl hu (by rw [eqv_doms]; exact h)
end
def BeforeEnd (h₀ : Heap) (L : Addr) (mb : PySem.Str → Option Value) (x : PySem.Str) (s : Shared) (led : List (Addr × Obj)) (d0 d1 d2 : Addr) (as : List Addr) (f : Flow) (s' : Shared) : Prop :=
  f = .next ∧ ∃ l n h' tk', s' = { s with heap := h', toks := tk' } ∧ Fr h₀ L h' (fun y => if y = x then some (.ref l) else mb y) ∧ News h₀ L h' ((l, W.listOf #[.ref d0, .ref d1, .ref d2] n) :: led) ∧ l ∉ as
theorem BeforeEnd.intro {h₀ h' : Heap} {L l : Addr} {mb m' : PySem.Str → Option Value} {x : PySem.Str} {s : Shared} {led led' : List (Addr × Obj)} {d0 d1 d2 : Addr} {as : List Addr} {n tk' : Nat} (F : Fr h₀ L h' m') (N : News h₀ L h' led')
    (hs : ∀ p ∈ (l, W.listOf #[.ref d0, .ref d1, .ref d2] n) :: led, p ∈ led') (e : ∀ y, m' y = if y = x then some (.ref l) else mb y) (hl : l ∉ as) : BeforeEnd h₀ L mb x s led d0 d1 d2 as .next { s with heap := h', toks := tk' } :=
  ⟨rfl, l, n, h', tk', rfl, by rw [← funext e]; exact F, fun p hp => N p (hs p hp), hl⟩
/-- the state between the turns of propagate -/
inductive BefJ (y a b c d : Int) (bv : Value) (bf : List (Addr × Obj)) (e : Bool) : Prop
  | none : bv = .none → bf = [] → e = false → BefJ y a b c d bv bf e
  | some (l e0 e1 e2 f0 f1 f2 : Addr) (pa pb pc pd : Int) (s1 s2 s3 s4 s5 s6 : Tok) (k : Nat) : bv = .ref l → bf = [(l, W.listOf #[.ref e0, .ref e1, .ref e2] k), (e0, tup [.ref f0]), (f0, tup [.int pa s1, .int pb s2]), (e1, tup [.ref f1]), (f1, tup [.int y s3, .int y s4]), (e2, tup [.ref f2]), (f2, tup [.int pc s5, .int pd s6])] → e = decide (pa = a ∧ pb = b ∧ pc = c ∧ pd = d) → BefJ y a b c d bv bf e
inductive PropJ (w : World) (self rd sc st sd dl fl tl ml nd cl ca : Addr) (co : Obj) (x0 x1 : Addr × Obj) (u1 u2 u3 u4 u5 u6 u7 u8 u9 w1 w2 w3 w4 w5 w6 w7 v1 v2 v3 : Tok) (kdl : Nat) (y a₀ b₀ c₀ d₀ B : Int) (mb : PySem.Str → Option Value) (n : Nat) (m₁ : PySem.Str → Option Value) (nw : List (Addr × Obj)) : Prop
  | intro (d0 d1 d2 p0 p1 p2 : Addr) (a b c d : Int) (t1 t2 t3 t4 t5 t6 : Tok) (ktl : Nat) (tits : Array Value) (on : Obj) (kvs : List (Int × Value)) (sv : Option Value) (bv : Value) (e : Bool) (bf : List (Addr × Obj)) :
    (m₁ = (fun z => if z = Str.ofString "spot" then sv else if z = Str.ofString "before" then some bv else mb z)) →
    (nw = (ca, co) :: (self, W.instObj 437 rd) :: (rd, remD w sc w1 w2 w3 w4 w5 w6 w7) :: (sc, tup [.int 0 v1, .int 1 v2, .int 2 v3]) :: x0 :: x1 :: (st, W.instObj 244 sd) :: (sd, storeD w dl fl tl ml nd false cl u1 u2 u3 u4 u5 u6 u7 u8 u9) :: (dl, W.listOf #[.ref d0, .ref d1, .ref d2] kdl) :: (tl, W.listOf tits ktl) :: (nd, on) :: (d0, tup [.ref p0]) :: (p0, tup [.int a t1, .int b t2]) :: (d1, tup [.ref p1]) :: (p1, tup [.int y t3, .int y t4]) :: (d2, tup [.ref p2]) :: (p2, tup [.int c t5, .int d t6]) :: bf) →
    (on.IsDictOf (intKind PySem.Challenge.rw_pc0044_01.row.prog w) kvs) →
    (on.cls = .type "dict") →
    (((tits.size : Int) + (b - a) + (d - c) ≤ B ∧ (kvs.length : Int) + (b - a) + (d - c) ≤ B)) →
    ((-1000 < a ∧ a ≤ b ∧ b < 1000)) →
    ((-1000 < c ∧ c ≤ d ∧ d < 1000)) →
    ((∀ k, inS y a₀ b₀ c₀ d₀ k ↔ inS y a b c d k)) →
    ((∀ p ∈ (ca, co) :: (self, W.instObj 437 rd) :: (rd, remD w sc w1 w2 w3 w4 w5 w6 w7) :: (sc, tup [.int 0 v1, .int 1 v2, .int 2 v3]) :: x0 :: x1 :: (d0, tup [.ref p0]) :: (p0, tup [.int a t1, .int b t2]) :: (d1, tup [.ref p1]) :: (p1, tup [.int y t3, .int y t4]) :: (d2, tup [.ref p2]) :: (p2, tup [.int c t5, .int d t6]) :: bf, p.1 ∉ [sd, dl, tl, nd])) →
    ((e = true → Fix y a b c d)) →
    (n = ((b - a) + (d - c)).toNat + (if e = true then 0 else 1)) →
    (BefJ y a b c d bv bf e) →
    PropJ w self rd sc st sd dl fl tl ml nd cl ca co x0 x1 u1 u2 u3 u4 u5 u6 u7 u8 u9 w1 w2 w3 w4 w5 w6 w7 v1 v2 v3 kdl y a₀ b₀ c₀ d₀ B mb n m₁ nw
theorem name_place {h₀ h : Heap} {L : Addr} {news : List (Addr × Obj)} {P : Prop} (_ : News h₀ L h news) (k : ∀ L' : Addr, L' = L → P) : P := k L rfl
theorem name_frame {h₀ h : Heap} {L : Addr} {x : PySem.Str} {v : Option Value} {mb : PySem.Str → Option Value} {P : Prop} (_ : Fr h₀ L h (fun y => if y = x then v else mb y)) (k : ∀ mb', mb' = mb → P) : P := k mb rfl
theorem test_cut {M : Model} {A : Around} {t : Sem Bool} {h₀ : Heap} {L : Addr} {m : PySem.Str → Option Value} {s : Shared} {Q : Bool → Shared → Prop} {E : Value → Shared → Prop} (led : List (Addr × Obj)) (b : Bool) (_F : Fr h₀ L s.heap m)
    (key : wpAny M A t (TestEnd h₀ L m s led b) E s) (rest : ∀ h' tk', Fr h₀ L h' m → News h₀ L h' led → Q b { s with heap := h', toks := tk' }) : wpAny M A t Q E s := by
  refine wpAny_mono key (fun v s' h => ?_) fun _ _ e => e
  obtain ⟨rfl, h', tk', rfl, F', N'⟩ := h
  exact rest h' tk' F' N'
section
variable {prog : Program} {w : World} {A : Around} {E : Value → Shared → Prop} {s : Shared} {h₀ : Heap} {L : Addr} {news : List (Addr × Obj)} {Q : Value → Shared → Prop}
theorem ne_none_doms {l' e0' e1' e2' f0' f1' f2' : Addr} {x0 y0 x1 y1 x2 y2 : Int} {t0' u0' t1' u1' t2' u2' : Tok} {n' : Nat} (N : News h₀ L s.heap news)
    (m' : (l', W.listOf #[.ref e0', .ref e1', .ref e2'] n') ∈ news)
    (g0' : (e0', tup [.ref f0']) ∈ news) (k0' : (f0', tup [.int x0 t0', .int y0 u0']) ∈ news) (g1' : (e1', tup [.ref f1']) ∈ news) (k1' : (f1', tup [.int x1 t1', .int y1 u1']) ∈ news) (g2' : (e2', tup [.ref f2']) ∈ news) (k2' : (f2', tup [.int x2 t2', .int y2 u2']) ∈ news)
    (hu : A.units + 64 < cLine) (h : Q (.bool true) s) : wpAny (model prog w) A (compareOp .NotEq .none (.ref l')) Q E s := by
  obtain ⟨_, r'⟩ := reads_doms N m' g0' k0' g1' k1' g2' k2'
  exact ne_dataH .none r' rfl rfl hu (by simpa [PyData.eqv] using h)
end
theorem before_cut {M : Model} {A : Around} {t : Sem Flow} {h₀ : Heap} {L : Addr} {m : PySem.Str → Option Value} {s : Shared} {Q : Flow → Shared → Prop} {E : Value → Shared → Prop} (x : PySem.Str) (led : List (Addr × Obj)) (d0 d1 d2 : Addr) (as : List Addr) (_F : Fr h₀ L s.heap m)
    (key : wpAny M A t (BeforeEnd h₀ L m x s led d0 d1 d2 as) E s)
    (rest : ∀ l n h' tk', Fr h₀ L h' (fun y => if y = x then some (.ref l) else m y) → News h₀ L h' ((l, W.listOf #[.ref d0, .ref d1, .ref d2] n) :: led) → l ∉ as → Q .next { s with heap := h', toks := tk' }) : wpAny M A t Q E s := by
  refine wpAny_mono key (fun v s' h => ?_) fun _ _ e => e
  obtain ⟨rfl, l, n, h', tk', rfl, F', N', hl⟩ := h
  exact rest l n h' tk' F' N' hl
theorem off_sub {P : Addr × Obj → Prop} {l l' : List (Addr × Obj)} (h : ∀ p ∈ l', P p) (hs : ∀ p ∈ l, p ∈ l') : ∀ p ∈ l, P p := fun p hp => h p (hs p hp)
theorem name_fst {h₀ h : Heap} {L I : Addr} {o : Obj} {rest : List (Addr × Obj)} {P : Prop} (_ : News h₀ L h ((I, o) :: rest)) (k : ∀ I' : Addr, I' = I → P) : P := k I rfl
theorem name_obj {h₀ h : Heap} {L I : Addr} {o : Obj} {rest : List (Addr × Obj)} (N : News h₀ L h ((I, o) :: rest)) : ∃ o', o' = o ∧ News h₀ L h ((I, o') :: rest) := ⟨o, rfl, N⟩
theorem frame_fold {x b : PySem.Str} (hxb : ¬ x = b) {A B C sv v bv : Option Value} {mb : PySem.Str → Option Value} :
    (fun z => if z = x then A else if z = x then B else if z = x then C else if z = b then v else if z = x then sv else if z = b then bv else mb z) = (fun z => if z = x then A else if z = b then v else mb z) := by
  funext z
  by_cases h1 : z = x <;> by_cases h2 : z = b
  · rw [h1] at h2; exact absurd h2 hxb
  · simp only [if_pos h1]
  · simp only [if_neg h1, if_pos h2]
  · simp only [if_neg h1, if_neg h2]
/-- a place of the three: its number, its ends, its domain -/
def Spot (j a0 b0 y c d lo hi : Int) (d0 d1 d2 dj : Addr) : Prop := (j = 0 ∧ lo = a0 ∧ hi = b0 ∧ dj = d0) ∨ (j = 1 ∧ lo = y ∧ hi = y ∧ dj = d1) ∨ (j = 2 ∧ lo = c ∧ hi = d ∧ dj = d2)
def cbAt (j a0 b0 y c d v : Int) : Bool := if j = 0 then decide (c ≤ Int.tmod v y ∧ Int.tmod v y ≤ d) else if j = 1 then canBe1 a0 b0 c d v else canBe2 a0 b0 y v
def oLo (j a0 b0 y lo : Int) : Int := if j = 2 then outLo a0 b0 y else lo
def oHi (j a0 b0 y hi : Int) : Int := if j = 2 then outHi a0 b0 y else hi
section
variable {j a0 b0 y c d lo hi : Int} {d0 d1 d2 dj : Addr} (h : Spot j a0 b0 y c d lo hi d0 d1 d2 dj)
include h
theorem Spot.bounds : 0 ≤ j ∧ j ≤ 2 := by rcases h with h | h | h <;> omega
theorem Spot.get : ([.ref d0, .ref d1, .ref d2] : List Value)[j.toNat]? = some (.ref dj) := by
  rcases h with ⟨rfl, _, _, rfl⟩ | ⟨rfl, _, _, rfl⟩ | ⟨rfl, _, _, rfl⟩ <;> rfl
theorem Spot.same : (([.ref d0, .ref d1, .ref d2] : List Value).set j.toNat (.ref dj)) = [.ref d0, .ref d1, .ref d2] := by
  rcases h with ⟨rfl, _, _, rfl⟩ | ⟨rfl, _, _, rfl⟩ | ⟨rfl, _, _, rfl⟩ <;> rfl
theorem Spot.small : j < 2 ^ 63 := by have := Spot.bounds h; omega
theorem Spot.short : j.toNat < ([.ref d0, .ref d1, .ref d2] : List Value).length := by
  have := Spot.bounds h
  show j.toNat < 3
  omega
theorem Spot.ends (hab : -1000 < a0 ∧ a0 ≤ b0 ∧ b0 < 1000) (hyb : -1000 < y ∧ y < 1000) (hcd : -1000 < c ∧ c ≤ d ∧ d < 1000) : -1000 < lo ∧ lo ≤ hi ∧ hi < 1000 := by rcases h with h | h | h <;> omega
theorem Spot.one {v : Int} (hy : y ≠ 0) (h1 : lo ≤ v) (h2 : v ≤ hi) (e : j = 1) : v ≠ 0 := by rcases h with h | h | h <;> omega
theorem Spot.range {h₀ h' : Heap} {L rg r0 r1 r2 : Addr} {t1 t2 t3 t4 t5 t6 : Tok} {n : Nat} {led : List (Addr × Obj)}
    (N : News h₀ L h' ((rg, W.listOf #[.ref r0, .ref r1, .ref r2] n) :: (r0, tup [.int a0 t1, .int b0 t2]) :: (r1, tup [.int y t3, .int y t4]) :: (r2, tup [.int c t5, .int d t6]) :: led)) :
    ∃ rj t t', ([.ref r0, .ref r1, .ref r2] : List Value)[j.toNat]? = some (.ref rj) ∧ News h₀ L h' ((rg, W.listOf #[.ref r0, .ref r1, .ref r2] n) :: (r0, tup [.int a0 t1, .int b0 t2]) :: (r1, tup [.int y t3, .int y t4]) :: (r2, tup [.int c t5, .int d t6]) :: (rj, tup [.int lo t, .int hi t']) :: led) := by
  have put : ∀ x, x ∈ (rg, W.listOf #[.ref r0, .ref r1, .ref r2] n) :: (r0, tup [.int a0 t1, .int b0 t2]) :: (r1, tup [.int y t3, .int y t4]) :: (r2, tup [.int c t5, .int d t6]) :: led →
      News h₀ L h' ((rg, W.listOf #[.ref r0, .ref r1, .ref r2] n) :: (r0, tup [.int a0 t1, .int b0 t2]) :: (r1, tup [.int y t3, .int y t4]) :: (r2, tup [.int c t5, .int d t6]) :: x :: led) := fun x hx => by
    refine fun p hp => N p ?_
    rcases List.mem_cons.mp hp with rfl | hp
    · exact .head _
    rcases List.mem_cons.mp hp with rfl | hp
    · exact .tail _ (.head _)
    rcases List.mem_cons.mp hp with rfl | hp
    · exact mem2
    rcases List.mem_cons.mp hp with rfl | hp
    · exact mem3
    rcases List.mem_cons.mp hp with rfl | hp
    · exact hx
    · exact .tail _ (.tail _ (.tail _ (.tail _ hp)))
  rcases h with ⟨rfl, rfl, rfl, rfl⟩ | ⟨rfl, rfl, rfl, rfl⟩ | ⟨rfl, rfl, rfl, rfl⟩
  · exact ⟨r0, t1, t2, rfl, put _ mem1⟩
  · exact ⟨r1, t3, t4, rfl, put _ mem2⟩
  · exact ⟨r2, t5, t6, rfl, put _ mem3⟩
end
theorem spot_idx {j : Int} {v1 v2 v3 : Value} (h : 0 ≤ j ∧ j ≤ 2) : seqIndex? j ([v1, v2, v3] : List Value).length = some j.toNat := by
  have e : j = 0 ∨ j = 1 ∨ j = 2 := by omega
  rcases e with rfl | rfl | rfl <;> rfl
theorem spot_int {j : Int} {v1 v2 v3 : Tok} (h : 0 ≤ j ∧ j ≤ 2) : ∃ v, ([.int 0 v1, .int 1 v2, .int 2 v3] : List Value)[j.toNat]? = some (.int j v) := by
  have e : j = 0 ∨ j = 1 ∨ j = 2 := by omega
  rcases e with rfl | rfl | rfl
  · exact ⟨v1, rfl⟩
  · exact ⟨v2, rfl⟩
  · exact ⟨v3, rfl⟩
theorem kept_spot {w : World} {h₀ h : Heap} {L : Addr} {self rd sc st sd dl fl tl ml nd cl d0 d1 d2 p0 p1 p2 dj pj : Addr} {a0 b0 y c d lo hi : Int} {t1 t2 t3 t4 t5 t6 t8 t9 u1 u2 u3 u4 u5 u6 u7 u8 u9 w1 w2 w3 w4 w5 w6 w7 v1 v2 v3 : Tok} {kdl ktl : Nat} {tits : Array Value} {on : Obj}
  (N : News h₀ L h [(dj, tup [.ref pj]), (pj, tup [.int lo t8, .int hi t9]), (self, W.instObj 437 rd), (rd, remD w sc w1 w2 w3 w4 w5 w6 w7), (sc, tup [.int 0 v1, .int 1 v2, .int 2 v3]), (st, W.instObj 244 sd), (sd, storeD w dl fl tl ml nd false cl u1 u2 u3 u4 u5 u6 u7 u8 u9), (dl, W.listOf #[.ref d0, .ref d1, .ref d2] kdl), (tl, W.listOf tits ktl), (nd, on), (d0, tup [.ref p0]), (p0, tup [.int a0 t1, .int b0 t2]), (d1, tup [.ref p1]), (p1, tup [.int y t3, .int y t4]), (d2, tup [.ref p2]), (p2, tup [.int c t5, .int d t6])])
  (ho : @LT.lt Nat _ sd st ∧ @LT.lt Nat _ st dl ∧ @LT.lt Nat _ dl tl ∧ @LT.lt Nat _ tl nd ∧ @LT.lt Nat _ nd rd) (hoc : on.cls = .type "dict") :
  ∀ p ∈ [(dj, tup [.ref pj]), (pj, tup [.int lo t8, .int hi t9]), (self, W.instObj 437 rd), (rd, remD w sc w1 w2 w3 w4 w5 w6 w7), (sc, tup [.int 0 v1, .int 1 v2, .int 2 v3]), (d0, tup [.ref p0]), (p0, tup [.int a0 t1, .int b0 t2]), (d1, tup [.ref p1]), (p1, tup [.int y t3, .int y t4]), (d2, tup [.ref p2]), (p2, tup [.int c t5, .int d t6])], p.1 ∉ [sd, dl, tl, nd] := by
  repeat' (first | exact List.forall_mem_nil _ | (refine allC ?_ ?_))
  all_goals (refine notin4 ?_ ?_ ?_ ?_)
  all_goals (refine neN ?_; (try dsimp only); first
  | omega
  | exact ne_kind N (by k_mem) (by k_mem) (by first | assumption | rfl) (by first | assumption | rfl) (by first | exact type_ne (by decide) | exact type_ne_ref | exact ref_ne_type))
theorem test_cutN {M : Model} {A : Around} {t : Sem Bool} {h₀ : Heap} {L : Addr} {m : PySem.Str → Option Value} {s : Shared} {led : List (Addr × Obj)} {Q : Bool → Shared → Prop} {E : Value → Shared → Prop} (b : Bool) (F : Fr h₀ L s.heap m) (_N : News h₀ L s.heap led)
    (key : wpAny M A t (TestEnd h₀ L m s led b) E s) (rest : ∀ h' tk', Fr h₀ L h' m → News h₀ L h' led → Q b { s with heap := h', toks := tk' }) : wpAny M A t Q E s := test_cut led b F key rest
/-- the end of an expression that is some int -/
def IntEnd (h₀ : Heap) (L : Addr) (m : PySem.Str → Option Value) (s : Shared) (led : List (Addr × Obj)) (P : Int → Prop) (v : Value) (s' : Shared) : Prop :=
  ∃ x t h' tk', v = .int x t ∧ P x ∧ s' = { s with heap := h', toks := tk' } ∧ Fr h₀ L h' m ∧ News h₀ L h' led
theorem IntEnd.intro {h₀ h' : Heap} {L : Addr} {m : PySem.Str → Option Value} {s : Shared} {led led' : List (Addr × Obj)} {P : Int → Prop} {x : Int} {t : Tok} {tk' : Nat} (F : Fr h₀ L h' m) (N : News h₀ L h' led') (hs : ∀ p ∈ led, p ∈ led') (e : P x) :
    IntEnd h₀ L m s led P (.int x t) { s with heap := h', toks := tk' } := ⟨x, t, h', tk', rfl, e, rfl, F, fun p hp => N p (hs p hp)⟩
theorem int_cut {M : Model} {A : Around} {t : Sem Value} {h₀ : Heap} {L : Addr} {m : PySem.Str → Option Value} {s : Shared} {led : List (Addr × Obj)} {Q : Value → Shared → Prop} {E : Value → Shared → Prop} (P : Int → Prop) (_F : Fr h₀ L s.heap m) (_N : News h₀ L s.heap led)
    (key : wpAny M A t (IntEnd h₀ L m s led P) E s) (rest : ∀ x t h' tk', P x → Fr h₀ L h' m → News h₀ L h' led → Q (.int x t) { s with heap := h', toks := tk' }) : wpAny M A t Q E s := by
  refine wpAny_mono key (fun v s' h => ?_) fun _ _ e => e
  obtain ⟨x, t, h', tk', rfl, hp, rfl, F', N'⟩ := h
  exact rest x t h' tk' hp F' N'
theorem mp9 {P R : Prop} (h : P → R) (p : P) : R := h p
section
variable {lo hi oL oH v k u : Int}
theorem lift_in (h1 : max lo oL ≤ v) (h2 : v ≤ min hi oH) : lo ≤ v ∧ v ≤ hi ∧ oL ≤ v ∧ v ≤ oH :=
  ⟨Int.le_trans (Int.le_max_left _ _) h1, Int.le_trans h2 (Int.min_le_left _ _), Int.le_trans (Int.le_max_right _ _) h1, Int.le_trans h2 (Int.min_le_right _ _)⟩
theorem lift_wide (h1 : max lo oL ≤ v) (h : -1000 < lo ∧ lo ≤ hi ∧ hi < 1000) (h2 : v ≤ min hi oH) : -1000 < v ∧ v < 1000 :=
  ⟨Int.lt_of_lt_of_le h.1 (lift_in h1 h2).1, Int.lt_of_le_of_lt (lift_in h1 h2).2.1 h.2.2⟩
theorem lift_klt (h1 : max lo oL ≤ v) (hk : (v ≤ min hi oH ∧ k = v) ∨ (¬ v ≤ min hi oH ∧ k = hi + 1)) (hb : ¬ (v = lo ∧ lo ≤ oH)) (hl : -1000 < lo ∧ lo ≤ hi ∧ hi < 1000) : lo < k := by
  rcases hk with ⟨a, e⟩ | ⟨_, e⟩
  · rw [e]
    exact Int.lt_iff_le_and_ne.mpr ⟨(lift_in h1 a).1, fun z => hb ⟨z.symm, z ▸ (lift_in h1 a).2.2.2⟩⟩
  · rw [e]
    exact Int.lt_add_one_of_le hl.2.1
theorem lift_ok (hk : (v ≤ min hi oH ∧ k = v) ∨ (¬ v ≤ min hi oH ∧ k = hi + 1)) (h : k ≤ hi) : v ≤ min hi oH ∧ k = v := by
  rcases hk with a | ⟨_, e⟩
  · exact a
  · rw [e] at h
    exact absurd h (Int.not_le.mpr (Int.lt_succ hi))
theorem lift_no (hk : (v ≤ min hi oH ∧ k = v) ∨ (¬ v ≤ min hi oH ∧ k = hi + 1)) (h : hi < k) : ¬ v ≤ min hi oH := by
  rcases hk with ⟨a, e⟩ | ⟨a, _⟩
  · rw [e] at h
    exact absurd (Int.le_trans a (Int.min_le_left _ _)) (Int.not_le.mpr h)
  · exact a
theorem lift_max (h : k = v) (h1 : max lo oL ≤ v) : max lo k = v := by rw [h]; exact Int.max_eq_right (Int.le_trans (Int.le_max_left _ _) h1)
theorem lift_lt (h : ¬ v ≤ min hi oH) (h1 : u ≤ hi) (h2 : u ≤ oH) : u < v := Int.not_le.mp fun z => h (Int.le_min.mpr ⟨Int.le_trans z h1, Int.le_trans z h2⟩)
theorem sz_up {a b : Nat} (h : a ≤ b + 1) (hl : lo < v) : (a : Int) ≤ b + (v - lo) := by omega
theorem sz_same {a : Nat} : (a : Int) ≤ a + (lo - lo) := by rw [Int.sub_self, Int.add_zero]; exact Int.le_refl _
theorem low_in (h1 : v ≤ min hi oH) (h2 : min (min hi oH) lo ≤ v) (hl : -1000 < lo ∧ lo ≤ hi ∧ hi < 1000) (ho : lo ≤ oH) : lo ≤ v ∧ v ≤ hi ∧ v ≤ oH :=
  ⟨Int.min_eq_right (Int.le_min.mpr ⟨hl.2.1, ho⟩) ▸ h2, Int.le_trans h1 (Int.min_le_left _ _), Int.le_trans h1 (Int.min_le_right _ _)⟩
theorem low_wide (h1 : v ≤ min hi oH) (h2 : min (min hi oH) lo ≤ v) (hl : -1000 < lo ∧ lo ≤ hi ∧ hi < 1000) (ho : lo ≤ oH) : -1000 < v ∧ v < 1000 :=
  ⟨Int.lt_of_lt_of_le hl.1 (low_in h1 h2 hl ho).1, Int.lt_of_le_of_lt (low_in h1 h2 hl ho).2.1 hl.2.2⟩
theorem low_klt (h1 : v ≤ min hi oH) (hb : ¬ v = hi) : v < hi := Int.lt_iff_le_and_ne.mpr ⟨Int.le_trans h1 (Int.min_le_left _ _), hb⟩
theorem low_min (h1 : v ≤ min hi oH) : min hi v = v := Int.min_eq_right (Int.le_trans h1 (Int.min_le_left _ _))
theorem low_eq (h2 : lo ≤ v) (h : ¬ lo < v) : v = lo := Int.le_antisymm (Int.not_lt.mp h) h2
end
section
variable {prog : Program} {w : World} {A : Around} {E : Value → Shared → Prop} {s : Shared} {env : Env} {h₀ : Heap} {x : PySem.Str} {body : List Stmt} {Q : Flow → Shared → Prop} {I : Addr} {a : Int} {n : Nat}
/-- a for loop over a written range, by what stands between its turns -/
theorem rangeRest_inv (J : Nat → (PySem.Str → Option Value) → List (Addr × Obj) → Prop)
    (step : ∀ i m₁ nw, i < n → J i m₁ nw → ∀ t h tk, Fr h₀ env.locals h (fun y => if y = x then some (.int (a + (i : Int)) t) else m₁ y) → News h₀ env.locals h ((I, itR (a + ((i + 1 : Nat) : Int)) ((n : Int) - ((i + 1 : Nat) : Int))) :: nw) →
      wpAny (model prog w) A (execs body env) (UnrPost h₀ env.locals { s with heap := h, toks := tk } I (itR (a + ((i + 1 : Nat) : Int)) ((n : Int) - ((i + 1 : Nat) : Int))) (J (i + 1)) Q) E { s with heap := h, toks := tk })
    (done : ∀ m₁ nw h tk, J n m₁ nw → Fr h₀ env.locals h m₁ → News h₀ env.locals h nw → Q .next { s with heap := h, toks := tk }) :
    ∀ k i m₁ nw, i + k = n → J i m₁ nw → RangeRest prog w A E h₀ env x body Q s I a n k i m₁ nw := by
  intro k
  induction k with
  | zero =>
    intro i m₁ nw hi hJ
    rw [Nat.add_zero] at hi
    exact RangeRest.zero fun h tk F N => done m₁ nw h tk (hi ▸ hJ) F N
  | succ k ih =>
    intro i m₁ nw hi hJ
    refine RangeRest.succ fun t h tk F N => wpAny_mono (step i m₁ nw (by omega) hJ t h tk F N) (fun f s₂ hp => ?_) fun _ _ e => e
    cases f with
    | ret v => exact hp
    | brk => exact hp
    | _ =>
      obtain ⟨h', tk', m', news', e, F', N', off, r⟩ := hp
      exact ⟨h', tk', m', news', e, F', N', off, ih (i + 1) m' news' (by omega) r⟩
end
abbrev dom3 (d0 p0 d1 p1 d2 p2 : Addr) (a b y c d : Int) (t1 t2 t3 t4 t5 t6 : Tok) : List (Addr × Obj) :=
  [(d0, tup [.ref p0]), (p0, tup [.int a t1, .int b t2]), (d1, tup [.ref p1]), (p1, tup [.int y t3, .int y t4]), (d2, tup [.ref p2]), (p2, tup [.int c t5, .int d t6])]
inductive SpotDn (j a b y c d lo hi v : Int) (d0 d1 d2 p0 p1 p2 q p' : Addr) (t1 t2 t3 t4 t5 t6 t t' : Tok) : Prop
  | intro (b' d' : Int) (d0' d1' d2' p0' p1' p2' : Addr) (s1 s2 s3 s4 s5 s6 : Tok) :
    ((([.ref d0, .ref d1, .ref d2] : List Value).set j.toNat (.ref q)) = [.ref d0', .ref d1', .ref d2']) →
    (Spot j a b' y c d' lo v d0' d1' d2' q) →
    ((∀ x ∈ dom3 d0' p0' d1' p1' d2' p2' a b' y c d' s1 s2 s3 s4 s5 s6, x ∈ (q, tup [.ref p']) :: (p', tup [.int lo t, .int v t']) :: dom3 d0 p0 d1 p1 d2 p2 a b y c d t1 t2 t3 t4 t5 t6)) →
    ((a ≤ b' ∧ b' ≤ b ∧ c ≤ d' ∧ d' ≤ d)) →
    ((b' - a) + (d' - c) + (hi - v) = (b - a) + (d - c)) →
    ((∀ n, inS y a b c d n ↔ inS y a b' c d' n)) →
    ((∀ u, cbAt j a b' y c d' u = cbAt j a b y c d u)) →
    SpotDn j a b y c d lo hi v d0 d1 d2 p0 p1 p2 q p' t1 t2 t3 t4 t5 t6 t t'
inductive SpotUp (j a b y c d lo hi v : Int) (d0 d1 d2 p0 p1 p2 q p' : Addr) (t1 t2 t3 t4 t5 t6 t t' : Tok) : Prop
  | intro (a' c' : Int) (d0' d1' d2' p0' p1' p2' : Addr) (s1 s2 s3 s4 s5 s6 : Tok) :
    ((([.ref d0, .ref d1, .ref d2] : List Value).set j.toNat (.ref q)) = [.ref d0', .ref d1', .ref d2']) →
    (Spot j a' b y c' d v hi d0' d1' d2' q) →
    ((∀ x ∈ dom3 d0' p0' d1' p1' d2' p2' a' b y c' d s1 s2 s3 s4 s5 s6, x ∈ (q, tup [.ref p']) :: (p', tup [.int v t, .int hi t']) :: dom3 d0 p0 d1 p1 d2 p2 a b y c d t1 t2 t3 t4 t5 t6)) →
    ((a ≤ a' ∧ a' ≤ b ∧ c ≤ c' ∧ c' ≤ d)) →
    ((b - a') + (d - c') + (v - lo) = (b - a) + (d - c)) →
    ((∀ n, inS y a b c d n ↔ inS y a' b c' d n)) →
    ((∀ u, cbAt j a' b y c' d u = cbAt j a b y c d u)) →
    (oHi j a' b y hi = oHi j a b y hi) →
    SpotUp j a b y c d lo hi v d0 d1 d2 p0 p1 p2 q p' t1 t2 t3 t4 t5 t6 t t'
theorem spot_entry {i : Nat} {d0 p0 d1 p1 d2 p2 : Addr} {a b y c d : Int} {t1 t2 t3 t4 t5 t6 : Tok} (hi : i < 3) :
    ∃ lo hi dj pj t8 t9, Spot (0 + (i : Int)) a b y c d lo hi d0 d1 d2 dj ∧ (dj, tup [.ref pj]) ∈ dom3 d0 p0 d1 p1 d2 p2 a b y c d t1 t2 t3 t4 t5 t6 ∧ (pj, tup [.int lo t8, .int hi t9]) ∈ dom3 d0 p0 d1 p1 d2 p2 a b y c d t1 t2 t3 t4 t5 t6 := by
  match i, hi with
  | 0, _ => exact ⟨a, b, d0, p0, t1, t2, .inl ⟨rfl, rfl, rfl, rfl⟩, .head _, mem1⟩
  | 1, _ => exact ⟨y, y, d1, p1, t3, t4, .inr (.inl ⟨rfl, rfl, rfl, rfl⟩), mem2, mem3⟩
  | 2, _ => exact ⟨c, d, d2, p2, t5, t6, .inr (.inr ⟨rfl, rfl, rfl, rfl⟩), mem4, mem5⟩
section
variable {j a b y c d lo hi v : Int} {d0 d1 d2 p0 p1 p2 dj q p' : Addr} {t1 t2 t3 t4 t5 t6 t t' : Tok}
theorem spot_none (h : Spot j a b y c d lo hi d0 d1 d2 dj) (hy : y ≠ 0) (hu : ∀ u, lo ≤ u → oLo j a b y lo ≤ u → u ≤ hi → u ≤ oHi j a b y hi → cbAt j a b y c d u = false) (n : Int) : ¬ inS y a b c d n := by
  rcases h with ⟨rfl, rfl, rfl, _⟩ | ⟨rfl, rfl, rfl, _⟩ | ⟨rfl, rfl, rfl, _⟩
  · exact noneS_lift0 hu n
  · exact noneS_lift1 hy (hu _ (Int.le_refl _) (Int.le_refl _) (Int.le_refl _) (Int.le_refl _)) n
  · exact noneS_lift2 hy hu n
/-- a place's low end raised -/
theorem spot_up (h : Spot j a b y c d lo hi d0 d1 d2 dj) (hy : y ≠ 0) (h1 : lo ≤ v) (h2 : v ≤ hi) (hab : a ≤ b) (hcd : c ≤ d) (hu : ∀ u, lo ≤ u → oLo j a b y lo ≤ u → u < v → cbAt j a b y c d u = false) (q p' : Addr) (t t' : Tok) :
    SpotUp j a b y c d lo hi v d0 d1 d2 p0 p1 p2 q p' t1 t2 t3 t4 t5 t6 t t' := by
  rcases h with ⟨rfl, rfl, rfl, rfl⟩ | ⟨rfl, rfl, rfl, rfl⟩ | ⟨rfl, rfl, rfl, rfl⟩
  · refine ⟨v, c, q, d1, d2, p', p1, p2, t, t', t3, t4, t5, t6, rfl, .inl ⟨rfl, rfl, rfl, rfl⟩, ?_, ⟨h1, h2, Int.le_refl _, hcd⟩, by omega, sameS_lift0 h1 hu, fun _ => rfl, rfl⟩
    exact sub_take (sub_take (sub_skip (sub_skip sub_refl)))
  · have e := Int.le_antisymm h2 h1
    subst e
    refine ⟨a, c, d0, q, d2, p0, p', p2, t1, t2, t, t', t5, t6, rfl, .inr (.inl ⟨rfl, rfl, rfl, rfl⟩), ?_, ⟨Int.le_refl _, hab, Int.le_refl _, hcd⟩, by omega, fun _ => Iff.rfl, fun _ => rfl, rfl⟩
    refine allC mem2 (allC mem3 (sub_take (sub_take (sub_skip (sub_skip (sub_skip (sub_skip sub_refl)))))))
  · refine ⟨a, v, d0, d1, q, p0, p1, p', t1, t2, t3, t4, t, t', rfl, .inr (.inr ⟨rfl, rfl, rfl, rfl⟩), ?_, ⟨Int.le_refl _, hab, h1, h2⟩, by omega, sameS_lift2 hy h1 hu, fun _ => rfl, rfl⟩
    exact allC mem2 (allC mem3 (allC mem4 (allC mem5 (sub_take (sub_take sub_nil)))))
/-- a place's high end lowered -/
theorem spot_dn (h : Spot j a b y c d lo hi d0 d1 d2 dj) (hy : y ≠ 0) (h1 : lo ≤ v) (h2 : v ≤ hi) (hab : a ≤ b) (hcd : c ≤ d) (hu : ∀ u, v < u → u ≤ hi → u ≤ oHi j a b y hi → cbAt j a b y c d u = false) (q p' : Addr) (t t' : Tok) :
    SpotDn j a b y c d lo hi v d0 d1 d2 p0 p1 p2 q p' t1 t2 t3 t4 t5 t6 t t' := by
  rcases h with ⟨rfl, rfl, rfl, rfl⟩ | ⟨rfl, rfl, rfl, rfl⟩ | ⟨rfl, rfl, rfl, rfl⟩
  · refine ⟨v, d, q, d1, d2, p', p1, p2, t, t', t3, t4, t5, t6, rfl, .inl ⟨rfl, rfl, rfl, rfl⟩, ?_, ⟨h1, h2, hcd, Int.le_refl _⟩, by omega, sameS_lower0 h2 hu, fun _ => rfl⟩
    exact sub_take (sub_take (sub_skip (sub_skip sub_refl)))
  · have e := Int.le_antisymm h2 h1
    subst e
    refine ⟨b, d, d0, q, d2, p0, p', p2, t1, t2, t, t', t5, t6, rfl, .inr (.inl ⟨rfl, rfl, rfl, rfl⟩), ?_, ⟨hab, Int.le_refl _, hcd, Int.le_refl _⟩, by omega, fun _ => Iff.rfl, fun _ => rfl⟩
    exact allC mem2 (allC mem3 (sub_take (sub_take (sub_skip (sub_skip (sub_skip (sub_skip sub_refl)))))))
  · refine ⟨b, v, d0, d1, q, p0, p1, p', t1, t2, t3, t4, t, t', rfl, .inr (.inr ⟨rfl, rfl, rfl, rfl⟩), ?_, ⟨hab, Int.le_refl _, h1, h2⟩, by omega, sameS_lower2 hy h2 hu, fun _ => rfl⟩
    exact allC mem2 (allC mem3 (allC mem4 (allC mem5 (sub_take (sub_take sub_nil)))))
end
/-- what the turns done so far have shown of the ends, should none have moved -/
def Done (i : Nat) (y a b c d : Int) : Prop :=
  (1 ≤ i → decide (c ≤ Int.tmod a y ∧ Int.tmod a y ≤ d) = true ∧ decide (c ≤ Int.tmod b y ∧ Int.tmod b y ≤ d) = true) ∧ (3 ≤ i → canBe2 a b y c = true ∧ canBe2 a b y d = true)
theorem done_step {i : Nat} {y a b c d lo hi : Int} {d0 d1 d2 dj : Addr} (h : Spot (0 + (i : Int)) a b y c d lo hi d0 d1 d2 dj) (h1 : cbAt (0 + (i : Int)) a b y c d lo = true) (h2 : cbAt (0 + (i : Int)) a b y c d hi = true) (hD : Done i y a b c d) : Done (i + 1) y a b c d := by
  rcases h with ⟨e, rfl, rfl, _⟩ | ⟨e, rfl, rfl, _⟩ | ⟨e, rfl, rfl, _⟩
  · obtain rfl : i = 0 := by omega
    exact ⟨fun _ => ⟨h1, h2⟩, fun z => absurd z (by decide)⟩
  · obtain rfl : i = 1 := by omega
    exact ⟨fun _ => hD.1 (by decide), fun z => absurd z (by decide)⟩
  · obtain rfl : i = 2 := by omega
    exact ⟨fun _ => hD.1 (by decide), fun _ => ⟨h1, h2⟩⟩
/-- what stands between the turns of propagate's inner loop -/
inductive TurnJ (w : World) (self rd sc st sd dl fl tl ml nd cl ca : Addr) (co : Obj) (x0 x1 : Addr × Obj) (u1 u2 u3 u4 u5 u6 u7 u8 u9 w1 w2 w3 w4 w5 w6 w7 v1 v2 v3 : Tok) (kdl : Nat) (y a₀ b₀ c₀ d₀ B : Int) (mb : PySem.Str → Option Value) (l e0 e1 e2 f0 f1 f2 : Addr) (a1 b1 c1 d1 : Int) (r1 r2 r3 r4 r5 r6 : Tok) (k : Nat) (i : Nat) (m₁ : PySem.Str → Option Value) (nw : List (Addr × Obj)) : Prop
  | intro (d0 d1' d2 p0 p1 p2 : Addr) (a b c d : Int) (t1 t2 t3 t4 t5 t6 : Tok) (ktl : Nat) (tits : Array Value) (on : Obj) (kvs : List (Int × Value)) (sv : Option Value) :
    (m₁ = (fun z => if z = Str.ofString "spot" then sv else if z = Str.ofString "before" then some (.ref l) else mb z)) →
    (nw = (ca, co) :: (self, W.instObj 437 rd) :: (rd, remD w sc w1 w2 w3 w4 w5 w6 w7) :: (sc, tup [.int 0 v1, .int 1 v2, .int 2 v3]) :: x0 :: x1 :: (st, W.instObj 244 sd) :: (sd, storeD w dl fl tl ml nd false cl u1 u2 u3 u4 u5 u6 u7 u8 u9) :: (dl, W.listOf #[.ref d0, .ref d1', .ref d2] kdl) :: (tl, W.listOf tits ktl) :: (nd, on) :: (d0, tup [.ref p0]) :: (p0, tup [.int a t1, .int b t2]) :: (d1', tup [.ref p1]) :: (p1, tup [.int y t3, .int y t4]) :: (d2, tup [.ref p2]) :: (p2, tup [.int c t5, .int d t6]) :: [(l, W.listOf #[.ref e0, .ref e1, .ref e2] k), (e0, tup [.ref f0]), (f0, tup [.int a1 r1, .int b1 r2]), (e1, tup [.ref f1]), (f1, tup [.int y r3, .int y r4]), (e2, tup [.ref f2]), (f2, tup [.int c1 r5, .int d1 r6])]) →
    (on.IsDictOf (intKind PySem.Challenge.rw_pc0044_01.row.prog w) kvs) →
    (on.cls = .type "dict") →
    (((tits.size : Int) + (b - a) + (d - c) ≤ B ∧ (kvs.length : Int) + (b - a) + (d - c) ≤ B)) →
    ((-1000 < a ∧ a ≤ b ∧ b < 1000)) →
    ((-1000 < c ∧ c ≤ d ∧ d < 1000)) →
    ((∀ k, inS y a₀ b₀ c₀ d₀ k ↔ inS y a b c d k)) →
    ((∀ p ∈ (ca, co) :: (self, W.instObj 437 rd) :: (rd, remD w sc w1 w2 w3 w4 w5 w6 w7) :: (sc, tup [.int 0 v1, .int 1 v2, .int 2 v3]) :: x0 :: x1 :: (d0, tup [.ref p0]) :: (p0, tup [.int a t1, .int b t2]) :: (d1', tup [.ref p1]) :: (p1, tup [.int y t3, .int y t4]) :: (d2, tup [.ref p2]) :: (p2, tup [.int c t5, .int d t6]) :: [(l, W.listOf #[.ref e0, .ref e1, .ref e2] k), (e0, tup [.ref f0]), (f0, tup [.int a1 r1, .int b1 r2]), (e1, tup [.ref f1]), (f1, tup [.int y r3, .int y r4]), (e2, tup [.ref f2]), (f2, tup [.int c1 r5, .int d1 r6])], p.1 ∉ [sd, dl, tl, nd])) →
    ((a1 ≤ a ∧ b ≤ b1 ∧ c1 ≤ c ∧ d ≤ d1)) →
    ((a1 = a ∧ b1 = b ∧ c1 = c ∧ d1 = d → Done i y a b c d)) →
    TurnJ w self rd sc st sd dl fl tl ml nd cl ca co x0 x1 u1 u2 u3 u4 u5 u6 u7 u8 u9 w1 w2 w3 w4 w5 w6 w7 v1 v2 v3 kdl y a₀ b₀ c₀ d₀ B mb l e0 e1 e2 f0 f1 f2 a1 b1 c1 d1 r1 r2 r3 r4 r5 r6 k i m₁ nw
theorem rangeRest_sub {prog : Program} {w : World} {A : Around} {E : Value → Shared → Prop} {s : Shared} {env : Env} {h₀ : Heap} {x : PySem.Str} {body : List Stmt} {Q : Flow → Shared → Prop} {I : Addr} {a : Int} {n k i : Nat} {m : PySem.Str → Option Value} {nw nw' : List (Addr × Obj)} (hs : ∀ p ∈ nw', p ∈ nw)
    (h : RangeRest prog w A E h₀ env x body Q s I a n k i m nw') : RangeRest prog w A E h₀ env x body Q s I a n k i m nw := by
  cases k with
  | zero => exact fun g tk F N => h g tk F fun p hp => N p (hs p hp)
  | succ k =>
    refine fun t g tk F N => h t g tk F fun p hp => N p ?_
    rcases List.mem_cons.mp hp with rfl | hp
    · exact .head _
    · exact .tail _ (hs p hp)
theorem off4_lt {l : List (Addr × Obj)} {I a b c d : Addr} {o1 o2 o3 o4 : Obj} (h : ∀ p ∈ l, p.1 < I) (m1 : (a, o1) ∈ l) (m2 : (b, o2) ∈ l) (m3 : (c, o3) ∈ l) (m4 : (d, o4) ∈ l) : I ∉ [a, b, c, d] :=
  notin4 (ne_mem h m1) (ne_mem h m2) (ne_mem h m3) (ne_mem h m4)
theorem news_add {h h₀ : Heap} {L : Addr} {p : Addr × Obj} {l : List (Addr × Obj)} (N : News h₀ L h l) (hp : p ∈ l) : News h₀ L h (p :: l) := fun x hx => by
  rcases List.mem_cons.mp hx with rfl | hx
  · exact N _ hp
  · exact N x hx
theorem news_front {h h₀ : Heap} {L : Addr} {k l : List (Addr × Obj)} (N : News h₀ L h l) (hk : ∀ p ∈ k, p ∈ l) : News h₀ L h (k ++ l) := fun x hx => by
  rcases List.mem_append.mp hx with hx | hx
  · exact N x (hk x hx)
  · exact N x hx
theorem all_app {P : Addr × Obj → Prop} {k l : List (Addr × Obj)} (hk : ∀ p ∈ k, P p) (hl : ∀ p ∈ l, P p) : ∀ p ∈ k ++ l, P p := fun x hx => by
  rcases List.mem_append.mp hx with hx | hx
  · exact hk x hx
  · exact hl x hx
theorem two_off {as : List Addr} {q z : Addr} {o o' : Obj} {l : List (Addr × Obj)} (h : q ∉ as ∧ z ∉ as) (hl : ∀ p ∈ l, p.1 ∉ as) : ∀ p ∈ (q, o) :: (z, o') :: l, p.1 ∉ as :=
  allC h.1 (allC h.2 hl)
theorem frame_spot {x b : PySem.Str} {A sv v : Option Value} {mb : PySem.Str → Option Value} :
    (fun z => if z = x then A else if z = x then sv else if z = b then v else mb z) = (fun z => if z = x then A else if z = b then v else mb z) := by
  funext z
  exact ite_twice _ _ _
theorem frame_first {x b : PySem.Str} (hxb : ¬ x = b) {sv bv v : Option Value} {mb : PySem.Str → Option Value} :
    (fun z => if z = b then v else if z = x then sv else if z = b then bv else mb z) = (fun z => if z = x then sv else if z = b then v else mb z) := by
  funext z
  by_cases h1 : z = x <;> by_cases h2 : z = b
  · rw [h1] at h2; exact absurd h2 hxb
  · simp only [if_pos h1, if_neg h2]
  · simp only [if_neg h1, if_pos h2]
  · simp only [if_neg h1, if_neg h2]
section
variable {lo hi v B m a b c d a1 b1 c1 d1 a' b' c' d' : Int}
theorem mono_up (h : a1 ≤ a ∧ b ≤ b1 ∧ c1 ≤ c ∧ d ≤ d1) (g : a ≤ a' ∧ a' ≤ b ∧ c ≤ c' ∧ c' ≤ d) (k : a' ≤ b' ∧ b' ≤ b ∧ c' ≤ d' ∧ d' ≤ d) : a1 ≤ a' ∧ b' ≤ b1 ∧ c1 ≤ c' ∧ d' ≤ d1 :=
  ⟨Int.le_trans h.1 g.1, Int.le_trans k.2.1 h.2.1, Int.le_trans h.2.2.1 g.2.2.1, Int.le_trans k.2.2.2 h.2.2.2⟩
theorem wide_up (h : -1000 < a ∧ a ≤ b ∧ b < 1000) (g : a ≤ a' ∧ a' ≤ b) : -1000 < a' ∧ a' ≤ b ∧ b < 1000 := ⟨Int.lt_of_lt_of_le h.1 g.1, g.2, h.2.2⟩
theorem wide_dn (h : -1000 < a ∧ a ≤ b ∧ b < 1000) (g : a ≤ b' ∧ b' ≤ b) : -1000 < a ∧ a ≤ b' ∧ b' < 1000 := ⟨h.1, g.1, Int.lt_of_le_of_lt g.2 h.2.2⟩
theorem room_in {x y : Nat} (h : (x : Int) + (b - a) + (d - c) ≤ B ∧ (y : Int) + (b - a) + (d - c) ≤ B) (hB : B < 900) (h1 : a ≤ b) (h2 : c ≤ d) : x < 1000 ∧ y < 1000 := by omega
theorem room_step {x y x' y' : Nat} {k : Int} (h : (x : Int) + (b - a) + (d - c) ≤ B ∧ (y : Int) + (b - a) + (d - c) ≤ B) (e : (b' - a') + (d' - c') + k = (b - a) + (d - c)) (h1 : (x' : Int) ≤ x + k) (h2 : (y' : Int) ≤ y + k) :
    (x' : Int) + (b' - a') + (d' - c') ≤ B ∧ (y' : Int) + (b' - a') + (d' - c') ≤ B := by omega
theorem still {e0 : a1 ≤ a ∧ b ≤ b1 ∧ c1 ≤ c ∧ d ≤ d1} (g : a ≤ a' ∧ a' ≤ b ∧ c ≤ c' ∧ c' ≤ d) (k : a' ≤ b' ∧ b' ≤ b ∧ c' ≤ d' ∧ d' ≤ d) (e : a1 = a' ∧ b1 = b' ∧ c1 = c' ∧ d1 = d') : a1 = a ∧ b1 = b ∧ c1 = c ∧ d1 = d :=
  ⟨Int.le_antisymm e0.1 (e.1 ▸ g.1), Int.le_antisymm (e.2.1 ▸ k.2.1) e0.2.1, Int.le_antisymm e0.2.2.1 (e.2.2.1 ▸ g.2.2.1), Int.le_antisymm (e.2.2.2 ▸ k.2.2.2) e0.2.2.2⟩
end
theorem frame_in {x b : PySem.Str} {v : Option Value} {mb : PySem.Str → Option Value} : (fun y => if y = b then v else mb y) = (fun z => if z = x then (if x = b then v else mb x) else if z = b then v else mb z) := by
  funext z
  by_cases h : z = x
  · subst h; simp only [if_true]
  · simp only [if_neg h]
theorem frame_back {x b : PySem.Str} {A B C v : Option Value} {mb : PySem.Str → Option Value} : (fun z => if z = x then A else if z = b then v else if z = x then B else if z = b then C else mb z) = (fun z => if z = x then A else if z = b then v else mb z) := by
  funext z
  by_cases h : z = x
  · simp only [if_pos h]
  · by_cases k : z = b
    · simp only [if_neg h, if_pos k]
    · simp only [if_neg h, if_neg k]
theorem off_cons {as : List Addr} {q : Addr} {o : Obj} {l : List (Addr × Obj)} (h : q ∉ as) (hl : ∀ p ∈ l, p.1 ∉ as) : ∀ p ∈ (q, o) :: l, p.1 ∉ as := allC h hl
theorem intsAre_get {l : List Value} {ns : List Int} (h : IntsAre l ns) : ∀ j, j < l.length → ∃ t, l[j]? = some (.int (ns.getD j 0) t) := by
  induction h with
  | nil => intro j hj; exact absurd hj (Nat.not_lt_zero _)
  | cons i t _ ih =>
    intro j hj
    cases j with
    | zero => exact ⟨t, rfl⟩
    | succ j => exact ih j (Nat.lt_of_succ_lt_succ hj)
section
variable {prog : Program} {w : World} {A : Around} {E : Value → Shared → Prop} {s : Shared} {h₀ : Heap} {L : Addr} {news : List (Addr × Obj)}
theorem led_ints {value slice : Expr} {t : Addr} {l : List Value} {ns : List Int} {n : Nat} {k : Int} {u : Tok} {Q : Value → Shared → Prop} (N : News h₀ L s.heap news) (hm : (t, ({ cls := .type "list", data := .seq l.toArray n } : Obj)) ∈ news) (hI : IntsAre l ns)
    (hlo : 0 ≤ k) (hlt : k < l.length) (hhi : k < 2 ^ 63) (h : ∀ u', Q (.int (ns.getD k.toNat 0) u') s)
    (hs : subscripted slice false (.ref t) (.int k u) = operate [.ref t, .int k u] (getItem (.ref t) (.int k u)) := by with_unfolding_all rfl) :
    wpAny (model prog w) A (subscriptTail value slice (.ref t) (.int k u)) Q E s := by
  obtain ⟨u', e⟩ := intsAre_get hI k.toNat (by omega)
  exact led_list N hm hlo hhi e (h u') hs
end
theorem upd_news {h₀ h h' : Heap} {L d : Addr} {o o' : Obj} {news : List (Addr × Obj)} {g : Obj → List (Addr × Obj)} (U : UpdF d o news g) (N : News h₀ L h news) (K : KeepBut [d] h h') (M : News h₀ L h' [(d, o')]) : News h₀ L h' (g o') := by
  obtain ⟨pre, post, e, eg, h1, h2⟩ := U.split
  rw [eg]
  subst e
  intro p hp
  rcases List.mem_append.mp hp with hp | hp
  · exact ⟨K _ _ (by simpa using h1 p hp) (N p (List.mem_append.mpr (.inl hp))).1, (N p (List.mem_append.mpr (.inl hp))).2⟩
  · rcases List.mem_cons.mp hp with rfl | hp
    · exact M _ (.head _)
    · exact ⟨K _ _ (by simpa using h2 p hp) (N p (List.mem_append.mpr (.inr (.tail _ hp)))).1, (N p (List.mem_append.mpr (.inr (.tail _ hp)))).2⟩
theorem upd_mem {d : Addr} {o : Obj} {news : List (Addr × Obj)} {g : Obj → List (Addr × Obj)} (U : UpdF d o news g) : (d, o) ∈ news := by
  obtain ⟨pre, post, e, -, -, -⟩ := U.split
  rw [e]; exact List.mem_append.mpr (.inr (.head _))
theorem news_two {h₀ h : Heap} {L : Addr} {news : List (Addr × Obj)} {p q : Addr × Obj} (N : News h₀ L h news) (h1 : p ∈ news) (h2 : q ∈ news) : News h₀ L h [p, q] := fun x hx => by
  rcases List.mem_cons.mp hx with rfl | hx
  · exact N _ h1
  · rcases List.mem_cons.mp hx with rfl | hx
    · exact N _ h2
    · cases hx
theorem fmod_in (a : Int) {m : Int} (hm : 0 < m) : 0 ≤ a.fmod m ∧ a.fmod m < m := by
  rw [Int.fmod_eq_emod_of_nonneg _ (Int.le_of_lt hm)]
  exact ⟨Int.emod_nonneg _ (Int.ne_of_gt hm), Int.emod_lt_of_pos _ hm⟩
theorem getD_all {P : Int → Prop} {l : List Int} {n : Nat} (h : n < l.length) (hp : ∀ x ∈ l, P x) : P (l.getD n 0) := by
  rw [List.getD_eq_getElem?_getD, List.getElem?_eq_getElem h]
  exact hp _ (List.getElem_mem h)
theorem base_in {v : Int} (h : 0 ≤ v ∧ v < 5) : -1000000000000000 ≤ [(0 : Int), 0, 0, 10 ^ Int.toNat 15, -10 ^ Int.toNat 15].getD v.toNat 0 ∧ [(0 : Int), 0, 0, 10 ^ Int.toNat 15, -10 ^ Int.toNat 15].getD v.toNat 0 ≤ 1000000000000000 :=
  getD_all (P := fun x => -1000000000000000 ≤ x ∧ x ≤ 1000000000000000) (by show v.toNat < 5; omega) (by decide)
/-- the end of an element that is an int and changes nothing that stood -/
def EltEnd (h₀ : Heap) (L : Addr) (m : PySem.Str → Option Value) (s : Shared) (led : List (Addr × Obj)) (v : Int) (y : Value) (s' : Shared) : Prop :=
  ∃ t h' tk', y = .int v t ∧ s' = { s with heap := h', toks := tk' } ∧ Fr h₀ L h' m ∧ News h₀ L h' led
theorem EltEnd.intro {h₀ : Heap} {L : Addr} {m : PySem.Str → Option Value} {s : Shared} {led led' : List (Addr × Obj)} {v : Int} {t : Tok} {h' : Heap} {tk' : Nat}
    (F : Fr h₀ L h' m) (N : News h₀ L h' led') (hs : ∀ p ∈ led, p ∈ led') : EltEnd h₀ L m s led v (.int v t) { s with heap := h', toks := tk' } :=
  ⟨t, h', tk', rfl, rfl, F, fun p hp => N p (hs p hp)⟩
section
variable {prog : Program} {w : World} {A : Around} {h₀ : Heap} {L : Addr} {m : PySem.Str → Option Value} {env : Env} {ct elt : Expr} {x : PySem.Str} {scope : Scope} {cl : List (PySem.Str × Addr)} {s : Shared}
  {Fin : List Value → List (Addr × Obj) → Prop} {news : List (Addr × Obj)}
theorem rest_map_range {n : Nat} {a : Int} (f : Int → Int)
    (turn : ∀ k t ys J oJ C oC D m₂ h tk (E' : Value → Shared → Prop), a ≤ k ∧ k < a + (n : Int) → LCg.NsObj oC m₂ → m₂ x = some (.int k t) → Fr h₀ L h m →
      News h₀ L h ((J, oJ) :: (C, oC) :: (D, LCg.lst ys) :: news) → LCg.Off3 J C D news → ((@Ne Nat J C) ∧ (@Ne Nat J D) ∧ (@Ne Nat C D)) →
      wpAny (model prog w) A (eval elt (compEnvC scope cl C env)) (EltEnd h₀ L m { s with heap := h, toks := tk } ((J, oJ) :: (C, oC) :: (D, LCg.lst ys) :: news) (f k)) E' { s with heap := h, toks := tk })
    (fin : ∀ ys, IntsAre ys ((rangeKs a n).map f) → Fin ys news) :
    LCg.CompRest prog w A h₀ L m env elt x scope cl s (fun _ => True) (fun i v => ∃ t, v = .int (a + (i : Int)) t) Fin n 0 [] news := by
  refine rest_inv (fun i ys nw => nw = news ∧ IntsAre ys (((rangeKs a n).take i).map f)) ?_ ?_ ⟨rfl, .nil⟩
  · rintro i ys nw hi ⟨rfl, hI⟩ v J oJ C oC D m₂ h tk E' ⟨t, rfl⟩ hC hm F N off ne
    have hk : (rangeKs a n)[i]? = some (a + (i : Int)) := by simp [rangeKs, hi]
    have hs : (rangeKs a n).take (i + 1) = (rangeKs a n).take i ++ [a + (i : Int)] := by rw [List.take_add_one, hk]; rfl
    refine wpAny_mono (turn (a + (i : Int)) t ys J oJ C oC D m₂ h tk E' (mem_rangeKs (List.mem_of_getElem? hk)) hC hm F N off ne) (fun y s₂ hq => ?_) fun _ _ e => e
    obtain ⟨t', h', tk', rfl, rfl, F', N'⟩ := hq
    refine ⟨h', tk', nw, rfl, F', N', off, trivial, rfl, ?_⟩
    rw [hs, List.map_append]
    exact IntsAre.append hI (.cons _ t' .nil)
  · rintro ys nw ⟨rfl, hI⟩
    refine fin ys ?_
    have e : (rangeKs a n).take n = rangeKs a n := List.take_of_length_le (by rw [rangeKs_length]; exact Nat.le_refl _)
    rw [e] at hI
    exact hI
theorem rest_map_ints {vs : List Value} {ns : List Int} {S : List (Addr × Obj) → Prop} (f : Int → Int) (hi : IntsAre vs ns) (hS : S news)
    (turn : ∀ k t ys J oJ C oC D m₂ h tk (E' : Value → Shared → Prop), LCg.NsObj oC m₂ → m₂ x = some (.int k t) → Fr h₀ L h m →
      News h₀ L h ((J, oJ) :: (C, oC) :: (D, LCg.lst ys) :: news) → LCg.Off3 J C D news → ((@Ne Nat J C) ∧ (@Ne Nat J D) ∧ (@Ne Nat C D)) →
      wpAny (model prog w) A (eval elt (compEnvC scope cl C env)) (EltEnd h₀ L m { s with heap := h, toks := tk } ((J, oJ) :: (C, oC) :: (D, LCg.lst ys) :: news) (f k)) E' { s with heap := h, toks := tk })
    (fin : ∀ ys, IntsAre ys (ns.map f) → Fin ys news) :
    LCg.CompRest prog w A h₀ L m env elt x scope cl s S (fun i v => vs.toArray[i]? = some v) Fin vs.toArray.size 0 [] news := by
  have hl : vs.toArray.size = ns.length := by rw [List.size_toArray]; exact hi.length
  refine rest_inv (fun i ys nw => nw = news ∧ IntsAre ys ((ns.take i).map f)) ?_ ?_ ⟨rfl, .nil⟩
  · rintro i ys nw _ ⟨rfl, hI⟩ v J oJ C oC D m₂ h tk E' hv hC hm F N off ne
    obtain ⟨k, t, rfl, hk⟩ := IntsAre.at hi i v (by simpa using hv)
    have hs : ns.take (i + 1) = ns.take i ++ [k] := by rw [List.take_add_one, hk]; rfl
    refine wpAny_mono (turn k t ys J oJ C oC D m₂ h tk E' hC hm F N off ne) (fun y s₂ hq => ?_) fun _ _ e => e
    obtain ⟨t', h', tk', rfl, rfl, F', N'⟩ := hq
    refine ⟨h', tk', nw, rfl, F', N', off, hS, rfl, ?_⟩
    rw [hs, List.map_append]
    exact IntsAre.append hI (.cons _ t' .nil)
  · rintro ys nw ⟨rfl, hI⟩
    refine fin ys ?_
    rw [hl, List.take_of_length_le (Nat.le_refl _)] at hI
    exact hI
end
theorem mem_range_iff {a b n : Int} : n ∈ rangeKs a (b + 1 - a).toNat ↔ a ≤ n ∧ n ≤ b := by
  unfold rangeKs
  rw [List.mem_map]
  constructor
  · rintro ⟨i, hi, rfl⟩
    rw [List.mem_range] at hi
    omega
  · rintro ⟨h1, h2⟩
    exact ⟨(n - a).toNat, List.mem_range.mpr (by omega), by omega⟩
theorem rests_right {lo hi many z : Int} (hm : 0 < many) (h1 : -many < z) (h2 : z < many) : (hasRest lo hi many z != ((rangeKs lo (hi + 1 - lo).toNat).map fun k => Int.tmod k many).any fun x => x == z) = false := by
  have e : hasRest lo hi many z = ((rangeKs lo (hi + 1 - lo).toNat).map fun k => Int.tmod k many).any fun x => x == z := by
    rw [Bool.eq_iff_iff, hasRest_iff hm h1 h2, List.any_eq_true]
    constructor
    · rintro ⟨n, a, b, e⟩
      exact ⟨_, List.mem_map.mpr ⟨n, mem_range_iff.mpr ⟨a, b⟩, rfl⟩, by simp [e]⟩
    · rintro ⟨x, hx, e⟩
      obtain ⟨n, hn, rfl⟩ := List.mem_map.mp hx
      have := mem_range_iff.mp hn
      exact ⟨n, this.1, this.2, by simpa using e⟩
  rw [e]; simp
theorem upd_news2 {h₀ h h' : Heap} {L d f : Addr} {o o1 o2 o3 : Obj} {news : List (Addr × Obj)} {g1 g2 : Obj → List (Addr × Obj)} (U1 : UpdF d o news g1) (U2 : UpdF f o2 (g1 o1) g2) (N : News h₀ L h news) (K : KeepBut [d, f] h h') (M : News h₀ L h' [(d, o1), (f, o3)]) : News h₀ L h' (g2 o3) := by
  obtain ⟨pre, post, e1, e2, a1, a2⟩ := U1.split
  obtain ⟨pre', post', e3, e4, b1, b2⟩ := U2.split
  rw [e4]
  have key : ∀ p ∈ g1 o1, p.1 ≠ f → h'.get? p.1 = some p.2 ∧ p.1 ≠ L ∧ h₀.get? p.1 = none := by
    intro p hp hf
    rw [e2] at hp
    have old : p ∈ news → p.1 ≠ d → h'.get? p.1 = some p.2 ∧ p.1 ≠ L ∧ h₀.get? p.1 = none := fun hm hd =>
      ⟨K _ _ (by simp only [List.mem_cons, List.not_mem_nil, or_false, not_or]; exact ⟨hd, hf⟩) (N p hm).1, (N p hm).2⟩
    rcases List.mem_append.mp hp with hp | hp
    · exact old (by rw [e1]; exact List.mem_append.mpr (.inl hp)) (a1 p hp)
    · rcases List.mem_cons.mp hp with rfl | hp
      · exact M _ (.head _)
      · exact old (by rw [e1]; exact List.mem_append.mpr (.inr (.tail _ hp))) (a2 p hp)
  intro p hp
  rcases List.mem_append.mp hp with hp | hp
  · exact key p (by rw [e3]; exact List.mem_append.mpr (.inl hp)) (b1 p hp)
  · rcases List.mem_cons.mp hp with rfl | hp
    · exact M _ mem1
    · exact key p (by rw [e3]; exact List.mem_append.mpr (.inr (.tail _ hp))) (b2 p hp)
theorem menu_in {v : Int} (h : 0 ≤ v ∧ v < 11) : 0 < [(1 : Int), 2, 3, 4, 5, 6, 7, 8, 9, 100, 10 ^ Int.toNat 17].getD v.toNat 0 ∧ [(1 : Int), 2, 3, 4, 5, 6, 7, 8, 9, 100, 10 ^ Int.toNat 17].getD v.toNat 0 ≤ 100000000000000000 :=
  getD_all (P := fun x => 0 < x ∧ x ≤ 100000000000000000) (by show v.toNat < 11; omega) (by decide)
theorem frame_in2 {x y : PySem.Str} {mb : PySem.Str → Option Value} : mb = fun z => if z = x then mb x else if z = y then mb y else mb z := by
  funext z
  by_cases h : z = x
  · rw [if_pos h, h]
  · rw [if_neg h]
    by_cases k : z = y
    · rw [if_pos k, k]
    · rw [if_neg k]
theorem frame_back2 {x y : PySem.Str} {A B C D : Option Value} {mb : PySem.Str → Option Value} : (fun z => if z = x then A else if z = y then B else if z = x then C else if z = y then D else mb z) = fun z => if z = x then A else if z = y then B else mb z := by
  funext z
  by_cases h : z = x
  · simp only [if_pos h]
  · by_cases k : z = y
    · simp only [if_neg h, if_pos k]
    · simp only [if_neg h, if_neg k]
theorem rangeRest_map {prog : Program} {w : World} {A : Around} {E : Value → Shared → Prop} {s : Shared} {env : Env} {h₀ : Heap} {x : PySem.Str} {body : List Stmt} {Q : Flow → Shared → Prop} {I : Addr} {a : Int} {n k i : Nat} {m : PySem.Str → Option Value} {nw : List (Addr × Obj)}
    (h : ∀ m', m' = m → RangeRest prog w A E h₀ env x body Q s I a n k i m' nw) : RangeRest prog w A E h₀ env x body Q s I a n k i m nw := h m rfl
/-- what stands between two laps -/
def LawJ (w : World) (self rd sc rope cells : Addr) (w1 w2 w3 w4 w5 w6 w7 v1 v2 v3 : Tok) (ys : List Value) (kc : Nat) (mb : PySem.Str → Option Value) (i : Nat) (m₁ : PySem.Str → Option Value) (nw : List (Addr × Obj)) : Prop :=
  ∃ (p : Int) (t : Tok) (k : Nat) (a b : Option Value),
    m₁ = (fun z => if z = PySem.Str.ofString "many" then a else if z = PySem.Str.ofString "lap" then b else mb z) ∧
    nw = [(self, W.instObj 437 rd), (rd, remD w sc w1 w2 w3 w4 w5 w6 w7), (sc, tup [.int 0 v1, .int 1 v2, .int 2 v3]), (rope, W.listOf #[.ref cells, .int p t] k), (cells, W.listOf ys.toArray kc)] ∧ 0 ≤ p ∧ p ≤ 4 * (i : Int)
theorem law_names {h₀ h : Heap} {L rope cells : Addr} {t : Tok} {k : Nat} {p q r e f : Addr × Obj} {P : Prop} (_ : News h₀ L h [p, q, r, (rope, W.listOf #[.ref cells, .int 0 t] k), e, f]) (K : ∀ rope' cells' : Addr, rope' = rope → cells' = cells → P) : P := K rope cells rfl rfl
/-- refs to pairs (k, f k) that stand in the ledger -/
inductive PairList (led : List (Addr × Obj)) (f : Int → Int) : List Value → List Int → Prop
  | nil : PairList led f [] []
  | cons {q : Addr} {k : Int} {t t' : Tok} {vs : List Value} {ks : List Int} : (q, tup [.int k t, .int (f k) t']) ∈ led → PairList led f vs ks → PairList led f (.ref q :: vs) (k :: ks)
theorem PairList.mono {led led' : List (Addr × Obj)} {f : Int → Int} (hs : ∀ p ∈ led, p ∈ led') : ∀ {vs : List Value} {ks : List Int}, PairList led f vs ks → PairList led' f vs ks
  | _, _, .nil => .nil
  | _, _, .cons h r => .cons (hs _ h) (r.mono hs)
theorem PairList.append {led : List (Addr × Obj)} {f : Int → Int} {ws : List Value} {js : List Int} (b : PairList led f ws js) : ∀ {vs : List Value} {ks : List Int}, PairList led f vs ks → PairList led f (vs ++ ws) (ks ++ js)
  | _, _, .nil => b
  | _, _, .cons h r => .cons h (b.append r)
theorem PairList.length {led : List (Addr × Obj)} {f : Int → Int} : ∀ {vs : List Value} {ks : List Int}, PairList led f vs ks → vs.length = ks.length
  | _, _, .nil => rfl
  | _, _, .cons _ r => congrArg (· + 1) r.length
theorem PairList.get {led : List (Addr × Obj)} {f : Int → Int} : ∀ {vs : List Value} {ks : List Int}, PairList led f vs ks → ∀ {i : Nat} {v : Value}, vs[i]? = some v → ∃ q k t t', v = .ref q ∧ ks[i]? = some k ∧ (q, tup [.int k t, .int (f k) t']) ∈ led
  | _, _, .nil, i, v, h => by simp at h
  | _, _, .cons (q := q) (k := k) (t := t) (t' := t') hm r, i, v, h => by
    cases i with
    | zero => exact ⟨q, k, t, t', by simpa using h.symm, rfl, hm⟩
    | succ i => exact r.get (by simpa using h)
def PairEnd (h₀ : Heap) (L : Addr) (m : PySem.Str → Option Value) (s : Shared) (J C D : Addr) (led : List (Addr × Obj)) (k v : Int) (y : Value) (s' : Shared) : Prop :=
  ∃ q t t' h' tk', y = .ref q ∧ s' = { s with heap := h', toks := tk' } ∧ Fr h₀ L h' m ∧ News h₀ L h' ((q, tup [.int k t, .int v t']) :: led) ∧ (@Ne Nat q J) ∧ (@Ne Nat q C) ∧ (@Ne Nat q D)
theorem PairEnd.intro {h₀ : Heap} {L J C D q : Addr} {m : PySem.Str → Option Value} {s : Shared} {led : List (Addr × Obj)} {k v : Int} {t t' : Tok} {h' : Heap} {tk' : Nat}
    (F : Fr h₀ L h' m) (N : News h₀ L h' ((q, tup [.int k t, .int v t']) :: led)) (ne : (@Ne Nat q J) ∧ (@Ne Nat q C) ∧ (@Ne Nat q D)) : PairEnd h₀ L m s J C D led k v (.ref q) { s with heap := h', toks := tk' } :=
  ⟨q, t, t', h', tk', rfl, rfl, F, N, ne⟩
section
variable {prog : Program} {w : World} {A : Around} {h₀ : Heap} {L : Addr} {m : PySem.Str → Option Value} {env : Env} {ct elt : Expr} {x x₂ : PySem.Str} {scope : Scope} {cl : List (PySem.Str × Addr)} {s : Shared}
  {S : List (Addr × Obj) → Prop} {Fin : List Value → List (Addr × Obj) → Prop} {news : List (Addr × Obj)}
theorem rest_pairs_range {n : Nat} {a : Int} (f : Int → Int)
    (turn : ∀ k t ys l J oJ C oC D m₂ h tk (E' : Value → Shared → Prop), a ≤ k ∧ k < a + (n : Int) → LCg.NsObj oC m₂ → m₂ x = some (.int k t) → Fr h₀ L h m →
      News h₀ L h ((J, oJ) :: (C, oC) :: (D, LCg.lst ys) :: (news ++ l)) → LCg.Off3 J C D (news ++ l) → ((@Ne Nat J C) ∧ (@Ne Nat J D) ∧ (@Ne Nat C D)) →
      wpAny (model prog w) A (eval elt (compEnvC scope cl C env)) (PairEnd h₀ L m { s with heap := h, toks := tk } J C D ((J, oJ) :: (C, oC) :: (D, LCg.lst ys) :: (news ++ l)) k (f k)) E' { s with heap := h, toks := tk })
    (fin : ∀ ys l, PairList l f ys (rangeKs a n) → Fin ys (news ++ l)) :
    LCg.CompRest prog w A h₀ L m env elt x scope cl s (fun _ => True) (fun i v => ∃ t, v = .int (a + (i : Int)) t) Fin n 0 [] news := by
  refine rest_inv (fun i ys nw => ∃ l, nw = news ++ l ∧ PairList l f ys ((rangeKs a n).take i)) ?_ ?_ ⟨[], (List.append_nil _).symm, .nil⟩
  · rintro i ys nw hi ⟨l, rfl, hI⟩ v J oJ C oC D m₂ h tk E' ⟨t, rfl⟩ hC hm F N off ne
    have hk : (rangeKs a n)[i]? = some (a + (i : Int)) := by simp [rangeKs, hi]
    have hs : (rangeKs a n).take (i + 1) = (rangeKs a n).take i ++ [a + (i : Int)] := by rw [List.take_add_one, hk]; rfl
    refine wpAny_mono (turn (a + (i : Int)) t ys l J oJ C oC D m₂ h tk E' (mem_rangeKs (List.mem_of_getElem? hk)) hC hm F N off ne) (fun y s₂ hq => ?_) fun _ _ e => e
    obtain ⟨q, t1, t2, h', tk', rfl, rfl, F', N', n1, n2, n3⟩ := hq
    have off3 := off.mem
    refine ⟨h', tk', news ++ (q, tup [.int (a + (i : Int)) t1, .int (f (a + (i : Int))) t2]) :: l, rfl, F', ?_, LCg.Off3.of ?_, trivial, (q, tup [.int (a + (i : Int)) t1, .int (f (a + (i : Int))) t2]) :: l, rfl, ?_⟩
    · intro p hp
      simp only [List.mem_cons, List.mem_append] at hp
      refine N' p ?_
      simp only [List.mem_cons, List.mem_append]
      rcases hp with hp | hp | hp | hp | hp | hp
      · exact .inr (.inl hp)
      · exact .inr (.inr (.inl hp))
      · exact .inr (.inr (.inr (.inl hp)))
      · exact .inr (.inr (.inr (.inr (.inl hp))))
      · exact .inl hp
      · exact .inr (.inr (.inr (.inr (.inr hp))))
    · intro p hp
      rcases List.mem_append.mp hp with hp | hp
      · exact off3 p (List.mem_append.mpr (.inl hp))
      · rcases List.mem_cons.mp hp with rfl | hp
        · exact ⟨n1, n2, n3⟩
        · exact off3 p (List.mem_append.mpr (.inr hp))
    · rw [hs]
      exact (PairList.cons (.head _) .nil).append (hI.mono fun p hp => .tail _ hp)
  · rintro ys nw ⟨l, rfl, hI⟩
    refine fin ys l ?_
    have e : (rangeKs a n).take n = rangeKs a n := List.take_of_length_le (by rw [rangeKs_length]; exact Nat.le_refl _)
    rw [e] at hI
    exact hI
/-- pairs of a list of the ledger, kept by a test that changes nothing, each as it is -/
theorem restT_pairs {f : Int → Int} {vs : List Value} {ks : List Int} {n : Nat} (p : Int → Bool) {px : Pos} (hP : PairList news f vs ks) (hn : vs.toArray.size = n) (hS : S news)
    (hkind : scope.kind = .function) (hx : scope.names.lookup x = some .local) (hdb : (x == ("__debug__" : PySem.Str)) = false)
    (turn : ∀ k q t t' ys J oJ C oC D m₂ h tk (E' : Value → Shared → Prop), (q, tup [.int k t, .int (f k) t']) ∈ news → LCg.NsObj oC m₂ → m₂ x = some (.ref q) → Fr h₀ L h m →
      News h₀ L h ((J, oJ) :: (C, oC) :: (D, LCg.lst ys) :: news) → LCg.Off3 J C D news → ((@Ne Nat J C) ∧ (@Ne Nat J D) ∧ (@Ne Nat C D)) →
      wpAny (model prog w) A (isTrue ct (compEnvC scope cl C env) (eval ct (compEnvC scope cl C env))) (TestEnd h₀ L m { s with heap := h, toks := tk } ((J, oJ) :: (C, oC) :: (D, LCg.lst ys) :: news) (p k)) E' { s with heap := h, toks := tk })
    (fin : ∀ ys, PairList news f ys (ks.filter p) → Fin ys news) :
    LCt.CompRestT prog w A h₀ L m env ct (.Name x px) x scope cl s S (fun i v => vs.toArray[i]? = some v) Fin n 0 [] news := by
  have hl : ks.length = n := by rw [← hn, List.size_toArray, hP.length]
  refine restT_inv (fun i ys nw => nw = news ∧ PairList news f ys ((ks.take i).filter p)) ?_ ?_ ⟨rfl, .nil⟩
  · rintro i ys nw hi ⟨rfl, hI⟩ v J oJ C oC D m₂ h tk E' hv hC hm F N off ne
    obtain ⟨q, k, t, t', rfl, hk, hmem⟩ := hP.get (i := i) (v := v) (by simpa using hv)
    have hs : ks.take (i + 1) = ks.take i ++ [k] := by rw [List.take_add_one, hk]; rfl
    refine wpAny_mono (turn k q t t' ys J oJ C oC D m₂ h tk E' hmem hC hm F N off ne) (fun ok s₂ hq => ?_) fun _ _ e => e
    obtain ⟨rfl, h', tk', rfl, F', N'⟩ := hq
    cases hp : p k with
    | true =>
      simp only [if_true]
      refine LCgL.ld_own N' (.tail _ (.head _)) hC hm ?_ (by simp [compEnvC, relabel, hkind]) (lookup_relabel_local hx) hdb
      refine ⟨h', tk', nw, rfl, F', N', off, hS, rfl, ?_⟩
      rw [hs, List.filter_append]
      simp only [List.filter_cons, hp, if_true, List.filter_nil]
      exact (PairList.cons hmem .nil).append hI
    | false =>
      simp only [Bool.false_eq_true, if_false]
      refine ⟨h', tk', nw, rfl, F', N', off, hS, rfl, ?_⟩
      rw [hs, List.filter_append]
      simp only [List.filter_cons, hp, List.filter_nil, Bool.false_eq_true, if_false, List.append_nil]
      exact hI
  · rintro ys nw ⟨rfl, hI⟩
    refine fin ys ?_
    rw [List.take_of_length_le (by omega)] at hI
    exact hI
/-- the second of each pair -/
theorem restP_seconds {f : Int → Int} {vs : List Value} {ks : List Int} {n : Nat} {px : Pos} (hP : PairList news f vs ks) (hn : vs.toArray.size = n) (hS : S news)
    (hkind : scope.kind = .function) (hx : scope.names.lookup x₂ = some .local) (hdb : (x₂ == ("__debug__" : PySem.Str)) = false)
    (fin : ∀ ys, IntsAre ys (ks.map f) → Fin ys news) :
    LCp.CompRestP prog w A h₀ L m env (.Name x₂ px) x x₂ scope cl s S (fun i v => vs.toArray[i]? = some v) Fin n 0 [] news := by
  have hl : ks.length = n := by rw [← hn, List.size_toArray, hP.length]
  have key : ∀ (j i : Nat) (ys : List Value), i + j = n → IntsAre ys ((ks.take i).map f) → LCp.CompRestP prog w A h₀ L m env (.Name x₂ px) x x₂ scope cl s S (fun i v => vs.toArray[i]? = some v) Fin j i ys news := by
    intro j
    induction j with
    | zero =>
      intro i ys hi hI
      refine LCp.CompRestP.zero (fin ys ?_)
      rw [List.take_of_length_le (by omega)] at hI
      exact hI
    | succ j ih =>
      intro i ys hi hI
      refine LCp.CompRestP.succ fun v hv => ?_
      obtain ⟨q, k, t, t', rfl, hk, hmem⟩ := hP.get (i := i) (v := v) (by simpa using hv)
      have hs : ks.take (i + 1) = ks.take i ++ [k] := by rw [List.take_add_one, hk]; rfl
      refine ⟨q, _, _, _, _, rfl, hmem, rfl, rfl, ?_⟩
      intro I oI C oC D m₂ h tk E' hC hm1 hm2 F N off ne
      refine LCgL.ld_own N (.tail _ (.head _)) hC hm2 ?_ (by simp [compEnvC, relabel, hkind]) (lookup_relabel_local hx) hdb
      refine ⟨h, tk, news, rfl, F, N, off, hS, ih (i + 1) _ (by omega) ?_⟩
      rw [hs, List.map_append]
      exact IntsAre.append hI (.cons _ t' .nil)
  exact key n 0 [] (by omega) .nil
end
def pairData (f : Int → Int) (ks : List Int) : List PyData := ks.map fun k => .tuple [.int k, .int (f k)]
theorem pairData_lay (f : Int → Int) : ∀ ks, PyData.canLayAll0 (pairData f ks) = true
  | [] => rfl
  | _ :: r => by
    have := pairData_lay f r
    unfold pairData at this ⊢
    simp only [List.map_cons, PyData.canLayAll0, PyData.canLay0, this, Bool.and_self]
theorem pairData_depth (f : Int → Int) : ∀ ks, PyData.depthAll (pairData f ks) ≤ 1
  | [] => by simp [pairData, PyData.depthAll]
  | _ :: r => by
    have := pairData_depth f r
    unfold pairData at this ⊢
    simp only [List.map_cons, PyData.depthAll, PyData.depth]
    omega
theorem pairData_shaped (f : Int → Int) (ks : List Int) : PySem.SeqAt.shaped (.list (pairData f ks)) = true := by
  have h := pairData_depth f ks
  unfold PySem.SeqAt.shaped
  simp only [PyData.canLay0, pairData_lay, PyData.depth, Bool.true_and]
  exact decide_eq_true (by omega)
theorem pairData_nil (f : Int → Int) (ks : List Int) : PyData.eqv (.list (pairData f ks)) (.list []) = decide (ks = []) := by
  cases ks <;> simp [pairData, PyData.eqv, PyData.eqvAll]
theorem eqv_two {a b c d a' b' c' d' : Int} : PyData.eqv (.tuple [.tuple [.int a, .int b], .tuple [.int c, .int d]]) (.tuple [.tuple [.int a', .int b'], .tuple [.int c', .int d']]) = decide (a = a' ∧ b = b' ∧ c = c' ∧ d = d') := by
  simp only [PyData.eqv, PyData.eqvAll, Bool.and_true]
  by_cases h1 : a = a' <;> by_cases h2 : b = b' <;> by_cases h3 : c = c' <;> by_cases h4 : d = d' <;> simp [h1, h2, h3, h4]
section
variable {prog : Program} {w : World} {A : Around} {E : Value → Shared → Prop} {s : Shared} {h₀ : Heap} {L : Addr} {news : List (Addr × Obj)} {Q : Value → Shared → Prop}
theorem reads_pairs {f : Int → Int} (N : News h₀ L s.heap news) : ∀ {vs : List Value} {ks : List Int}, PairList news f vs ks → ∃ as, ReadsAll s.heap vs (pairData f ks) as
  | _, _, .nil => ⟨_, .nil⟩
  | _, _, .cons hm r => by
    obtain ⟨_, h⟩ := reads_pairs N r
    exact ⟨_, .cons (reads_tuple_at (N.get hm) rfl rfl (.cons (.int _ _) (.cons (.int _ _) .nil))) h⟩
theorem eq_pairs_nil {D e : Addr} {f : Int → Int} {vs : List Value} {ks : List Int} {k k' : Nat} (N : News h₀ L s.heap news) (m1 : (D, W.listOf vs.toArray k) ∈ news) (hP : PairList news f vs ks) (m2 : (e, W.listOf #[] k') ∈ news)
    (hu : A.units + 64 < cLine) (h : Q (.bool (decide (ks = []))) s) : wpAny (model prog w) A (compareOp .Eq (.ref D) (.ref e)) Q E s := by
  obtain ⟨_, r⟩ := reads_pairs N hP
  exact eq_dataH (reads_list_at (N.get m1) rfl rfl r) (reads_list_at (N.get m2) rfl rfl .nil) (pairData_shaped f ks) rfl hu (by rw [pairData_nil]; exact h)
theorem reads_two {q e r : Addr} {a b c d : Int} {t0 t1 t2 t3 : Tok} (N : News h₀ L s.heap news) (m1 : (q, tup [.ref e, .ref r]) ∈ news) (m2 : (e, tup [.int a t0, .int b t1]) ∈ news) (m3 : (r, tup [.int c t2, .int d t3]) ∈ news) :
    ∃ as, Reads s.heap (.ref q) (.tuple [.tuple [.int a, .int b], .tuple [.int c, .int d]]) as :=
  ⟨_, reads_tuple_at (N.get m1) rfl rfl (.cons (reads_tuple_at (N.get m2) rfl rfl (.cons (.int _ _) (.cons (.int _ _) .nil))) (.cons (reads_tuple_at (N.get m3) rfl rfl (.cons (.int _ _) (.cons (.int _ _) .nil))) .nil))⟩
theorem ne_two {q e r q' e' r' : Addr} {a b c d a' b' c' d' : Int} {t0 t1 t2 t3 u0 u1 u2 u3 : Tok} (N : News h₀ L s.heap news) (m1 : (q, tup [.ref e, .ref r]) ∈ news) (m2 : (e, tup [.int a t0, .int b t1]) ∈ news) (m3 : (r, tup [.int c t2, .int d t3]) ∈ news)
    (m1' : (q', tup [.ref e', .ref r']) ∈ news) (m2' : (e', tup [.int a' u0, .int b' u1]) ∈ news) (m3' : (r', tup [.int c' u2, .int d' u3]) ∈ news)
    (hu : A.units + 64 < cLine) (h : Q (.bool (!decide (a = a' ∧ b = b' ∧ c = c' ∧ d = d'))) s) : wpAny (model prog w) A (compareOp .NotEq (.ref q) (.ref q')) Q E s := by
  obtain ⟨_, r1⟩ := reads_two N m1 m2 m3
  obtain ⟨_, r2⟩ := reads_two N m1' m2' m3'
  exact ne_dataH r1 r2 rfl rfl hu (by rw [eqv_two]; exact h)
theorem ne_none_two {q' e' r' : Addr} {a' b' c' d' : Int} {u0 u1 u2 u3 : Tok} (N : News h₀ L s.heap news)
    (m1' : (q', tup [.ref e', .ref r']) ∈ news) (m2' : (e', tup [.int a' u0, .int b' u1]) ∈ news) (m3' : (r', tup [.int c' u2, .int d' u3]) ∈ news)
    (hu : A.units + 64 < cLine) (h : Q (.bool true) s) : wpAny (model prog w) A (compareOp .NotEq .none (.ref q')) Q E s := by
  obtain ⟨_, r2⟩ := reads_two N m1' m2' m3'
  exact ne_dataH .none r2 rfl rfl hu (by simpa [PyData.eqv] using h)
end
section
variable {prog : Program} {w : World} {A : Around} {E : Value → Shared → Prop} {s : Shared} {h₀ : Heap} {L : Addr} {news : List (Addr × Obj)} {Q : Value → Shared → Prop}
theorem led_neg {value slice : Expr} {t : Addr} {l : List Value} {n : Nat} {k : Int} {u : Tok} {x : Value} (N : News h₀ L s.heap news) (hm : (t, ({ cls := .type "list", data := .seq l.toArray n } : Obj)) ∈ news)
    (hlo : k < 0) (hle : -(l.length : Int) ≤ k) (hhi : -(2 ^ 63) ≤ k) (hx : l[(k + l.length).toNat]? = some x) (h : Q x s)
    (hs : subscripted slice false (.ref t) (.int k u) = operate [.ref t, .int k u] (getItem (.ref t) (.int k u)) := by with_unfolding_all rfl) :
    wpAny (model prog w) A (subscriptTail value slice (.ref t) (.int k u)) Q E s :=
  tail_any (N.isList hm).typeIs slot_list_getitem.lookup (wpAny_getItem_list_neg (N.isList hm) hlo (by rw [List.size_toArray]; exact hle) hhi (by rw [List.size_toArray]; simpa using hx) h) hs
theorem led_ints_neg {value slice : Expr} {t : Addr} {l : List Value} {ns : List Int} {n : Nat} {k : Int} {u : Tok} (N : News h₀ L s.heap news) (hm : (t, ({ cls := .type "list", data := .seq l.toArray n } : Obj)) ∈ news) (hI : IntsAre l ns)
    (hlo : k < 0) (hle : -(l.length : Int) ≤ k) (hhi : -(2 ^ 63) ≤ k) (h : ∀ u', Q (.int (ns.getD (k + l.length).toNat 0) u') s)
    (hs : subscripted slice false (.ref t) (.int k u) = operate [.ref t, .int k u] (getItem (.ref t) (.int k u)) := by with_unfolding_all rfl) :
    wpAny (model prog w) A (subscriptTail value slice (.ref t) (.int k u)) Q E s := by
  obtain ⟨u', e⟩ := intsAre_get hI (k + l.length).toNat (by omega)
  exact led_neg N hm hlo hle hhi e (h u') hs
end
/-- what stands between the turns of the law's own going through -/
inductive HadJ (a b c d : Int) (bv : Value) (bf : List (Addr × Obj)) (fx : Bool) : Prop
  | none : bv = .none → bf = [] → fx = false → HadJ a b c d bv bf fx
  | some (q e' r' : Addr) (pa pb pc pd : Int) (s1 s2 s3 s4 : Tok) : bv = .ref q → bf = [(q, tup [.ref e', .ref r']), (e', tup [.int pa s1, .int pb s2]), (r', tup [.int pc s3, .int pd s4])] → fx = decide (pa = a ∧ pb = b ∧ pc = c ∧ pd = d) → HadJ a b c d bv bf fx
inductive StoodJ (L9 : Addr) (co9 : Obj) (x0 x1 : Addr × Obj) (many a₀ b₀ c₀ d₀ : Int) (mb : PySem.Str → Option Value) (n : Nat) (m₁ : PySem.Str → Option Value) (nw : List (Addr × Obj)) : Prop
  | intro (e r : Addr) (cr : Obj) (a b c d : Int) (t1 t2 t3 t4 : Tok) (v1 v2 v3 : Option Value) (bv : Value) (fx : Bool) (bf : List (Addr × Obj)) :
    (m₁ = (fun z => if z = Str.ofString "some" then some (.ref e) else if z = Str.ofString "told" then v1 else if z = Str.ofString "able" then v2 else if z = Str.ofString "hours" then v3 else if z = Str.ofString "ahead" then some bv else mb z)) →
    (nw = (L9 + 1 + 1, co9) :: (L9 + 1, cr) :: (e, tup [.int a t1, .int b t2]) :: (r, tup [.int c t3, .int d t4]) :: x0 :: x1 :: bf) →
    (cr.data = .cell (some (.ref r))) →
    ((-1000 < a ∧ a ≤ b ∧ b < 1000 ∧ b ≤ a + 11)) →
    ((-1000 < c ∧ c ≤ d ∧ d < 1000)) →
    ((∀ k, inS many a₀ b₀ c₀ d₀ k ↔ inS many a b c d k)) →
    ((fx = true → Fix many a b c d)) →
    (n = ((b - a) + (d - c)).toNat + (if fx = true then 0 else 1)) →
    (HadJ a b c d bv bf fx) →
    StoodJ L9 co9 x0 x1 many a₀ b₀ c₀ d₀ mb n m₁ nw
theorem name_two {h₀ h : Heap} {L c1 c2 : Addr} {o1 o2 : Obj} {rest : List (Addr × Obj)} {P : Prop} (_ : News h₀ L h ((c1, o1) :: (c2, o2) :: rest)) (k : ∀ o1' o2' : Obj, o1' = o1 → o2' = o2 → P) : P := k o1 o2 rfl rfl
theorem filter_inS {many a b c d k : Int} : k ∈ (rangeKs a (b + 1 - a).toNat).filter (fun k => decide (c ≤ Int.tmod k many) && decide (Int.tmod k many ≤ d)) ↔ inS many a b c d k := by
  rw [List.mem_filter, mem_range_iff, Bool.and_eq_true, decide_eq_true_eq, decide_eq_true_eq]
  unfold inS
  constructor
  · rintro ⟨⟨h1, h2⟩, h3, h4⟩; exact ⟨h1, h2, h3, h4⟩
  · rintro ⟨h1, h2, h3, h4⟩; exact ⟨⟨h1, h2⟩, h3, h4⟩
theorem filter_sorted {a : Int} {n : Nat} {p : Int → Bool} : ((rangeKs a n).filter p).Pairwise (· ≤ ·) := by
  refine List.Pairwise.filter _ ?_
  unfold rangeKs
  rw [List.pairwise_map]
  exact (List.pairwise_lt_range).imp fun h => by omega
theorem sorted_first {l : List Int} (h : l.Pairwise (· ≤ ·)) {x : Int} (h0 : l[0]? = some x) : ∀ y ∈ l, x ≤ y := by
  cases l with
  | nil => cases h0
  | cons z r =>
    have e : z = x := by simpa using h0
    subst e
    intro y hy
    rcases List.mem_cons.mp hy with rfl | hy
    · exact Int.le_refl _
    · exact (List.pairwise_cons.mp h).1 y hy
theorem sorted_last {l : List Int} (h : l.Pairwise (· ≤ ·)) {x : Int} (h0 : l[l.length - 1]? = some x) : ∀ y ∈ l, y ≤ x := by
  intro y hy
  obtain ⟨i, hi, e⟩ := List.getElem_of_mem hy
  obtain ⟨hj, e'⟩ := List.getElem?_eq_some_iff.mp h0
  rcases Nat.lt_or_ge i (l.length - 1) with q | q
  · have := List.pairwise_iff_getElem.mp h i (l.length - 1) hi hj q
    rw [e, e'] at this; exact this
  · have ei : i = l.length - 1 := by omega
    subst ei
    rw [← e, e']; exact Int.le_refl _
/-- one turn finds the ends at which all stands -/
theorem stood_turn {many a b c d a' b' c' d' : Int} {ks : List Int} (hk : ∀ k, k ∈ ks ↔ inS many a b c d k) (a1 : a' ∈ ks) (a2 : ∀ k ∈ ks, a' ≤ k) (b1 : b' ∈ ks) (b2 : ∀ k ∈ ks, k ≤ b')
    (c1 : c' ∈ ks.map fun k => Int.tmod k many) (c2 : ∀ x ∈ ks.map fun k => Int.tmod k many, c' ≤ x) (d1 : d' ∈ ks.map fun k => Int.tmod k many) (d2 : ∀ x ∈ ks.map fun k => Int.tmod k many, x ≤ d') :
    (∀ k, inS many a b c d k ↔ inS many a' b' c' d' k) ∧ Fix many a' b' c' d' ∧ (a ≤ a' ∧ a' ≤ b' ∧ b' ≤ b) ∧ (c ≤ c' ∧ c' ≤ d' ∧ d' ≤ d) := by
  obtain ⟨kc, hkc, ec⟩ := List.mem_map.mp c1
  obtain ⟨kd, hkd, ed⟩ := List.mem_map.mp d1
  have ia := (hk a').mp a1
  have ib := (hk b').mp b1
  have ic := (hk kc).mp hkc
  have id' := (hk kd).mp hkd
  have fwd : ∀ k, inS many a b c d k → inS many a' b' c' d' k := fun k h => by
    have hm := (hk k).mpr h
    exact ⟨a2 k hm, b2 k hm, c2 _ (List.mem_map.mpr ⟨k, hm, rfl⟩), d2 _ (List.mem_map.mpr ⟨k, hm, rfl⟩)⟩
  have bnd : (a ≤ a' ∧ b' ≤ b) ∧ (c ≤ c' ∧ d' ≤ d) := ⟨⟨ia.1, ib.2.1⟩, ⟨ec ▸ ic.2.2.1, ed ▸ id'.2.2.2⟩⟩
  have ab := a2 b' b1
  have cd : c' ≤ d' := c2 d' d1
  refine ⟨fun k => ⟨fwd k, fun h => ?_⟩, ⟨fwd _ ia, fwd _ ib, ⟨kc, fwd _ ic, ec⟩, ⟨kd, fwd _ id', ed⟩⟩, ⟨bnd.1.1, ab, bnd.1.2⟩, ⟨bnd.2.1, cd, bnd.2.2⟩⟩
  obtain ⟨h1, h2, h3, h4⟩ := h
  obtain ⟨⟨g1, g2⟩, g3, g4⟩ := bnd
  exact ⟨by omega, by omega, by omega, by omega⟩
theorem news_more {h₀ h : Heap} {L : Addr} {p : Addr × Obj} {news : List (Addr × Obj)} (N : News h₀ L h news) (hm : p ∈ news) : News h₀ L h (p :: news) := fun x hx => by
  rcases List.mem_cons.mp hx with rfl | hx
  · exact N _ hm
  · exact N _ hx
theorem news_six {h₀ h : Heap} {L : Addr} {a b c d e f : Addr × Obj} {rest : List (Addr × Obj)} (N : News h₀ L h (a :: b :: c :: d :: e :: f :: rest)) : News h₀ L h [a, b, c, d, e, f] := fun x hx => by
  refine N x ?_
  simp only [List.mem_cons, List.not_mem_nil, or_false] at hx ⊢
  rcases hx with hx | hx | hx | hx | hx | hx
  · exact .inl hx
  · exact .inr (.inl hx)
  · exact .inr (.inr (.inl hx))
  · exact .inr (.inr (.inr (.inl hx)))
  · exact .inr (.inr (.inr (.inr (.inl hx))))
  · exact .inr (.inr (.inr (.inr (.inr (.inl hx)))))
theorem news_double {h₀ h : Heap} {L : Addr} {a b c d : Addr × Obj} (N : News h₀ L h [a, b, c, d]) : News h₀ L h [a, b, c, d, c, d] := fun x hx => by
  refine N x ?_
  simp only [List.mem_cons, List.not_mem_nil, or_false] at hx ⊢
  rcases hx with hx | hx | hx | hx | hx | hx
  · exact .inl hx
  · exact .inr (.inl hx)
  · exact .inr (.inr (.inl hx))
  · exact .inr (.inr (.inr hx))
  · exact .inr (.inr (.inl hx))
  · exact .inr (.inr (.inr hx))
theorem frame_fold5 {x1 x2 x3 x4 x5 : PySem.Str} {A1 A2 A3 A4 A5 B1 B2 B3 B4 B5 : Option Value} {mb : PySem.Str → Option Value} :
    (fun z => if z = x1 then A1 else if z = x2 then A2 else if z = x3 then A3 else if z = x4 then A4 else if z = x5 then A5 else if z = x1 then B1 else if z = x2 then B2 else if z = x3 then B3 else if z = x4 then B4 else if z = x5 then B5 else mb z) =
    (fun z => if z = x1 then A1 else if z = x2 then A2 else if z = x3 then A3 else if z = x4 then A4 else if z = x5 then A5 else mb z) := by
  funext z
  by_cases h1 : z = x1
  · simp only [if_pos h1]
  · by_cases h2 : z = x2
    · simp only [if_neg h1, if_pos h2]
    · by_cases h3 : z = x3
      · simp only [if_neg h1, if_neg h2, if_pos h3]
      · by_cases h4 : z = x4
        · simp only [if_neg h1, if_neg h2, if_neg h3, if_pos h4]
        · by_cases h5 : z = x5
          · simp only [if_neg h1, if_neg h2, if_neg h3, if_neg h4, if_pos h5]
          · simp only [if_neg h1, if_neg h2, if_neg h3, if_neg h4, if_neg h5]
theorem last_of {ns ms : List Int} {n : Nat} (hn : n = ns.length) (hp : ns.Perm ms) (ho : ns.Pairwise (· ≤ ·)) (h : 0 < ns.length) : ns.getD (((-1 : Int) + (n : Int)).toNat) 0 ∈ ms ∧ ∀ x ∈ ms, x ≤ ns.getD (((-1 : Int) + (n : Int)).toNat) 0 := by
  have e : ((-1 : Int) + (n : Int)).toNat = ns.length - 1 := by omega
  rw [e]
  have hx : ns[ns.length - 1]? = some (ns.getD (ns.length - 1) 0) := by
    rw [List.getD_eq_getElem?_getD, List.getElem?_eq_getElem (by omega)]; rfl
  exact ⟨hp.mem_iff.mp (List.mem_of_getElem? hx), fun x hm => sorted_last ho hx x (hp.mem_iff.mpr hm)⟩
theorem ne_cell {h₀ h : Heap} {L a b : Addr} {o o' : Obj} {news : List (Addr × Obj)} {v : Option Value} {vs : Array Value} {n : Nat} (N : News h₀ L h news) (ha : (a, o) ∈ news) (hb : (b, o') ∈ news) (h1 : o.data = .seq vs n) (h2 : o'.data = .cell v) : @Ne Nat a b := by
  intro e
  have e' : (a : Addr) = b := e
  subst e'
  have e := (N _ ha).1.symm.trans (N _ hb).1
  injection e with e
  dsimp only at e
  rw [e, h2] at h1
  cases h1
theorem name_end {h₀ h : Heap} {L x y z : Addr} {ox : Obj} {c2 d2 ka kb : Int} {u u' ta tb : Tok} {rest : List (Addr × Obj)} {P : Prop} (_ : News h₀ L h ((x, ox) :: (y, tup [.int c2 u, .int d2 u']) :: (z, tup [.int ka ta, .int kb tb]) :: rest))
    (k : ∀ (y' z' : Addr) (w w' : Tok), y' = y → z' = z → w = u → w' = u' → P) : P := k y z u u' rfl rfl rfl rfl
theorem eq_dom_nil {prog : Program} {w : World} {A : Around} {E : Value → Shared → Prop} {s : Shared} {h₀ : Heap} {L : Addr} {news : List (Addr × Obj)} {Q : Value → Shared → Prop} {e f n : Addr} {x y : Int} {t u : Tok} (N : News h₀ L s.heap news)
    (m1 : (e, tup [.ref f]) ∈ news) (m2 : (f, tup [.int x t, .int y u]) ∈ news) (m3 : (n, tup []) ∈ news) (hu : A.units + 64 < cLine) (h : Q (.bool false) s) : wpAny (model prog w) A (compareOp .Eq (.ref e) (.ref n)) Q E s :=
  eq_dataH (reads_dom N m1 m2) (reads_tuple_at (N.get m3) rfl rfl .nil) rfl rfl hu h
/-- the one divisor of the second half, either sign -/
theorem sign_mul {v m : Int} (hv : 0 ≤ v ∧ v < 2) (hm : 0 ≤ m ∧ m < 7) : ([1, -1].getD v.toNat 0 * (1 + m) = 1 + m ∨ [1, -1].getD v.toNat 0 * (1 + m) = -(1 + m)) := by
  have e : v = 0 ∨ v = 1 := by omega
  rcases e with rfl | rfl
  · exact .inl (Int.one_mul _)
  · right
    show (-1 : Int) * (1 + m) = -(1 + m)
    rw [Int.neg_mul, Int.one_mul]
theorem sign_wide {y m : Int} (h : y = 1 + m ∨ y = -(1 + m)) (hm : 0 ≤ m ∧ m < 7) : y ≠ 0 ∧ -1000 < y ∧ y < 1000 := by omega
theorem inS_sign {y m a b c d n : Int} (h : y = m ∨ y = -m) : inS y a b c d n ↔ inS m a b c d n := by
  have e : Int.tmod n y = Int.tmod n m := by
    rcases h with rfl | rfl
    · rfl
    · exact Int.tmod_neg _ _
  unfold inS
  rw [e]
theorem fix_sign {y m a b c d : Int} (h : y = m ∨ y = -m) (F : Fix y a b c d) : Fix m a b c d := by
  have e : ∀ n, Int.tmod n y = Int.tmod n m := fun n => by
    rcases h with rfl | rfl
    · rfl
    · exact Int.tmod_neg _ _
  obtain ⟨h1, h2, ⟨n, h3, h4⟩, ⟨k, h5, h6⟩⟩ := F
  exact ⟨(inS_sign h).mp h1, (inS_sign h).mp h2, ⟨n, (inS_sign h).mp h3, (e n) ▸ h4⟩, ⟨k, (inS_sign h).mp h5, (e k) ▸ h6⟩⟩
/-- the same numbers, all ends met: the same ends -/
theorem fix_same {m a b c d a' b' c' d' : Int} (F : Fix m a b c d) (G : Fix m a' b' c' d') (h : ∀ n, inS m a b c d n ↔ inS m a' b' c' d' n) : a = a' ∧ b = b' ∧ c = c' ∧ d = d' := by
  obtain ⟨f1, f2, ⟨n, f3, f4⟩, ⟨k, f5, f6⟩⟩ := F
  obtain ⟨g1, g2, ⟨n', g3, g4⟩, ⟨k', g5, g6⟩⟩ := G
  refine ⟨Int.le_antisymm ((h _).mpr g1).1 ((h _).mp f1).1, Int.le_antisymm ((h _).mp f2).2.1 ((h _).mpr g2).2.1, Int.le_antisymm ?_ ?_, Int.le_antisymm ?_ ?_⟩
  · exact g4 ▸ ((h _).mpr g3).2.2.1
  · exact f4 ▸ ((h _).mp f3).2.2.1
  · exact f6 ▸ ((h _).mp f5).2.2.2
  · exact g6 ▸ ((h _).mpr g5).2.2.2
theorem off_low {sd x : Addr} {as : List Addr} (h : ∀ z ∈ as, sd ≤ z) (hx : @LT.lt Nat _ x sd) : x ∉ as := fun hm => absurd (Nat.lt_of_lt_of_le hx (h x hm)) (Nat.lt_irrefl _)
/-- what of a ledger stands where all but some addresses stand -/
inductive KP (as : List Addr) : List (Addr × Obj) → List (Addr × Obj) → Prop
  | nil : KP as [] []
  | take {a : Addr} {o : Obj} {l k : List (Addr × Obj)} : a ∉ as → KP as l k → KP as ((a, o) :: l) ((a, o) :: k)
  | skip {p : Addr × Obj} {l k : List (Addr × Obj)} : KP as l k → KP as (p :: l) k
theorem KP.news {as : List Addr} {h₀ h h' : Heap} {L : Addr} : ∀ {l k : List (Addr × Obj)}, News h₀ L h l → KeepBut as h h' → KP as l k → News h₀ L h' k
  | _, _, _, _, .nil => fun _ hp => nomatch hp
  | _, _, N, K, .take ha t => fun p hp => by
    rcases List.mem_cons.mp hp with rfl | hp
    · exact ⟨K _ _ ha (N _ (.head _)).1, (N _ (.head _)).2⟩
    · exact KP.news (fun q hq => N q (.tail _ hq)) K t p hp
  | _, _, N, K, .skip t => KP.news (fun q hq => N q (.tail _ hq)) K t
theorem ge_of {as : List Addr} {h h' : Heap} {sd : Addr} (_K : KeepBut as h h') (hs : ∀ z ∈ as, sd ≤ z) : ∀ z ∈ as, sd ≤ z := hs
inductive Refs : List Value → Nat → Prop
  | nil : Refs [] 0
  | cons {a : Addr} {xs : List Value} {n : Nat} : Refs xs n → Refs (.ref a :: xs) (n + 1)
theorem Refs.two {p q : Addr} {xs : List Value} {n : Nat} (h : Refs xs n) : Refs (xs ++ [.ref p, .ref q]) (n + 2) := by
  induction h with
  | nil => exact .cons (.cons .nil)
  | cons _ ih => exact .cons ih
theorem Refs.length {xs : List Value} {n : Nat} (h : Refs xs n) : xs.length = n := by
  induction h with
  | nil => rfl
  | cons _ ih => rw [List.length_cons, ih]
theorem Refs.four {xs : List Value} (h : Refs xs 4) : ∃ a b c d : Addr, xs = [.ref a, .ref b, .ref c, .ref d] := by
  cases h with | cons h => cases h with | cons h => cases h with | cons h => cases h with | cons h => cases h; exact ⟨_, _, _, _, rfl⟩
/-- what stands between the turns of the reasons' loop -/
inductive ReasJ (mb : PySem.Str → Option Value) (fo own : Addr) (rest : List (Addr × Obj)) (j : Int) (i : Nat) (m₁ : PySem.Str → Option Value) (nw : List (Addr × Obj)) : Prop
  | intro (xs : List Value) (kf : Nat) (sv : Option Value) : m₁ = (fun z => if z = PySem.Str.ofString "k" then sv else mb z) → nw = (fo, W.listOf (Value.ref own :: xs).toArray kf) :: rest → Refs xs (if j < (i : Int) then 2 * i - 2 else 2 * i) → ReasJ mb fo own rest j i m₁ nw
theorem frame_in1 {x : PySem.Str} {mb : PySem.Str → Option Value} : mb = fun z => if z = x then mb x else mb z := by
  funext z
  by_cases h : z = x
  · rw [if_pos h, h]
  · rw [if_neg h]
theorem frame_back1 {x : PySem.Str} {A B : Option Value} {mb : PySem.Str → Option Value} : (fun z => if z = x then A else if z = x then B else mb z) = fun z => if z = x then A else mb z := by
  funext z
  by_cases h : z = x
  · simp only [if_pos h]
  · simp only [if_neg h]
theorem refs_skip {xs : List Value} {j : Int} {i : Nat} (h : Refs xs (if j < (i : Int) then 2 * i - 2 else 2 * i)) (e : (0 : Int) + (i : Int) = j) : Refs xs (if j < ((i + 1 : Nat) : Int) then 2 * (i + 1) - 2 else 2 * (i + 1)) := by
  rw [if_neg (by omega)] at h
  rw [if_pos (by omega)]
  exact (show 2 * (i + 1) - 2 = 2 * i from by omega) ▸ h
theorem refs_step {xs : List Value} {p q : Addr} {j : Int} {i : Nat} (h : Refs xs (if j < (i : Int) then 2 * i - 2 else 2 * i)) (hj : 0 ≤ j) (e : ¬ (0 : Int) + (i : Int) = j) : Refs (xs ++ [.ref p, .ref q]) (if j < ((i + 1 : Nat) : Int) then 2 * (i + 1) - 2 else 2 * (i + 1)) := by
  by_cases k : j < (i : Int)
  · rw [if_pos k] at h
    rw [if_pos (by omega)]
    exact (show 2 * i - 2 + 2 = 2 * (i + 1) - 2 from by omega) ▸ h.two
  · rw [if_neg k] at h
    rw [if_neg (by omega)]
    exact (show 2 * i + 2 = 2 * (i + 1) from by omega) ▸ h.two
theorem refs_small {xs : List Value} {j : Int} {i : Nat} (h : Refs xs (if j < (i : Int) then 2 * i - 2 else 2 * i)) (hi : i < 3) : xs.length ≤ 4 := by
  rw [h.length]; split <;> omega
theorem refs_end {xs : List Value} {j : Int} (h : Refs xs (if j < ((3 : Nat) : Int) then 2 * 3 - 2 else 2 * 3)) (hj : j ≤ 2) : Refs xs 4 := by
  rw [if_pos (by omega)] at h; exact h
theorem reas_spot {i : Nat} {r0 r1 r2 : Addr} {a0 b0 a1 b1 a2 b2 : Int} {t1 t2 t3 t4 t5 t6 : Tok} {l : List (Addr × Obj)} (hi : i < 3)
    (hl : ∀ p ∈ [(r0, tup [.int a0 t1, .int b0 t2]), (r1, tup [.int a1 t3, .int b1 t4]), (r2, tup [.int a2 t5, .int b2 t6])], p ∈ l) :
    ∃ rk lo hi' tl th, ([.ref r0, .ref r1, .ref r2] : List Value)[((0 : Int) + (i : Int)).toNat]? = some (.ref rk) ∧ (rk, tup [.int lo tl, .int hi' th]) ∈ l := by
  match i, hi with
  | 0, _ => exact ⟨r0, a0, b0, t1, t2, rfl, hl _ (.head _)⟩
  | 1, _ => exact ⟨r1, a1, b1, t3, t4, rfl, hl _ mem1⟩
  | 2, _ => exact ⟨r2, a2, b2, t5, t6, rfl, hl _ mem2⟩
section
variable {w : World} {mean : ExcName → Option Value} {mg mb : PySem.Str → Option Value} {dp un : Nat} {gd : Option (List Code)} {cn : PySem.Str} {cs : Scope} {a : Addr} {ccd : Value} {cl0 : List (PySem.Str × Addr)} {outer : List Env} {A₀ : Around} {base h₀ : Heap} {L : Addr} {m : PySem.Str → Option Value} {s : Shared} {Q E : Value → Shared → Prop}
  (B : Below A₀ base outer h₀) (F : Fr h₀ L s.heap m) (X : (kp.heap_1 w.params).In h₀) (T : TT mean mg mb h₀) (hk : cs.kind = .function)
include B F X T hk
local macro_rules | `(tactic| k_mem) => `(tactic| first | exact List.Mem.head _ | exact mem1 | exact mem2 | exact mem3 | exact mem4 | exact mem5 | exact mem6 | exact mem7 | exact mem8 | exact mem9 | exact mem10 | exact mem11 | exact mem12 | exact mem13 | exact mem14 | exact mem15 | exact mem16 | exact mem17 | exact mem18 | exact mem19 | exact mem20 | exact mem21 | exact mem22 | exact mem23 | exact mem24)
local macro_rules | `(tactic| ktr_enter) => `(tactic| first
  | (refine' code_defG ?k1 ?k2 ?k3 ?k4 ?k5 ?kA ?kF ?kK ?k6 ?k7 ?k8 ?k9 ?kB ?_ ?c2 ?c3 ?c4 ?c5; (case kA => exact rfl); (case kF => exact rfl); (case kK => assumption); (case k1 => k_asm); (case k2 => k_asm); (case k3 => k_asm); (case k4 => k_asm); (case k5 => k_asm); (case k6 => k_is); (case k7 => k_is); (case k8 => ktr_room); (case k9 => exact BindsTo.of_eq rfl); (case c5 => decide); (case kB => exact locs rfl); (case c2 => exact rfl); (case c3 => exact rfl); (case c4 => exact rfl); k_whole; intro g' L' h' FG' F' N' B' X' T' GS'; (try dsimp only); (try k_fold))
  | (refine' enter_cells ?k1 ?k2 ?k3 ?k4 ?k5 ?kA ?kF ?kK ?k6 ?k7 ?k8 ?k9 ?kB ?kD ?_ ?c2 ?c3 ?c4; (case kA => exact rfl); (case kF => exact rfl); (case kK => assumption); (case k1 => k_asm); (case k2 => k_asm); (case k3 => k_asm); (case k4 => k_asm); (case k5 => k_asm); (case k6 => k_is); (case k7 => k_is); (case k8 => ktr_room); (case k9 => exact BindsTo.of_eq rfl); (case kB => exact rfl); (case kD => decide +kernel); (case c2 => exact rfl); (case c3 => exact rfl); (case c4 => exact rfl); k_whole; intro g' L' h' tk' cells' FG' F' N' Y' B' X' T' l1 GS'; (try (replace l1 := allLt_of l1; simp only [AllLt, and_true] at l1)); k_cells Y'; (try simp only [List.cons_append, List.nil_append] at N'); (try dsimp only); (try k_fold)))
local macro_rules | `(tactic| ktr_room) => `(tactic| ((with_reducible rename _ + _ < recursionLimit => hR9); first | exact rm0 hR9 rfl | exact rm1 hR9 rfl (by decide) | exact rm2 hR9 rfl (by decide) | exact rm3 hR9 rfl (by decide) | exact rm4 hR9 rfl (by decide)))
local macro_rules | `(tactic| ktr_units) => `(tactic| ((with_reducible rename _ + _ < cLine => hR9); first | exact rm0 hR9 rfl | exact rm1 hR9 rfl (by decide) | exact rm2 hR9 rfl (by decide) | exact rm3 hR9 rfl (by decide) | exact rm4 hR9 rfl (by decide)))
local macro_rules | `(tactic| k_room) => `(tactic| ktr_room)
local macro_rules | `(tactic| k_units) => `(tactic| ktr_units)
local macro_rules | `(tactic| units_room) => `(tactic| ktr_units)
local macro_rules | `(tactic| walk_at "CompSrcT") => `(tactic| (k_here; k_dflt (first
  | (refine LCt.CompSrcT.ledger (by rfl) (by k_asm) (by k_asm) (by k_mem) (by first | size_fits | exact Nat.le_of_ble_eq_true rfl) ?_; intro g'; lct_lit)
  | refine Stop.intro ?_)))
local macro_rules | `(tactic| walk_at "CompSrc") => `(tactic| (k_here; k_dflt (first
  | (refine LCg.CompSrc.ledger (by rfl) (by k_asm) (by k_asm) (by k_mem) (by first | size_fits | exact Nat.le_of_ble_eq_true rfl) ?_; intro g'; lcg_lit)
  | refine Stop.intro ?_)))
local macro_rules | `(tactic| walk_at "eval ListComp") => `(tactic| (k_here; (with_reducible show wpAny _ _ (eval (Expr.ListComp _ [Comprehension.mk (Expr.Name _ _) _ [] _] _ _) _) _ _ _); k_dflt (refine LCg.ListComp_U (F₀ := by k_asm) (by with_unfolding_all rfl) (by decide) (by rfl) (by decide) (by rfl) ?_)))
local macro_rules | `(tactic| walk_at "eval ListComp") => `(tactic| (k_here; (with_reducible show wpAny _ _ (eval (Expr.ListComp _ [Comprehension.mk (Expr.Name _ _) _ [_] _] _ _) _) _ _ _); k_dflt (refine LCt.ListComp_T (F₀ := by k_asm) (by with_unfolding_all rfl) (by decide) (by rfl) (by decide) (by rfl) ?_)))
local macro_rules | `(tactic| walk_at "exec Assign cons ListComp") => `(tactic| (k_here; (with_reducible show wpAny _ _ (exec (Stmt.Assign _ (Expr.ListComp _ [Comprehension.mk (Expr.Name _ _) _ [] _] _ _) _) _) _ _ _); k_dflt (refine LCg.Assign_ListComp_U (F₀ := by k_asm) (by rfl) (by with_unfolding_all rfl) (by with_unfolding_all rfl) (by decide) (by rfl) (by decide) (by rfl) (by rfl) (by rfl) ?_)))
local macro_rules | `(tactic| walk_at "exec Assign cons ListComp") => `(tactic| (k_here; (with_reducible show wpAny _ _ (exec (Stmt.Assign _ (Expr.ListComp _ [Comprehension.mk (Expr.Name _ _) _ [_] _] _ _) _) _) _ _ _); k_dflt (refine LCt.Assign_ListComp_T (F₀ := by k_asm) (by rfl) (by with_unfolding_all rfl) (by with_unfolding_all rfl) (by decide) (by rfl) (by decide) (by rfl) (by rfl) (by rfl) ?_)))
local macro_rules | `(tactic| walk_at "CompRestT") => `(tactic| (with_unfolding_all first
  | (refine LCt.CompRestT.succ ?_; intro v' I' oI' C' oC' D' m' h' tk' E' hv' hC' hx' F' N' off' ne'; (first | lcg_open hv' | (obtain ⟨t9', hv9'⟩ := hv'; subst hv9')))
  | refine LCt.CompRestT.zero ?_))
local macro_rules | `(tactic| walk_at "CompRest") => `(tactic| (with_unfolding_all first
  | (refine LCg.CompRest.succ ?_; intro v' I' oI' C' oC' D' m' h' tk' E' hv' hC' hx' F' N' off' ne'; (first | lcg_open hv' | (obtain ⟨t9', hv9'⟩ := hv'; subst hv9')))
  | refine LCg.CompRest.zero ?_))
local macro_rules | `(tactic| walk_at "CompEnd") => `(tactic| (k_here; k_dflt ((with_reducible rename News _ _ _ _ => N9'); (with_reducible rename Fr _ _ _ _ => F9'); (with_reducible rename LCg.Off3 _ _ _ _ => off9'); first
  | (refine compEnd_new F9' N9' off9' ?ne ?sub ?src ?_; (case sub => kcj_all); (case ne => exact ⟨by k_ne, by k_ne, by k_ne⟩); (case src => lcg_src))
  | (refine LCg.CompEnd.intro F9' N9' _ (comp_sub off9' ?sub) off9' ?src ?_; (case sub => kcj_all); (case src => lcg_src)))))
local macro_rules | `(tactic| walk_at "FinE") => `(tactic| ((unfold LCg.FinE); intro D' h' tk' F' N' o1'; (try simp only [List.nil_append, List.cons_append] at N'); (try dsimp only)))
local macro_rules | `(tactic| walk_at "FinA") => `(tactic| ((unfold LCg.FinA); intro D' h' tk' F' N' o1'; (try simp only [List.nil_append, List.cons_append] at N'); (try dsimp only)))
local macro_rules | `(tactic| walk_at "call builtin:max") => `(tactic| (k_here; (with_reducible show wpAny _ _ (call (Value.builtin "max") [Value.int _ _, Value.int _ _, Value.int _ _]) _ _ _); k_dflt (refine' max_three (by rfl) (by k_asm) (by k_asm) ?_; k_whole; intro q' h' tk' F' N')))
local macro_rules | `(tactic| walk_at "call builtin:min") => `(tactic| (k_here; (with_reducible show wpAny _ _ (call (Value.builtin "min") [Value.int _ _, Value.int _ _, Value.int _ _]) _ _ _); k_dflt (refine' min_three (by rfl) (by k_asm) (by k_asm) ?_; k_whole; intro q' h' tk' F' N')))
local macro_rules | `(tactic| lcg_src) => `(tactic| k_mem)
local macro_rules | `(tactic| walk_at "eval ListComp") => `(tactic| (k_here; (with_reducible show wpAny _ _ (eval (Expr.ListComp _ [Comprehension.mk (Expr.Tuple [Expr.Name _ _, Expr.Name _ _] _ _) (Expr.Name _ _) [_] _] _ _) _) _ _ _); k_dflt (refine ListComp_one (F₀ := by k_asm) (by with_unfolding_all rfl) (by decide) (by rfl) (by decide) (by rfl) (by rfl) (by decide) ?_)))
local macro_rules | `(tactic| walk_at "eval ListComp") => `(tactic| (k_here; (with_reducible show wpAny _ _ (eval (Expr.ListComp _ [Comprehension.mk (Expr.Name _ _) (Expr.Attribute _ _ _) [] _] _ _) _) _ _ _); k_dflt (refine ListComp_tup (F₀ := by k_asm) (by with_unfolding_all rfl) (by decide) (by rfl) (by decide) (by rfl) ?_)))
local macro_rules | `(tactic| walk_at "exec Assign cons ListComp") => `(tactic| (k_here; (with_reducible show wpAny _ _ (exec (Stmt.Assign _ (Expr.ListComp _ [Comprehension.mk (Expr.Name _ _) (Expr.Attribute _ _ _) [] _] _ _) _) _) _ _ _); k_dflt (refine Assign_ListComp_tup (F₀ := by k_asm) (by rfl) (by with_unfolding_all rfl) (by with_unfolding_all rfl) (by decide) (by rfl) (by decide) (by rfl) (by rfl) (by rfl) ?_)))
local macro_rules | `(tactic| walk_at "SrcOne") => `(tactic| (k_here; k_dflt (refine SrcOne.intro (by rfl) (by k_asm) (by k_asm) (by k_mem) (by k_mem) ?_; intro g')))
local macro_rules | `(tactic| walk_at "SrcTup") => `(tactic| (k_here; k_dflt (refine SrcTup.intro (by rfl) (by k_asm) (by k_asm) (by k_mem) (by first | size_fits | exact Nat.le_of_ble_eq_true rfl) ?_; intro g'; lcg_lit)))
local macro_rules | `(tactic| walk_at "KctRest") => `(tactic| (with_unfolding_all first
  | (refine KctRest.cons ?_; intro t' I' oI' C' oC' D' m' h' tk' E' hC' ha' hb' F' N' off' ne'; (try dsimp only at ha' hb'))
  | refine KctRest.nil ?_))
local macro_rules | `(tactic| k_ne) => `(tactic| (refine neN ?_; (try dsimp only); first
  | omega
  | exact ne_kind (by assumption) (by k_mem) (by k_mem) (by first | assumption | rfl) (by first | assumption | rfl) (by first | exact type_ne (by decide) | exact type_ne_ref | exact ref_ne_type)))
local macro_rules | `(tactic| walk_at "setItem ref int") => `(tactic| (k_here; (with_reducible show wpAny _ _ (setItem (Value.ref _) (Value.int _ _) (Value.bool _)) _ _ _); k_dflt (refine' kda_set (knd := PySem.intKind _ _) ?F ?N ?U ?d (intKind_is _ _ _ _) ?z ?_; (case F => k_asm); (case N => k_asm); (case U => k_updF); (case d => k_asm); (case z => rw [PySem.sizeLine_eq]; omega)); intro h' o' F' N' hd'; (try dsimp only at N'); (try k_sweep)))
local macro_rules | `(tactic| walk_at "call builtin:list.append") => `(tactic| (k_here; (with_reducible show wpAny _ _ (call (Value.builtin _) [Value.ref _, _]) _ _ _); k_dflt (refine' append_K ?k1 ?k2 ?k3 ?_ ?z; (case k1 => k_asm); (case k2 => k_asm); (case k3 => k_upd); (case z => first | size_fits | (rw [PySem.sizeLine_eq]; omega) | (simp only [Array.size_push, List.size_toArray, List.length_cons, PySem.sizeLine_eq]; omega)); k_whole); intro h' F' N'; (try k_sweep)))
local macro_rules | `(tactic| ktn_open) => `(tactic| repeat' (first | exact List.forall_mem_nil _ | (refine allC ?_ ?_) | exact Or.inl (by k_mem) | exact Or.inr (by k_mem)))
local macro_rules | `(tactic| ktr_rel) => `(tactic| (k_here; (with_reducible show wpAny _ _ (subscriptTail _ _ (Value.ref _) (Value.int _ _)) _ _ _); k_dflt (first
  | refine' led_tup (by k_asm) (by k_mem) (by first | decide | k_data) (by first | decide | k_data) (by z_go) (by z_go) ?_ (by with_unfolding_all rfl)
  | refine' led_list (by k_asm) (by k_mem) (by first | decide | k_data) (by first | decide | k_data) (by z_go) ?_ (by with_unfolding_all rfl)); k_whole))
local macro_rules | `(tactic| walk_at "subscriptTail") => `(tactic| ktr_rel)
local macro_rules | `(tactic| walk_at "subscriptTail Name") => `(tactic| ktr_rel)
local macro_rules | `(tactic| walk_at "subscriptTail Name Constant ref int") => `(tactic| ktr_rel)
local macro_rules | `(tactic| walk_at "subscriptTail Attribute") => `(tactic| ktr_rel)
local macro_rules | `(tactic| walk_at "subscriptTail Subscript") => `(tactic| ktr_rel)
local macro_rules | `(tactic| walk_at "subscriptTail Attribute Name Constant ref int") => `(tactic| ktr_rel)
local macro_rules | `(tactic| walk_at "subscriptTail Call Attribute cons nil Constant ref int") => `(tactic| ktr_rel)
local macro_rules | `(tactic| walk_at "subscriptTail Name Name ref int") => `(tactic| ktr_rel)
local macro_rules | `(tactic| walk_at "subscriptTail Name UnaryOp ref int") => `(tactic| ktr_rel)
local macro_rules | `(tactic| walk_at "subscriptTail Attribute Name Name ref int") => `(tactic| ktr_rel)

local macro_rules | `(tactic| walk_at "LeaveK") => `(tactic| (k_dflt (refine' leaveK_ ?k1 ?k2 ?_; (case k1 => k_asm); (case k2 => k_asm); k_whole); intro kF kN; ground_anew kF; (have kX := kFor kF (by k_asm)); (try (dsimp only [InitBack]; refine ⟨rfl, ?_⟩)); (try (refine handed_on rfl ?_)); (try dsimp only)))
local macro_rules | `(tactic| k_lt $_h:ident) => `(tactic| skip)
local macro_rules | `(tactic| k_ne) => `(tactic| (refine neN ?_; (try dsimp only); first
  | exact lt_ne (by assumption) | exact gt_ne (by assumption) | exact mem_ne (by assumption) (by k_mem) | exact ne_mem (by assumption) (by k_mem) | exact mem_ne2 (by assumption) (by assumption) (by k_mem) | exact ne_mem2 (by assumption) (by assumption) (by k_mem)
  | omega
  | exact ne_kind (by assumption) (by k_mem) (by k_mem) (by first | assumption | rfl) (by first | assumption | rfl) (by first | exact type_ne (by decide) | exact type_ne_ref | exact ref_ne_type)))
local macro_rules | `(tactic| walk_at "ite") => `(tactic| (k_here; first | (refine ite_pos (by with_reducible assumption) ?_) | (refine ite_neg (by with_reducible assumption) ?_) | (refine ite_isFalse (by with_reducible assumption) ?_) | (refine ite_pos (by k_dec) ?_) | (refine ite_neg (by k_dec) ?_)))
local macro_rules | `(tactic| k_upd) => `(tactic| first | exact sub_refl | exact sub_nil | (refine sub_take ?_; k_upd) | (refine sub_skip ?_; k_upd))
local macro_rules | `(tactic| kcj_all) => `(tactic| k_upd)
local macro_rules | `(tactic| lcg_sub) => `(tactic| first | kcj_all | (refine allC (by k_mem) (by lcg_sub)))
local macro_rules | `(tactic| walk_at "call ref") => `(tactic| (k_here; refine stop_at (by decide) ?_))
local macro_rules | `(tactic| ktr_call $x $_c) => `(tactic| (k_here; (with_reducible show wpAny _ _ (call (Value.ref $x) _) _ _ _)))
local macro_rules | `(tactic| z_go) => `(tactic| first | exact rfl | assumption)
local macro_rules | `(tactic| ktr_unf) => `(tactic| exact cb_drop (by assumption) (by kcj_all))
local macro_rules | `(tactic| k_data) => `(tactic| first | assumption | omega)
local macro_rules | `(tactic| open_z) => `(tactic| (k_here; refine Stop.intro ?_))
local macro_rules | `(tactic| lge_go) => `(tactic| (k_whole; intros; (with_reducible rename InElt _ _ => K'); (with_reducible rename News _ _ _ _ => N'); (replace N' := News.grown N' K')))
local macro_rules | `(tactic| lgec_go) => `(tactic| (k_whole; (with_reducible rename News _ _ _ _ => N0'); intros; (with_reducible rename News _ _ _ _ => M'); (with_reducible rename InElt _ _ => K'); (try ((with_reducible rename Fresh _ _ => Z'); (have l1' := fresh_ne Z' N0'))); (have N' := news_cons M' (News.grown N0' K')); clear M' N0'))
local macro_rules | `(tactic| open_k0) => `(tactic| (k_whole; (with_reducible rename News _ _ _ _ => N0'); intros; (with_reducible rename News _ _ _ _ => M'); (with_reducible rename InElt _ _ => K'); (with_reducible rename Fresh _ _ => Z''); (have l1'' := fresh_ne Z'' N0'); clear Z''; (with_reducible rename Fresh _ _ => Z'); (have l1' := fresh_ne Z' N0'); (have N' := news_app M' (News.grown N0' K')); clear M' N0'; (try simp only [List.cons_append, List.nil_append] at N')))
local macro_rules | `(tactic| walk_at "setItem ref int") => `(tactic| (k_here; (with_reducible show wpAny _ _ (setItem (Value.ref _) (Value.int _ _) (Value.ref _)) _ _ _); k_dflt (refine' led_set (by k_asm) (by k_asm) (by k_upd) (by assumption) (by assumption) (by assumption) ?_; k_whole); intro h' F' N'; (try k_sweep)))
section
def size_of_spec_P (K9 : Ctx) : Prop :=
  (Below (K9.A₀) (K9.base) (K9.outer) (K9.h₀)) →
  (Fr (K9.h₀) (K9.L) (K9.s).heap (K9.m)) →
  ((kp.heap_1 (K9.w).params).In (K9.h₀)) →
  (TT (K9.mean) (K9.mg) (K9.mb) (K9.h₀)) →
  ((K9.cs).kind = .function) →
  (News (K9.h₀) (K9.L) (K9.s).heap [((K9.Ad 0), tup [.int (K9.In 0) (K9.Tk 0), .int (K9.In 1) (K9.Tk 1)])]) →
  ((K9.dp) + 2 < recursionLimit) →
  ((K9.un) + 20 < cLine) →
  (∀ t h' tk', Fr (K9.h₀) (K9.L) h' (K9.m) → InElt (K9.s).heap h' → (K9.Q) (.int (szOf (K9.In 0) (K9.In 1)) t) { (K9.s) with heap := h', toks := tk' }) →
  wpAny (model PySem.Challenge.rw_pc0044_01.row.prog (K9.w)) (ktrTop (K9.dp) (K9.un) (K9.gd) (K9.cn) (K9.cs) (K9.L) (K9.a) (K9.ccd) (K9.cl0) (K9.outer)) (call (.ref 304) [.ref (K9.Ad 0)]) (K9.Q) (K9.E) (K9.s)
@[irreducible] noncomputable def size_of_spec_k : Ctx := @Classical.epsilon Ctx ctx_ne fun c => ¬ size_of_spec_P c
omit B F X T hk in
theorem size_of_spec_core : size_of_spec_P size_of_spec_k := by
  delta size_of_spec_P
  intro B F X T hk N hd1 hu1 hret
  refine wpAny_call ?_
  k_dflt ktr_enter
  k_steps
  all_goals refine ret_int hret ?_ (by assumption) (keep_of (by assumption) (by assumption) (by assumption) (by assumption) (by kcj_all))
  all_goals (unfold szOf; (repeat' split) <;> omega)
theorem size_of_spec {e : Addr} {a0 b0 : Int} {t1 t2 : Tok}
  (N : News h₀ L s.heap [(e, tup [.int a0 t1, .int b0 t2])])
  (hd1 : dp + 2 < recursionLimit) (hu1 : un + 20 < cLine)
  (hret : ∀ t h' tk', Fr h₀ L h' m → InElt s.heap h' → Q (.int (szOf a0 b0) t) { s with heap := h', toks := tk' }) :
  wpAny (model PySem.Challenge.rw_pc0044_01.row.prog w) (ktrTop dp un gd cn cs L a ccd cl0 outer) (call (.ref 304) [.ref e]) Q E s :=
  eps_all (P := size_of_spec_P) (k := size_of_spec_k) (by with_unfolding_all rfl) size_of_spec_core { w := w, mean := mean, mg := mg, mb := mb, dp := dp, un := un, gd := gd, cn := cn, cs := cs, a := a, ccd := ccd, cl0 := cl0, outer := outer, A₀ := A₀, base := base, h₀ := h₀, L := L, m := m, s := s, Q := Q, E := E, Bo := pick true [], Ad := pick 0 [e], In := pick 0 [a0, b0], Tk := pick 0 [t1, t2], Nt := pick 0 [], Ar := pick #[] [], Ob := pick (tup []) [], Kv := pick [] [], Lv := pick [] [], Li := pick [] [], Lo := pick [] [], Hp := fun _ => h₀, Mp := fun _ => m, Vl := fun _ => ccd, Ov := fun _ => none, Cl := fun _ => [] } B F X T hk N hd1 hu1 hret
end
local macro_rules | `(tactic| walk_at "call ref") => `(tactic| (ktr_call 304 0; k_dflt (refine' size_of_spec (by k_asm) (by k_asm) (by k_asm) (by k_asm) (by z_go) (by ktr_unf) (by ktr_room) (by ktr_units) ?_; lge_go)))
section
def divisors_spec_P (K9 : Ctx) : Prop :=
  (Below (K9.A₀) (K9.base) (K9.outer) (K9.h₀)) →
  (Fr (K9.h₀) (K9.L) (K9.s).heap (K9.m)) →
  ((kp.heap_1 (K9.w).params).In (K9.h₀)) →
  (TT (K9.mean) (K9.mg) (K9.mb) (K9.h₀)) →
  ((K9.cs).kind = .function) →
  (News (K9.h₀) (K9.L) (K9.s).heap [((K9.Ad 1), W.listOf #[.ref (K9.Ad 2), .ref (K9.Ad 3), .ref (K9.Ad 4)] (K9.Nt 0)), ((K9.Ad 2), tup [.int (K9.In 0) (K9.Tk 0), .int (K9.In 1) (K9.Tk 1)]), ((K9.Ad 3), tup [.int (K9.In 2) (K9.Tk 2), .int (K9.In 2) (K9.Tk 3)])]) →
  ((K9.In 2) ≠ 0) →
  (-1000 < (K9.In 2) ∧ (K9.In 2) < 1000) →
  ((K9.dp) + 4 < recursionLimit) →
  ((K9.un) + 40 < cLine) →
  (∀ q n' t h' tk', Fr (K9.h₀) (K9.L) h' (K9.m) → InElt (K9.s).heap h' → Fresh (K9.s).heap q → News (K9.h₀) (K9.L) h' [(q, W.listOf #[.int (K9.In 2) t] n')] → (K9.Q) (.ref q) { (K9.s) with heap := h', toks := tk' }) →
  wpAny (model PySem.Challenge.rw_pc0044_01.row.prog (K9.w)) (ktrTop (K9.dp) (K9.un) (K9.gd) (K9.cn) (K9.cs) (K9.L) (K9.a) (K9.ccd) (K9.cl0) (K9.outer)) (call (.ref 380) [.ref (K9.Ad 0), .ref (K9.Ad 1)]) (K9.Q) (K9.E) (K9.s)
@[irreducible] noncomputable def divisors_spec_k : Ctx := @Classical.epsilon Ctx ctx_ne fun c => ¬ divisors_spec_P c
omit B F X T hk in
theorem divisors_spec_core : divisors_spec_P divisors_spec_k := by
  delta divisors_spec_P
  intro B F X T hk N hy hyb hd1 hu1 hret
  refine wpAny_call ?_
  k_dflt ktr_enter
  k_steps
  · exact hret _ _ _ _ _ (by assumption) (keep_of (by assumption) (by assumption) (by assumption) (by assumption) (by kcj_all)) (fresh_of (by assumption) (by assumption) (.head _) (AllNe.sub (allNe_lt (by assumption)) (by kcj_all))) (cb_drop (by assumption) (by kcj_all))
  · exact hret _ _ _ _ _ (by assumption) (keep_of (by assumption) (by assumption) (by assumption) (by assumption) (by kcj_all)) (fresh_of (by assumption) (by assumption) (.head _) (AllNe.sub (allNe_lt (by assumption)) (by kcj_all))) (cb_drop (by assumption) (by kcj_all))
  · (with_reducible rename ¬ (_ < _) => hc)
    have hz : 0 ≤ szOf (divisors_spec_k.In 0) (divisors_spec_k.In 1) := by unfold szOf; omega
    have hcc : szOf (divisors_spec_k.In 0) (divisors_spec_k.In 1) + 1 ≥ (divisors_spec_k.In 2) ∧ -(szOf (divisors_spec_k.In 0) (divisors_spec_k.In 1) + 1) ≤ (divisors_spec_k.In 2) := by (revert hc; (repeat' split) <;> intros <;> omega)
    have e1 : (if -(szOf (divisors_spec_k.In 0) (divisors_spec_k.In 1) + 1) > (divisors_spec_k.In 2) then -(szOf (divisors_spec_k.In 0) (divisors_spec_k.In 1) + 1) else (divisors_spec_k.In 2)) = (divisors_spec_k.In 2) := if_neg (by omega)
    have e2 : (if szOf (divisors_spec_k.In 0) (divisors_spec_k.In 1) + 1 < (divisors_spec_k.In 2) then szOf (divisors_spec_k.In 0) (divisors_spec_k.In 1) + 1 else (divisors_spec_k.In 2)) = (divisors_spec_k.In 2) := if_neg (by omega)
    refine Stop.out ?_
    refine LCt.CompSrcT.range (n := 1) (by rfl) (by k_asm) (by k_asm) (by assumption) ?sm ?sz (by decide) ?_
    · rw [e1, e2]; exact small_one (by omega) (by omega) (by omega) (by omega)
    · rw [e1, e2, rangeSize_nat]; omega
    · intro g'
      rw [e1]
      refine restT_filter_range (fun k => k != 0) (by rfl) (by rfl) (by decide) ?turn ?fin
      · intro k t ys J oJ C oC D m₂ h tk E' hk hC hx F' N' off ne
        k_steps
        all_goals refine TestEnd.intro (by assumption) (by assumption) (by kcj_all) ?_
        rfl
      · intro ys hys
        have e : (rangeKs (divisors_spec_k.In 2) 1).filter (fun k => k != 0) = [(divisors_spec_k.In 2)] := by simp [rangeKs, hy]
        rw [e] at hys
        cases hys with
        | cons _ t h' =>
        cases h'
        k_steps
        exact hret _ _ _ _ _ (by assumption) (keep_of (by assumption) (by assumption) (by assumption) (by assumption) (by kcj_all)) (fresh_of (by assumption) (by assumption) (.head _) (AllNe.sub (allNe_off (by assumption)) (by kcj_all))) (cb_drop (by assumption) (by kcj_all))
theorem divisors_spec {self rg r0 r1 r2 : Addr} {a0 b0 y : Int} {t1 t2 t3 t4 : Tok} {n : Nat}
  (N : News h₀ L s.heap [(rg, W.listOf #[.ref r0, .ref r1, .ref r2] n), (r0, tup [.int a0 t1, .int b0 t2]), (r1, tup [.int y t3, .int y t4])]) (hy : y ≠ 0) (hyb : -1000 < y ∧ y < 1000)
  (hd1 : dp + 4 < recursionLimit) (hu1 : un + 40 < cLine)
  (hret : ∀ q n' t h' tk', Fr h₀ L h' m → InElt s.heap h' → Fresh s.heap q → News h₀ L h' [(q, W.listOf #[.int y t] n')] → Q (.ref q) { s with heap := h', toks := tk' }) :
  wpAny (model PySem.Challenge.rw_pc0044_01.row.prog w) (ktrTop dp un gd cn cs L a ccd cl0 outer) (call (.ref 380) [.ref self, .ref rg]) Q E s :=
  eps_all (P := divisors_spec_P) (k := divisors_spec_k) (by with_unfolding_all rfl) divisors_spec_core { w := w, mean := mean, mg := mg, mb := mb, dp := dp, un := un, gd := gd, cn := cn, cs := cs, a := a, ccd := ccd, cl0 := cl0, outer := outer, A₀ := A₀, base := base, h₀ := h₀, L := L, m := m, s := s, Q := Q, E := E, Bo := pick true [], Ad := pick 0 [self, rg, r0, r1, r2], In := pick 0 [a0, b0, y], Tk := pick 0 [t1, t2, t3, t4], Nt := pick 0 [n], Ar := pick #[] [], Ob := pick (tup []) [], Kv := pick [] [], Lv := pick [] [], Li := pick [] [], Lo := pick [] [], Hp := fun _ => h₀, Mp := fun _ => m, Vl := fun _ => ccd, Ov := fun _ => none, Cl := fun _ => [] } B F X T hk N hy hyb hd1 hu1 hret
end
local macro_rules | `(tactic| walk_at "call ref") => `(tactic| (ktr_call 380 0; k_dflt (refine' divisors_spec (by k_asm) (by k_asm) (by k_asm) (by k_asm) (by z_go) (by ktr_unf) (by k_data) (by k_data) (by ktr_room) (by ktr_units) ?_; lgec_go)))
section
def has_rest_spec_P (K9 : Ctx) : Prop :=
  (Below (K9.A₀) (K9.base) (K9.outer) (K9.h₀)) →
  (Fr (K9.h₀) (K9.L) (K9.s).heap (K9.m)) →
  ((kp.heap_1 (K9.w).params).In (K9.h₀)) →
  (TT (K9.mean) (K9.mg) (K9.mb) (K9.h₀)) →
  ((K9.cs).kind = .function) →
  (News (K9.h₀) (K9.L) (K9.s).heap [((K9.Ad 1), tup [.int (K9.In 0) (K9.Tk 0), .int (K9.In 1) (K9.Tk 1)])]) →
  (0 < (K9.In 2)) →
  ((K9.dp) + 2 < recursionLimit) →
  ((K9.un) + 20 < cLine) →
  (∀ h' tk', Fr (K9.h₀) (K9.L) h' (K9.m) → InElt (K9.s).heap h' → (K9.Q) (.bool (hasRest (K9.In 0) (K9.In 1) (K9.In 2) (K9.In 3))) { (K9.s) with heap := h', toks := tk' }) →
  wpAny (model PySem.Challenge.rw_pc0044_01.row.prog (K9.w)) (ktrTop (K9.dp) (K9.un) (K9.gd) (K9.cn) (K9.cs) (K9.L) (K9.a) (K9.ccd) (K9.cl0) (K9.outer)) (call (.ref 415) [.ref (K9.Ad 0), .ref (K9.Ad 1), .int (K9.In 2) (K9.Tk 2), .int (K9.In 3) (K9.Tk 3)]) (K9.Q) (K9.E) (K9.s)
@[irreducible] noncomputable def has_rest_spec_k : Ctx := @Classical.epsilon Ctx ctx_ne fun c => ¬ has_rest_spec_P c
omit B F X T hk in
theorem has_rest_spec_core : has_rest_spec_P has_rest_spec_k := by
  delta has_rest_spec_P
  intro B F X T hk N hm hd1 hu1 hret
  refine wpAny_call ?_
  k_dflt ktr_enter
  k_steps
  all_goals refine ret_bool hret ?_ (by assumption) (keep_of (by assumption) (by assumption) (by assumption) (by assumption) (by kcj_all))
  all_goals (unfold hasRest; simp only [*]; try rfl)
theorem has_rest_spec {self e : Addr} {lo hi many z : Int} {t1 t2 t3 t4 : Tok}
  (N : News h₀ L s.heap [(e, tup [.int lo t1, .int hi t2])]) (hm : 0 < many) (hd1 : dp + 2 < recursionLimit) (hu1 : un + 20 < cLine)
  (hret : ∀ h' tk', Fr h₀ L h' m → InElt s.heap h' → Q (.bool (hasRest lo hi many z)) { s with heap := h', toks := tk' }) :
  wpAny (model PySem.Challenge.rw_pc0044_01.row.prog w) (ktrTop dp un gd cn cs L a ccd cl0 outer) (call (.ref 415) [.ref self, .ref e, .int many t3, .int z t4]) Q E s :=
  eps_all (P := has_rest_spec_P) (k := has_rest_spec_k) (by with_unfolding_all rfl) has_rest_spec_core { w := w, mean := mean, mg := mg, mb := mb, dp := dp, un := un, gd := gd, cn := cn, cs := cs, a := a, ccd := ccd, cl0 := cl0, outer := outer, A₀ := A₀, base := base, h₀ := h₀, L := L, m := m, s := s, Q := Q, E := E, Bo := pick true [], Ad := pick 0 [self, e], In := pick 0 [lo, hi, many, z], Tk := pick 0 [t1, t2, t3, t4], Nt := pick 0 [], Ar := pick #[] [], Ob := pick (tup []) [], Kv := pick [] [], Lv := pick [] [], Li := pick [] [], Lo := pick [] [], Hp := fun _ => h₀, Mp := fun _ => m, Vl := fun _ => ccd, Ov := fun _ => none, Cl := fun _ => [] } B F X T hk N hm hd1 hu1 hret
end
local macro_rules | `(tactic| walk_at "call ref") => `(tactic| (ktr_call 415 0; k_dflt (refine' has_rest_spec (by k_asm) (by k_asm) (by k_asm) (by k_asm) (by z_go) (by ktr_unf) (by k_data) (by ktr_room) (by ktr_units) ?_; lge_go)))
section
def truncated_spec_P (K9 : Ctx) : Prop :=
  (Below (K9.A₀) (K9.base) (K9.outer) (K9.h₀)) →
  (Fr (K9.h₀) (K9.L) (K9.s).heap (K9.m)) →
  ((kp.heap_1 (K9.w).params).In (K9.h₀)) →
  (TT (K9.mean) (K9.mg) (K9.mb) (K9.h₀)) →
  ((K9.cs).kind = .function) →
  ((K9.In 1) ≠ 0) →
  (-1000 < (K9.In 0) ∧ (K9.In 0) < 1000) →
  (-1000 < (K9.In 1) ∧ (K9.In 1) < 1000) →
  ((K9.dp) + 2 < recursionLimit) →
  ((K9.un) + 20 < cLine) →
  (∀ t h' tk', Fr (K9.h₀) (K9.L) h' (K9.m) → InElt (K9.s).heap h' → (K9.Q) (.int (Int.tdiv (K9.In 0) (K9.In 1)) t) { (K9.s) with heap := h', toks := tk' }) →
  wpAny (model PySem.Challenge.rw_pc0044_01.row.prog (K9.w)) (ktrTop (K9.dp) (K9.un) (K9.gd) (K9.cn) (K9.cs) (K9.L) (K9.a) (K9.ccd) (K9.cl0) (K9.outer)) (call (.ref 297) [.int (K9.In 0) (K9.Tk 0), .int (K9.In 1) (K9.Tk 1)]) (K9.Q) (K9.E) (K9.s)
@[irreducible] noncomputable def truncated_spec_k : Ctx := @Classical.epsilon Ctx ctx_ne fun c => ¬ truncated_spec_P c
omit B F X T hk in
theorem truncated_spec_core : truncated_spec_P truncated_spec_k := by
  delta truncated_spec_P
  intro B F X T hk hy hvb hyb hd1 hu1 hret
  have N : News (truncated_spec_k.h₀) (truncated_spec_k.L) (truncated_spec_k.s).heap [] := News.nil
  have hT := tdiv_of (truncated_spec_k.In 0) (truncated_spec_k.In 1)
  refine wpAny_call ?_
  k_dflt ktr_enter
  k_steps
  all_goals refine ret_int hret ?_ (by assumption) (keep_of (by assumption) (by assumption) (by assumption) (by assumption) (by kcj_all))
  all_goals ((with_reducible rename _ = (_ : Bool) => hc); rw [hT, hc]; rfl)
theorem truncated_spec {v y : Int} {t1 t2 : Tok} (hy : y ≠ 0) (hvb : -1000 < v ∧ v < 1000) (hyb : -1000 < y ∧ y < 1000) (hd1 : dp + 2 < recursionLimit) (hu1 : un + 20 < cLine)
  (hret : ∀ t h' tk', Fr h₀ L h' m → InElt s.heap h' → Q (.int (Int.tdiv v y) t) { s with heap := h', toks := tk' }) :
  wpAny (model PySem.Challenge.rw_pc0044_01.row.prog w) (ktrTop dp un gd cn cs L a ccd cl0 outer) (call (.ref 297) [.int v t1, .int y t2]) Q E s :=
  eps_all (P := truncated_spec_P) (k := truncated_spec_k) (by with_unfolding_all rfl) truncated_spec_core { w := w, mean := mean, mg := mg, mb := mb, dp := dp, un := un, gd := gd, cn := cn, cs := cs, a := a, ccd := ccd, cl0 := cl0, outer := outer, A₀ := A₀, base := base, h₀ := h₀, L := L, m := m, s := s, Q := Q, E := E, Bo := pick true [], Ad := pick 0 [], In := pick 0 [v, y], Tk := pick 0 [t1, t2], Nt := pick 0 [], Ar := pick #[] [], Ob := pick (tup []) [], Kv := pick [] [], Lv := pick [] [], Li := pick [] [], Lo := pick [] [], Hp := fun _ => h₀, Mp := fun _ => m, Vl := fun _ => ccd, Ov := fun _ => none, Cl := fun _ => [] } B F X T hk hy hvb hyb hd1 hu1 hret
end
local macro_rules | `(tactic| walk_at "call ref") => `(tactic| (ktr_call 297 0; k_dflt (refine' truncated_spec (by k_asm) (by k_asm) (by k_asm) (by k_asm) (by z_go) (by k_data) (by omega) (by omega) (by ktr_room) (by ktr_units) ?_; lge_go)))
section
def can_be0_spec_P (K9 : Ctx) : Prop :=
  (Below (K9.A₀) (K9.base) (K9.outer) (K9.h₀)) →
  (Fr (K9.h₀) (K9.L) (K9.s).heap (K9.m)) →
  ((kp.heap_1 (K9.w).params).In (K9.h₀)) →
  (TT (K9.mean) (K9.mg) (K9.mb) (K9.h₀)) →
  ((K9.cs).kind = .function) →
  (News (K9.h₀) (K9.L) (K9.s).heap [((K9.Ad 0), W.instObj 437 (K9.Ad 1)), ((K9.Ad 1), remD (K9.w) (K9.Ad 2) (K9.Tk 8) (K9.Tk 9) (K9.Tk 10) (K9.Tk 11) (K9.Tk 12) (K9.Tk 13) (K9.Tk 14)), ((K9.Ad 3), W.listOf #[.ref (K9.Ad 4), .ref (K9.Ad 5), .ref (K9.Ad 6)] (K9.Nt 0)), ((K9.Ad 4), tup [.int (K9.In 0) (K9.Tk 0), .int (K9.In 1) (K9.Tk 1)]), ((K9.Ad 5), tup [.int (K9.In 2) (K9.Tk 2), .int (K9.In 2) (K9.Tk 3)]), ((K9.Ad 6), tup [.int (K9.In 3) (K9.Tk 4), .int (K9.In 4) (K9.Tk 5)])]) →
  ((K9.In 2) ≠ 0) →
  (-1000 < (K9.In 2) ∧ (K9.In 2) < 1000) →
  (-1000 < (K9.In 5) ∧ (K9.In 5) < 1000) →
  ((K9.dp) + 6 < recursionLimit) →
  ((K9.un) + 200 < cLine) →
  (∀ h' tk', Fr (K9.h₀) (K9.L) h' (K9.m) → InElt (K9.s).heap h' → (K9.Q) (.bool (decide ((K9.In 3) ≤ Int.tmod (K9.In 5) (K9.In 2) ∧ Int.tmod (K9.In 5) (K9.In 2) ≤ (K9.In 4)))) { (K9.s) with heap := h', toks := tk' }) →
  wpAny (model PySem.Challenge.rw_pc0044_01.row.prog (K9.w)) (ktrTop (K9.dp) (K9.un) (K9.gd) (K9.cn) (K9.cs) (K9.L) (K9.a) (K9.ccd) (K9.cl0) (K9.outer)) (call (.ref 420) [.ref (K9.Ad 0), .ref (K9.Ad 3), .int 0 (K9.Tk 6), .int (K9.In 5) (K9.Tk 7)]) (K9.Q) (K9.E) (K9.s)
@[irreducible] noncomputable def can_be0_spec_k : Ctx := @Classical.epsilon Ctx ctx_ne fun c => ¬ can_be0_spec_P c
omit B F X T hk in
theorem can_be0_spec_core : can_be0_spec_P can_be0_spec_k := by
  delta can_be0_spec_P
  intro B F X T hk N hy hyb hvb hd1 hu1 hret
  refine wpAny_call ?_
  k_dflt ktr_enter
  k_steps
  all_goals refine ret_bool hret ?_ (by assumption) (keep_of (by assumption) (by assumption) (by assumption) (by assumption) (by kcj_all))
  all_goals rw [Int.tmod_def]
  · symm; simp only [reduceCtorEq, decide_false, Bool.not_false, decide_eq_true_eq]; omega
  · symm; simp only [decide_eq_false_iff_not]; omega
  · symm; simp only [decide_eq_false_iff_not]; omega
theorem can_be0_spec {self sd sc rg r0 r1 r2 : Addr} {a0 b0 y c d v : Int} {t1 t2 t3 t4 t5 t6 t7 t8 u1 u2 u3 u4 u5 u6 u7 : Tok} {n : Nat}
  (N : News h₀ L s.heap [(self, W.instObj 437 sd), (sd, remD w sc u1 u2 u3 u4 u5 u6 u7), (rg, W.listOf #[.ref r0, .ref r1, .ref r2] n), (r0, tup [.int a0 t1, .int b0 t2]), (r1, tup [.int y t3, .int y t4]), (r2, tup [.int c t5, .int d t6])])
  (hy : y ≠ 0) (hyb : -1000 < y ∧ y < 1000) (hvb : -1000 < v ∧ v < 1000)
  (hd1 : dp + 6 < recursionLimit) (hu1 : un + 200 < cLine)
  (hret : ∀ h' tk', Fr h₀ L h' m → InElt s.heap h' → Q (.bool (decide (c ≤ Int.tmod v y ∧ Int.tmod v y ≤ d))) { s with heap := h', toks := tk' }) :
  wpAny (model PySem.Challenge.rw_pc0044_01.row.prog w) (ktrTop dp un gd cn cs L a ccd cl0 outer) (call (.ref 420) [.ref self, .ref rg, .int 0 t7, .int v t8]) Q E s :=
  eps_all (P := can_be0_spec_P) (k := can_be0_spec_k) (by with_unfolding_all rfl) can_be0_spec_core { w := w, mean := mean, mg := mg, mb := mb, dp := dp, un := un, gd := gd, cn := cn, cs := cs, a := a, ccd := ccd, cl0 := cl0, outer := outer, A₀ := A₀, base := base, h₀ := h₀, L := L, m := m, s := s, Q := Q, E := E, Bo := pick true [], Ad := pick 0 [self, sd, sc, rg, r0, r1, r2], In := pick 0 [a0, b0, y, c, d, v], Tk := pick 0 [t1, t2, t3, t4, t5, t6, t7, t8, u1, u2, u3, u4, u5, u6, u7], Nt := pick 0 [n], Ar := pick #[] [], Ob := pick (tup []) [], Kv := pick [] [], Lv := pick [] [], Li := pick [] [], Lo := pick [] [], Hp := fun _ => h₀, Mp := fun _ => m, Vl := fun _ => ccd, Ov := fun _ => none, Cl := fun _ => [] } B F X T hk N hy hyb hvb hd1 hu1 hret
end
section
def can_be2_spec_P (K9 : Ctx) : Prop :=
  (Below (K9.A₀) (K9.base) (K9.outer) (K9.h₀)) →
  (Fr (K9.h₀) (K9.L) (K9.s).heap (K9.m)) →
  ((kp.heap_1 (K9.w).params).In (K9.h₀)) →
  (TT (K9.mean) (K9.mg) (K9.mb) (K9.h₀)) →
  ((K9.cs).kind = .function) →
  (News (K9.h₀) (K9.L) (K9.s).heap [((K9.Ad 0), W.instObj 437 (K9.Ad 1)), ((K9.Ad 1), remD (K9.w) (K9.Ad 2) (K9.Tk 6) (K9.Tk 7) (K9.Tk 8) (K9.Tk 9) (K9.Tk 10) (K9.Tk 11) (K9.Tk 12)), ((K9.Ad 3), W.listOf #[.ref (K9.Ad 4), .ref (K9.Ad 5), .ref (K9.Ad 6)] (K9.Nt 0)), ((K9.Ad 4), tup [.int (K9.In 0) (K9.Tk 0), .int (K9.In 1) (K9.Tk 1)]), ((K9.Ad 5), tup [.int (K9.In 2) (K9.Tk 2), .int (K9.In 2) (K9.Tk 3)])]) →
  ((K9.In 2) ≠ 0) →
  (-1000 < (K9.In 2) ∧ (K9.In 2) < 1000) →
  ((K9.dp) + 6 < recursionLimit) →
  ((K9.un) + 200 < cLine) →
  (∀ h' tk', Fr (K9.h₀) (K9.L) h' (K9.m) → InElt (K9.s).heap h' → (K9.Q) (.bool (canBe2 (K9.In 0) (K9.In 1) (K9.In 2) (K9.In 3))) { (K9.s) with heap := h', toks := tk' }) →
  wpAny (model PySem.Challenge.rw_pc0044_01.row.prog (K9.w)) (ktrTop (K9.dp) (K9.un) (K9.gd) (K9.cn) (K9.cs) (K9.L) (K9.a) (K9.ccd) (K9.cl0) (K9.outer)) (call (.ref 420) [.ref (K9.Ad 0), .ref (K9.Ad 3), .int 2 (K9.Tk 4), .int (K9.In 3) (K9.Tk 5)]) (K9.Q) (K9.E) (K9.s)
@[irreducible] noncomputable def can_be2_spec_k : Ctx := @Classical.epsilon Ctx ctx_ne fun c => ¬ can_be2_spec_P c
omit B F X T hk in
theorem can_be2_spec_core : can_be2_spec_P can_be2_spec_k := by
  delta can_be2_spec_P
  intro B F X T hk N hy hyb hd1 hu1 hret
  have hya : 0 < (if (can_be2_spec_k.In 2) < 0 then -(can_be2_spec_k.In 2) else (can_be2_spec_k.In 2)) := by split <;> omega
  have ey : (if (can_be2_spec_k.In 2) < 0 then -(can_be2_spec_k.In 2) else (can_be2_spec_k.In 2)) = ((can_be2_spec_k.In 2).natAbs : Int) := by split <;> omega
  have ev : (if (can_be2_spec_k.In 3) < 0 then -(can_be2_spec_k.In 3) else (can_be2_spec_k.In 3)) = ((can_be2_spec_k.In 3).natAbs : Int) := by split <;> omega
  refine wpAny_call ?_
  k_dflt ktr_enter
  k_steps
  all_goals refine ret_bool hret ?_ (by assumption) (keep_of (by assumption) (by assumption) (by assumption) (by assumption) (by kcj_all))
  all_goals (unfold canBe2; rw [← ey, ← ev])
  · have q1 : hasRest (can_be2_spec_k.In 0) (can_be2_spec_k.In 1) (if (can_be2_spec_k.In 2) < 0 then -(can_be2_spec_k.In 2) else (can_be2_spec_k.In 2)) (can_be2_spec_k.In 3) = true := by assumption
    have q2 : (if (can_be2_spec_k.In 3) < 0 then -(can_be2_spec_k.In 3) else (can_be2_spec_k.In 3)) < (if (can_be2_spec_k.In 2) < 0 then -(can_be2_spec_k.In 2) else (can_be2_spec_k.In 2)) := by assumption
    rw [q1, decide_eq_true q2]; rfl
  · have q1 : hasRest (can_be2_spec_k.In 0) (can_be2_spec_k.In 1) (if (can_be2_spec_k.In 2) < 0 then -(can_be2_spec_k.In 2) else (can_be2_spec_k.In 2)) (can_be2_spec_k.In 3) = false := by assumption
    rw [q1, Bool.and_false]
  · have q2 : ¬ (if (can_be2_spec_k.In 3) < 0 then -(can_be2_spec_k.In 3) else (can_be2_spec_k.In 3)) < (if (can_be2_spec_k.In 2) < 0 then -(can_be2_spec_k.In 2) else (can_be2_spec_k.In 2)) := by assumption
    rw [decide_eq_false q2]; rfl
theorem can_be2_spec {self sd sc rg r0 r1 r2 : Addr} {a0 b0 y v : Int} {t1 t2 t3 t4 t7 t8 u1 u2 u3 u4 u5 u6 u7 : Tok} {n : Nat}
  (N : News h₀ L s.heap [(self, W.instObj 437 sd), (sd, remD w sc u1 u2 u3 u4 u5 u6 u7), (rg, W.listOf #[.ref r0, .ref r1, .ref r2] n), (r0, tup [.int a0 t1, .int b0 t2]), (r1, tup [.int y t3, .int y t4])])
  (hy : y ≠ 0) (hyb : -1000 < y ∧ y < 1000)
  (hd1 : dp + 6 < recursionLimit) (hu1 : un + 200 < cLine)
  (hret : ∀ h' tk', Fr h₀ L h' m → InElt s.heap h' → Q (.bool (canBe2 a0 b0 y v)) { s with heap := h', toks := tk' }) :
  wpAny (model PySem.Challenge.rw_pc0044_01.row.prog w) (ktrTop dp un gd cn cs L a ccd cl0 outer) (call (.ref 420) [.ref self, .ref rg, .int 2 t7, .int v t8]) Q E s :=
  eps_all (P := can_be2_spec_P) (k := can_be2_spec_k) (by with_unfolding_all rfl) can_be2_spec_core { w := w, mean := mean, mg := mg, mb := mb, dp := dp, un := un, gd := gd, cn := cn, cs := cs, a := a, ccd := ccd, cl0 := cl0, outer := outer, A₀ := A₀, base := base, h₀ := h₀, L := L, m := m, s := s, Q := Q, E := E, Bo := pick true [], Ad := pick 0 [self, sd, sc, rg, r0, r1, r2], In := pick 0 [a0, b0, y, v], Tk := pick 0 [t1, t2, t3, t4, t7, t8, u1, u2, u3, u4, u5, u6, u7], Nt := pick 0 [n], Ar := pick #[] [], Ob := pick (tup []) [], Kv := pick [] [], Lv := pick [] [], Li := pick [] [], Lo := pick [] [], Hp := fun _ => h₀, Mp := fun _ => m, Vl := fun _ => ccd, Ov := fun _ => none, Cl := fun _ => [] } B F X T hk N hy hyb hd1 hu1 hret
end
section
def can_be1_spec_P (K9 : Ctx) : Prop :=
  (Below (K9.A₀) (K9.base) (K9.outer) (K9.h₀)) →
  (Fr (K9.h₀) (K9.L) (K9.s).heap (K9.m)) →
  ((kp.heap_1 (K9.w).params).In (K9.h₀)) →
  (TT (K9.mean) (K9.mg) (K9.mb) (K9.h₀)) →
  ((K9.cs).kind = .function) →
  (News (K9.h₀) (K9.L) (K9.s).heap [((K9.Ad 0), W.instObj 437 (K9.Ad 1)), ((K9.Ad 1), remD (K9.w) (K9.Ad 2) (K9.Tk 8) (K9.Tk 9) (K9.Tk 10) (K9.Tk 11) (K9.Tk 12) (K9.Tk 13) (K9.Tk 14)), ((K9.Ad 3), W.listOf #[.ref (K9.Ad 4), .ref (K9.Ad 5), .ref (K9.Ad 6)] (K9.Nt 0)), ((K9.Ad 4), tup [.int (K9.In 0) (K9.Tk 0), .int (K9.In 1) (K9.Tk 1)]), ((K9.Ad 5), tup [.int (K9.In 2) (K9.Tk 2), .int (K9.In 2) (K9.Tk 3)]), ((K9.Ad 6), tup [.int (K9.In 3) (K9.Tk 4), .int (K9.In 4) (K9.Tk 5)])]) →
  ((K9.In 5) ≠ 0) →
  (-1000 < (K9.In 5) ∧ (K9.In 5) < 1000) →
  (-1000 < (K9.In 0) ∧ (K9.In 0) < 1000 ∧ -1000 < (K9.In 1) ∧ (K9.In 1) < 1000) →
  (-1000 < (K9.In 3) ∧ (K9.In 3) < 1000 ∧ -1000 < (K9.In 4) ∧ (K9.In 4) < 1000) →
  ((K9.dp) + 6 < recursionLimit) →
  ((K9.un) + 200 < cLine) →
  (∀ h' tk', Fr (K9.h₀) (K9.L) h' (K9.m) → InElt (K9.s).heap h' → (K9.Q) (.bool (canBe1 (K9.In 0) (K9.In 1) (K9.In 3) (K9.In 4) (K9.In 5))) { (K9.s) with heap := h', toks := tk' }) →
  wpAny (model PySem.Challenge.rw_pc0044_01.row.prog (K9.w)) (ktrTop (K9.dp) (K9.un) (K9.gd) (K9.cn) (K9.cs) (K9.L) (K9.a) (K9.ccd) (K9.cl0) (K9.outer)) (call (.ref 420) [.ref (K9.Ad 0), .ref (K9.Ad 3), .int 1 (K9.Tk 6), .int (K9.In 5) (K9.Tk 7)]) (K9.Q) (K9.E) (K9.s)
@[irreducible] noncomputable def can_be1_spec_k : Ctx := @Classical.epsilon Ctx ctx_ne fun c => ¬ can_be1_spec_P c
omit B F X T hk in
theorem can_be1_spec_core : can_be1_spec_P can_be1_spec_k := by
  delta can_be1_spec_P
  intro B F X T hk N hv hvb hab hcd hd1 hu1 hret
  have hva : 0 < (if (can_be1_spec_k.In 5) < 0 then -(can_be1_spec_k.In 5) else (can_be1_spec_k.In 5)) := by split <;> omega
  have ev : (if (can_be1_spec_k.In 5) < 0 then -(can_be1_spec_k.In 5) else (can_be1_spec_k.In 5)) = ((can_be1_spec_k.In 5).natAbs : Int) := by split <;> omega
  have ea : (if 0 < (can_be1_spec_k.In 0) then 0 else (can_be1_spec_k.In 0)) = min (can_be1_spec_k.In 0) 0 := by split <;> omega
  have eb : (if 0 > (can_be1_spec_k.In 1) then 0 else (can_be1_spec_k.In 1)) = max (can_be1_spec_k.In 1) 0 := by split <;> omega
  have e1 : max (can_be1_spec_k.In 3) (max (1 - (if (can_be1_spec_k.In 5) < 0 then -(can_be1_spec_k.In 5) else (can_be1_spec_k.In 5))) (if 0 < (can_be1_spec_k.In 0) then 0 else (can_be1_spec_k.In 0))) = lo1 (can_be1_spec_k.In 0) (can_be1_spec_k.In 3) (can_be1_spec_k.In 5) := by rw [ev, ea]; rfl
  have e2 : min (can_be1_spec_k.In 4) (min ((if (can_be1_spec_k.In 5) < 0 then -(can_be1_spec_k.In 5) else (can_be1_spec_k.In 5)) - 1) (if 0 > (can_be1_spec_k.In 1) then 0 else (can_be1_spec_k.In 1))) = hi1 (can_be1_spec_k.In 1) (can_be1_spec_k.In 4) (can_be1_spec_k.In 5) := by rw [ev, eb]; rfl
  have hl1 : -2000 < lo1 (can_be1_spec_k.In 0) (can_be1_spec_k.In 3) (can_be1_spec_k.In 5) ∧ lo1 (can_be1_spec_k.In 0) (can_be1_spec_k.In 3) (can_be1_spec_k.In 5) < 2000 := by unfold lo1; omega
  have hh1 : -2000 < hi1 (can_be1_spec_k.In 1) (can_be1_spec_k.In 4) (can_be1_spec_k.In 5) ∧ hi1 (can_be1_spec_k.In 1) (can_be1_spec_k.In 4) (can_be1_spec_k.In 5) < 2000 := by unfold hi1; omega
  refine wpAny_call ?_
  k_dflt ktr_enter
  k_steps
  refine Stop.out ?_
  refine LCt.CompSrcT.range (by rfl) (by k_asm) (by k_asm) (by assumption) ?sm (rangeSize_nat _ _) ?sz ?_
  · rw [e1, e2]; exact small_one (by omega) (by omega) (by omega) (by omega)
  · rw [e1, e2, PySem.sizeLine_eq]; omega
  · intro g'
    rw [e1, e2]
    refine restT_filter_range (hasRest (can_be1_spec_k.In 0) (can_be1_spec_k.In 1) (if (can_be1_spec_k.In 5) < 0 then -(can_be1_spec_k.In 5) else (can_be1_spec_k.In 5))) (by rfl) (by rfl) (by decide) ?turn ?fin
    · intro k t ys J oJ C oC D m₂ h tk E' hk hC hx F' N' off ne
      k_steps
      all_goals refine TestEnd.intro (by assumption) (by assumption) (by kcj_all) ?_
      rfl
    · intro ys hys
      k_steps
      refine ret_bool hret ?_ (by assumption) (keep_of (by assumption) (by assumption) (by assumption) (by assumption) (by kcj_all))
      rw [any_of_filter, ev]; rfl
theorem can_be1_spec {self sd sc rg r0 r1 r2 : Addr} {a0 b0 y c d v : Int} {t1 t2 t3 t4 t5 t6 t7 t8 u1 u2 u3 u4 u5 u6 u7 : Tok} {n : Nat}
  (N : News h₀ L s.heap [(self, W.instObj 437 sd), (sd, remD w sc u1 u2 u3 u4 u5 u6 u7), (rg, W.listOf #[.ref r0, .ref r1, .ref r2] n), (r0, tup [.int a0 t1, .int b0 t2]), (r1, tup [.int y t3, .int y t4]), (r2, tup [.int c t5, .int d t6])])
  (hv : v ≠ 0) (hvb : -1000 < v ∧ v < 1000) (hab : -1000 < a0 ∧ a0 < 1000 ∧ -1000 < b0 ∧ b0 < 1000) (hcd : -1000 < c ∧ c < 1000 ∧ -1000 < d ∧ d < 1000)
  (hd1 : dp + 6 < recursionLimit) (hu1 : un + 200 < cLine)
  (hret : ∀ h' tk', Fr h₀ L h' m → InElt s.heap h' → Q (.bool (canBe1 a0 b0 c d v)) { s with heap := h', toks := tk' }) :
  wpAny (model PySem.Challenge.rw_pc0044_01.row.prog w) (ktrTop dp un gd cn cs L a ccd cl0 outer) (call (.ref 420) [.ref self, .ref rg, .int 1 t7, .int v t8]) Q E s :=
  eps_all (P := can_be1_spec_P) (k := can_be1_spec_k) (by with_unfolding_all rfl) can_be1_spec_core { w := w, mean := mean, mg := mg, mb := mb, dp := dp, un := un, gd := gd, cn := cn, cs := cs, a := a, ccd := ccd, cl0 := cl0, outer := outer, A₀ := A₀, base := base, h₀ := h₀, L := L, m := m, s := s, Q := Q, E := E, Bo := pick true [], Ad := pick 0 [self, sd, sc, rg, r0, r1, r2], In := pick 0 [a0, b0, y, c, d, v], Tk := pick 0 [t1, t2, t3, t4, t5, t6, t7, t8, u1, u2, u3, u4, u5, u6, u7], Nt := pick 0 [n], Ar := pick #[] [], Ob := pick (tup []) [], Kv := pick [] [], Lv := pick [] [], Li := pick [] [], Lo := pick [] [], Hp := fun _ => h₀, Mp := fun _ => m, Vl := fun _ => ccd, Ov := fun _ => none, Cl := fun _ => [] } B F X T hk N hv hvb hab hcd hd1 hu1 hret
end
section
-- PLAIN
theorem can_be_spec {self sd sc rg r0 r1 r2 : Addr} {a0 b0 y c d v j : Int} {t1 t2 t3 t4 t5 t6 t7 t8 u1 u2 u3 u4 u5 u6 u7 : Tok} {n : Nat}
  (N : News h₀ L s.heap [(self, W.instObj 437 sd), (sd, remD w sc u1 u2 u3 u4 u5 u6 u7), (rg, W.listOf #[.ref r0, .ref r1, .ref r2] n), (r0, tup [.int a0 t1, .int b0 t2]), (r1, tup [.int y t3, .int y t4]), (r2, tup [.int c t5, .int d t6])])
  (hj : 0 ≤ j ∧ j ≤ 2) (hy : y ≠ 0) (hyb : -1000 < y ∧ y < 1000) (hv : j = 1 → v ≠ 0) (hvb : -1000 < v ∧ v < 1000) (hab : -1000 < a0 ∧ a0 ≤ b0 ∧ b0 < 1000) (hcd : -1000 < c ∧ c ≤ d ∧ d < 1000)
  (hd1 : dp + 6 < recursionLimit) (hu1 : un + 200 < cLine)
  (hret : ∀ h' tk', Fr h₀ L h' m → InElt s.heap h' → Q (.bool (cbAt j a0 b0 y c d v)) { s with heap := h', toks := tk' }) :
  wpAny (model PySem.Challenge.rw_pc0044_01.row.prog w) (ktrTop dp un gd cn cs L a ccd cl0 outer) (call (.ref 420) [.ref self, .ref rg, .int j t7, .int v t8]) Q E s := by
  have h3 : j = 0 ∨ j = 1 ∨ j = 2 := by omega
  rcases h3 with rfl | rfl | rfl
  · exact can_be0_spec B F X T hk N hy hyb hvb hd1 hu1 hret
  · exact can_be1_spec B F X T hk N (hv rfl) hvb (by omega) (by omega) hd1 hu1 hret
  · exact can_be2_spec B F X T hk (cb_drop N (by kcj_all)) hy hyb hd1 hu1 hret
end
local macro_rules | `(tactic| walk_at "call ref") => `(tactic| (ktr_call 420 0; k_dflt (refine' can_be_spec (by k_asm) (by k_asm) (by k_asm) (by k_asm) (by z_go) (by ktr_unf) (by assumption) (by assumption) (by assumption) (by first | assumption | exact mp9 (by assumption) (by assumption)) (by first | assumption | exact mp9 (by assumption) (by assumption)) (by assumption) (by assumption) (by ktr_room) (by ktr_units) ?_; lge_go)))
section
def from_on_spec_P (K9 : Ctx) : Prop :=
  (Below (K9.A₀) (K9.base) (K9.outer) (K9.h₀)) →
  (Fr (K9.h₀) (K9.L) (K9.s).heap (K9.m)) →
  ((kp.heap_1 (K9.w).params).In (K9.h₀)) →
  (TT (K9.mean) (K9.mg) (K9.mb) (K9.h₀)) →
  ((K9.cs).kind = .function) →
  (News (K9.h₀) (K9.L) (K9.s).heap [((K9.Ad 0), tup [.ref (K9.Ad 1)]), ((K9.Ad 1), tup [.int (K9.In 0) (K9.Tk 0), .int (K9.In 1) (K9.Tk 1)])]) →
  ((K9.dp) + 4 < recursionLimit) →
  ((K9.un) + 100 < cLine) →
  (∀ q p' t t' h' tk', Fr (K9.h₀) (K9.L) h' (K9.m) → InElt (K9.s).heap h' → (K9.In 2) ≤ (K9.In 1) → Fresh (K9.s).heap q → Fresh (K9.s).heap p' → News (K9.h₀) (K9.L) h' [(q, tup [.ref p']), (p', tup [.int (max (K9.In 0) (K9.In 2)) t, .int (K9.In 1) t'])] → (K9.Q) (.ref q) { (K9.s) with heap := h', toks := tk' }) →
  (∀ q h' tk', Fr (K9.h₀) (K9.L) h' (K9.m) → InElt (K9.s).heap h' → (K9.In 1) < (K9.In 2) → Fresh (K9.s).heap q → News (K9.h₀) (K9.L) h' [(q, tup [])] → (K9.Q) (.ref q) { (K9.s) with heap := h', toks := tk' }) →
  wpAny (model PySem.Challenge.rw_pc0044_01.row.prog (K9.w)) (ktrTop (K9.dp) (K9.un) (K9.gd) (K9.cn) (K9.cs) (K9.L) (K9.a) (K9.ccd) (K9.cl0) (K9.outer)) (call (.ref 59) [.ref (K9.Ad 0), .int (K9.In 2) (K9.Tk 2)]) (K9.Q) (K9.E) (K9.s)
@[irreducible] noncomputable def from_on_spec_k : Ctx := @Classical.epsilon Ctx ctx_ne fun c => ¬ from_on_spec_P c
omit B F X T hk in
theorem from_on_spec_core : from_on_spec_P from_on_spec_k := by
  delta from_on_spec_P
  intro B F X T hk N hd1 hu1 hret hnil
  refine wpAny_call ?_
  k_dflt ktr_enter
  k_steps
  · (with_reducible rename News _ _ _ _ => kN)
    have e : (if (from_on_spec_k.In 2) > (from_on_spec_k.In 0) then (from_on_spec_k.In 2) else (from_on_spec_k.In 0)) = max (from_on_spec_k.In 0) (from_on_spec_k.In 2) := by split <;> omega
    exact hret _ _ _ _ _ _ (by assumption) (keep_of (by assumption) (by assumption) (by assumption) (by assumption) (by kcj_all)) (by assumption) (fresh_of (by assumption) (by assumption) (.head _) (AllNe.sub (allNe_lt (by assumption)) (by kcj_all)))
      (fresh_of (by assumption) (by assumption) (.tail _ (.tail _ (.head _))) (AllNe.sub (allNe_lt (by assumption)) (by kcj_all))) (e ▸ news_13 kN)
  · (with_reducible rename News _ _ _ _ => kN)
    exact hnil _ _ _ (by assumption) (keep_of (by assumption) (by assumption) (by assumption) (by assumption) (by kcj_all)) (by omega) (fresh_of (by assumption) (by assumption) (.head _) (AllNe.sub (allNe_lt (by assumption)) (by kcj_all))) (news_1 kN)
theorem from_on_spec {d p : Addr} {lo hi k : Int} {t1 t2 t3 : Tok}
  (N : News h₀ L s.heap [(d, tup [.ref p]), (p, tup [.int lo t1, .int hi t2])])
  (hd1 : dp + 4 < recursionLimit) (hu1 : un + 100 < cLine)
  (hret : ∀ q p' t t' h' tk', Fr h₀ L h' m → InElt s.heap h' → k ≤ hi → Fresh s.heap q → Fresh s.heap p' → News h₀ L h' [(q, tup [.ref p']), (p', tup [.int (max lo k) t, .int hi t'])] → Q (.ref q) { s with heap := h', toks := tk' })
  (hnil : ∀ q h' tk', Fr h₀ L h' m → InElt s.heap h' → hi < k → Fresh s.heap q → News h₀ L h' [(q, tup [])] → Q (.ref q) { s with heap := h', toks := tk' }) :
  wpAny (model PySem.Challenge.rw_pc0044_01.row.prog w) (ktrTop dp un gd cn cs L a ccd cl0 outer) (call (.ref 59) [.ref d, .int k t3]) Q E s :=
  eps_all (P := from_on_spec_P) (k := from_on_spec_k) (by with_unfolding_all rfl) from_on_spec_core { w := w, mean := mean, mg := mg, mb := mb, dp := dp, un := un, gd := gd, cn := cn, cs := cs, a := a, ccd := ccd, cl0 := cl0, outer := outer, A₀ := A₀, base := base, h₀ := h₀, L := L, m := m, s := s, Q := Q, E := E, Bo := pick true [], Ad := pick 0 [d, p], In := pick 0 [lo, hi, k], Tk := pick 0 [t1, t2, t3], Nt := pick 0 [], Ar := pick #[] [], Ob := pick (tup []) [], Kv := pick [] [], Lv := pick [] [], Li := pick [] [], Lo := pick [] [], Hp := fun _ => h₀, Mp := fun _ => m, Vl := fun _ => ccd, Ov := fun _ => none, Cl := fun _ => [] } B F X T hk N hd1 hu1 hret hnil
end
local macro_rules | `(tactic| walk_at "call ref") => `(tactic| (ktr_call 59 0; k_dflt (refine' from_on_spec (by k_asm) (by k_asm) (by k_asm) (by k_asm) (by z_go) (by ktr_unf) (by ktr_room) (by ktr_units) ?r1 ?r2; (case' r1 => (open_k0)); (case' r2 => (lgec_go)))))
section
def up_to_spec_P (K9 : Ctx) : Prop :=
  (Below (K9.A₀) (K9.base) (K9.outer) (K9.h₀)) →
  (Fr (K9.h₀) (K9.L) (K9.s).heap (K9.m)) →
  ((kp.heap_1 (K9.w).params).In (K9.h₀)) →
  (TT (K9.mean) (K9.mg) (K9.mb) (K9.h₀)) →
  ((K9.cs).kind = .function) →
  (News (K9.h₀) (K9.L) (K9.s).heap [((K9.Ad 0), tup [.ref (K9.Ad 1)]), ((K9.Ad 1), tup [.int (K9.In 0) (K9.Tk 0), .int (K9.In 1) (K9.Tk 1)])]) →
  ((K9.dp) + 4 < recursionLimit) →
  ((K9.un) + 100 < cLine) →
  (∀ q p' t t' h' tk', Fr (K9.h₀) (K9.L) h' (K9.m) → InElt (K9.s).heap h' → (K9.In 0) ≤ (K9.In 2) → Fresh (K9.s).heap q → Fresh (K9.s).heap p' → News (K9.h₀) (K9.L) h' [(q, tup [.ref p']), (p', tup [.int (K9.In 0) t, .int (min (K9.In 1) (K9.In 2)) t'])] → (K9.Q) (.ref q) { (K9.s) with heap := h', toks := tk' }) →
  (∀ q h' tk', Fr (K9.h₀) (K9.L) h' (K9.m) → InElt (K9.s).heap h' → (K9.In 2) < (K9.In 0) → Fresh (K9.s).heap q → News (K9.h₀) (K9.L) h' [(q, tup [])] → (K9.Q) (.ref q) { (K9.s) with heap := h', toks := tk' }) →
  wpAny (model PySem.Challenge.rw_pc0044_01.row.prog (K9.w)) (ktrTop (K9.dp) (K9.un) (K9.gd) (K9.cn) (K9.cs) (K9.L) (K9.a) (K9.ccd) (K9.cl0) (K9.outer)) (call (.ref 54) [.ref (K9.Ad 0), .int (K9.In 2) (K9.Tk 2)]) (K9.Q) (K9.E) (K9.s)
@[irreducible] noncomputable def up_to_spec_k : Ctx := @Classical.epsilon Ctx ctx_ne fun c => ¬ up_to_spec_P c
omit B F X T hk in
theorem up_to_spec_core : up_to_spec_P up_to_spec_k := by
  delta up_to_spec_P
  intro B F X T hk N hd1 hu1 hret hnil
  refine wpAny_call ?_
  k_dflt ktr_enter
  k_steps
  · (with_reducible rename News _ _ _ _ => kN)
    have e : (if (up_to_spec_k.In 2) < (up_to_spec_k.In 1) then (up_to_spec_k.In 2) else (up_to_spec_k.In 1)) = min (up_to_spec_k.In 1) (up_to_spec_k.In 2) := by split <;> omega
    exact hret _ _ _ _ _ _ (by assumption) (keep_of (by assumption) (by assumption) (by assumption) (by assumption) (by kcj_all)) (by assumption) (fresh_of (by assumption) (by assumption) (.head _) (AllNe.sub (allNe_lt (by assumption)) (by kcj_all)))
      (fresh_of (by assumption) (by assumption) (.tail _ (.tail _ (.head _))) (AllNe.sub (allNe_lt (by assumption)) (by kcj_all))) (e ▸ news_13 kN)
  · (with_reducible rename News _ _ _ _ => kN)
    exact hnil _ _ _ (by assumption) (keep_of (by assumption) (by assumption) (by assumption) (by assumption) (by kcj_all)) (by omega) (fresh_of (by assumption) (by assumption) (.head _) (AllNe.sub (allNe_lt (by assumption)) (by kcj_all))) (news_1 kN)
theorem up_to_spec {d p : Addr} {lo hi k : Int} {t1 t2 t3 : Tok}
  (N : News h₀ L s.heap [(d, tup [.ref p]), (p, tup [.int lo t1, .int hi t2])])
  (hd1 : dp + 4 < recursionLimit) (hu1 : un + 100 < cLine)
  (hret : ∀ q p' t t' h' tk', Fr h₀ L h' m → InElt s.heap h' → lo ≤ k → Fresh s.heap q → Fresh s.heap p' → News h₀ L h' [(q, tup [.ref p']), (p', tup [.int lo t, .int (min hi k) t'])] → Q (.ref q) { s with heap := h', toks := tk' })
  (hnil : ∀ q h' tk', Fr h₀ L h' m → InElt s.heap h' → k < lo → Fresh s.heap q → News h₀ L h' [(q, tup [])] → Q (.ref q) { s with heap := h', toks := tk' }) :
  wpAny (model PySem.Challenge.rw_pc0044_01.row.prog w) (ktrTop dp un gd cn cs L a ccd cl0 outer) (call (.ref 54) [.ref d, .int k t3]) Q E s :=
  eps_all (P := up_to_spec_P) (k := up_to_spec_k) (by with_unfolding_all rfl) up_to_spec_core { w := w, mean := mean, mg := mg, mb := mb, dp := dp, un := un, gd := gd, cn := cn, cs := cs, a := a, ccd := ccd, cl0 := cl0, outer := outer, A₀ := A₀, base := base, h₀ := h₀, L := L, m := m, s := s, Q := Q, E := E, Bo := pick true [], Ad := pick 0 [d, p], In := pick 0 [lo, hi, k], Tk := pick 0 [t1, t2, t3], Nt := pick 0 [], Ar := pick #[] [], Ob := pick (tup []) [], Kv := pick [] [], Lv := pick [] [], Li := pick [] [], Lo := pick [] [], Hp := fun _ => h₀, Mp := fun _ => m, Vl := fun _ => ccd, Ov := fun _ => none, Cl := fun _ => [] } B F X T hk N hd1 hu1 hret hnil
end
local macro_rules | `(tactic| walk_at "call ref") => `(tactic| (ktr_call 54 0; k_dflt (refine' up_to_spec (by k_asm) (by k_asm) (by k_asm) (by k_asm) (by z_go) (by ktr_unf) (by ktr_room) (by ktr_units) ?r1 ?r2; (case' r1 => (open_k0)); (case' r2 => (lgec_go)))))
section
def outer2_spec_P (K9 : Ctx) : Prop :=
  (Below (K9.A₀) (K9.base) (K9.outer) (K9.h₀)) →
  (Fr (K9.h₀) (K9.L) (K9.s).heap (K9.m)) →
  ((kp.heap_1 (K9.w).params).In (K9.h₀)) →
  (TT (K9.mean) (K9.mg) (K9.mb) (K9.h₀)) →
  ((K9.cs).kind = .function) →
  (News (K9.h₀) (K9.L) (K9.s).heap [((K9.Ad 1), W.listOf #[.ref (K9.Ad 2), .ref (K9.Ad 3), .ref (K9.Ad 4)] (K9.Nt 0)), ((K9.Ad 2), tup [.int (K9.In 0) (K9.Tk 0), .int (K9.In 1) (K9.Tk 1)]), ((K9.Ad 3), tup [.int (K9.In 2) (K9.Tk 2), .int (K9.In 2) (K9.Tk 3)])]) →
  ((K9.dp) + 4 < recursionLimit) →
  ((K9.un) + 100 < cLine) →
  (∀ q t t' h' tk', Fr (K9.h₀) (K9.L) h' (K9.m) → InElt (K9.s).heap h' → Fresh (K9.s).heap q → News (K9.h₀) (K9.L) h' [(q, tup [.int (outLo (K9.In 0) (K9.In 1) (K9.In 2)) t, .int (outHi (K9.In 0) (K9.In 1) (K9.In 2)) t'])] → (K9.Q) (.ref q) { (K9.s) with heap := h', toks := tk' }) →
  wpAny (model PySem.Challenge.rw_pc0044_01.row.prog (K9.w)) (ktrTop (K9.dp) (K9.un) (K9.gd) (K9.cn) (K9.cs) (K9.L) (K9.a) (K9.ccd) (K9.cl0) (K9.outer)) (call (.ref 427) [.ref (K9.Ad 0), .ref (K9.Ad 1), .int 2 (K9.Tk 4)]) (K9.Q) (K9.E) (K9.s)
@[irreducible] noncomputable def outer2_spec_k : Ctx := @Classical.epsilon Ctx ctx_ne fun c => ¬ outer2_spec_P c
omit B F X T hk in
theorem outer2_spec_core : outer2_spec_P outer2_spec_k := by
  delta outer2_spec_P
  intro B F X T hk N hd1 hu1 hret
  have hsz : szOf (outer2_spec_k.In 2) (outer2_spec_k.In 2) = ((outer2_spec_k.In 2).natAbs : Int) := by unfold szOf; omega
  have eX : (if szOf (outer2_spec_k.In 0) (outer2_spec_k.In 1) < szOf (outer2_spec_k.In 2) (outer2_spec_k.In 2) - 1 then szOf (outer2_spec_k.In 0) (outer2_spec_k.In 1) else szOf (outer2_spec_k.In 2) (outer2_spec_k.In 2) - 1) = outM (outer2_spec_k.In 0) (outer2_spec_k.In 1) (outer2_spec_k.In 2) := by unfold outM; rw [hsz]; split <;> omega
  refine wpAny_call ?_
  k_dflt ktr_enter
  k_steps
  all_goals (refine' hret _ _ _ _ _ ?zza ?zzb ?zzc ?zzn; (case zzn => (unfold outLo outHi; first
    | (rw [if_pos (by assumption), if_pos (by assumption), ← eX]; exact cb_drop (by assumption) (by kcj_all))
    | (rw [if_pos (by assumption), if_neg (by omega), ← eX]; exact cb_drop (by assumption) (by kcj_all))
    | (rw [if_neg (by omega), if_pos (by assumption), ← eX]; exact cb_drop (by assumption) (by kcj_all))
    | (rw [if_neg (by omega), if_neg (by omega)]; exact cb_drop (by assumption) (by kcj_all)))); (case zza => assumption); (case zzb => exact keep_of (by assumption) (by assumption) (by assumption) (by assumption) (by kcj_all)); (case zzc => exact fresh_of (by assumption) (by assumption) (.head _) (AllNe.sub (allNe_lt (by assumption)) (by kcj_all))))
theorem outer2_spec {self rg r0 r1 r2 : Addr} {a0 b0 y : Int} {t1 t2 t3 t4 t7 : Tok} {n : Nat}
  (N : News h₀ L s.heap [(rg, W.listOf #[.ref r0, .ref r1, .ref r2] n), (r0, tup [.int a0 t1, .int b0 t2]), (r1, tup [.int y t3, .int y t4])])
  (hd1 : dp + 4 < recursionLimit) (hu1 : un + 100 < cLine)
  (hret : ∀ q t t' h' tk', Fr h₀ L h' m → InElt s.heap h' → Fresh s.heap q → News h₀ L h' [(q, tup [.int (outLo a0 b0 y) t, .int (outHi a0 b0 y) t'])] → Q (.ref q) { s with heap := h', toks := tk' }) :
  wpAny (model PySem.Challenge.rw_pc0044_01.row.prog w) (ktrTop dp un gd cn cs L a ccd cl0 outer) (call (.ref 427) [.ref self, .ref rg, .int 2 t7]) Q E s :=
  eps_all (P := outer2_spec_P) (k := outer2_spec_k) (by with_unfolding_all rfl) outer2_spec_core { w := w, mean := mean, mg := mg, mb := mb, dp := dp, un := un, gd := gd, cn := cn, cs := cs, a := a, ccd := ccd, cl0 := cl0, outer := outer, A₀ := A₀, base := base, h₀ := h₀, L := L, m := m, s := s, Q := Q, E := E, Bo := pick true [], Ad := pick 0 [self, rg, r0, r1, r2], In := pick 0 [a0, b0, y], Tk := pick 0 [t1, t2, t3, t4, t7], Nt := pick 0 [n], Ar := pick #[] [], Ob := pick (tup []) [], Kv := pick [] [], Lv := pick [] [], Li := pick [] [], Lo := pick [] [], Hp := fun _ => h₀, Mp := fun _ => m, Vl := fun _ => ccd, Ov := fun _ => none, Cl := fun _ => [] } B F X T hk N hd1 hu1 hret
end
section
def outer_lt_P (K9 : Ctx) : Prop :=
  (Below (K9.A₀) (K9.base) (K9.outer) (K9.h₀)) →
  (Fr (K9.h₀) (K9.L) (K9.s).heap (K9.m)) →
  ((kp.heap_1 (K9.w).params).In (K9.h₀)) →
  (TT (K9.mean) (K9.mg) (K9.mb) (K9.h₀)) →
  ((K9.cs).kind = .function) →
  (News (K9.h₀) (K9.L) (K9.s).heap [((K9.Ad 1), W.listOf #[.ref (K9.Ad 2), .ref (K9.Ad 3), .ref (K9.Ad 4)] (K9.Nt 0))]) →
  (0 ≤ (K9.In 0)) →
  ((K9.In 0) < 2 ^ 63) →
  ((K9.In 0) < 2) →
  (([.ref (K9.Ad 2), .ref (K9.Ad 3), .ref (K9.Ad 4)] : List Value)[(K9.In 0).toNat]? = some (.ref (K9.Ad 5))) →
  ((K9.dp) + 4 < recursionLimit) →
  ((K9.un) + 100 < cLine) →
  (∀ h' tk', Fr (K9.h₀) (K9.L) h' (K9.m) → InElt (K9.s).heap h' → (K9.Q) (.ref (K9.Ad 5)) { (K9.s) with heap := h', toks := tk' }) →
  wpAny (model PySem.Challenge.rw_pc0044_01.row.prog (K9.w)) (ktrTop (K9.dp) (K9.un) (K9.gd) (K9.cn) (K9.cs) (K9.L) (K9.a) (K9.ccd) (K9.cl0) (K9.outer)) (call (.ref 427) [.ref (K9.Ad 0), .ref (K9.Ad 1), .int (K9.In 0) (K9.Tk 0)]) (K9.Q) (K9.E) (K9.s)
@[irreducible] noncomputable def outer_lt_k : Ctx := @Classical.epsilon Ctx ctx_ne fun c => ¬ outer_lt_P c
omit B F X T hk in
theorem outer_lt_core : outer_lt_P outer_lt_k := by
  delta outer_lt_P
  intro B F X T hk N hj0 hj1 hj2 hrj hd1 hu1 hret
  refine wpAny_call ?_
  k_dflt ktr_enter
  k_steps
  exact hret _ _ (by assumption) (keep_of (by assumption) (by assumption) (by assumption) (by assumption) (by kcj_all))
theorem outer_lt {self rg r0 r1 r2 rj : Addr} {j : Int} {t7 : Tok} {n : Nat}
  (N : News h₀ L s.heap [(rg, W.listOf #[.ref r0, .ref r1, .ref r2] n)]) (hj0 : 0 ≤ j) (hj1 : j < 2 ^ 63) (hj2 : j < 2) (hrj : ([.ref r0, .ref r1, .ref r2] : List Value)[j.toNat]? = some (.ref rj))
  (hd1 : dp + 4 < recursionLimit) (hu1 : un + 100 < cLine)
  (hret : ∀ h' tk', Fr h₀ L h' m → InElt s.heap h' → Q (.ref rj) { s with heap := h', toks := tk' }) :
  wpAny (model PySem.Challenge.rw_pc0044_01.row.prog w) (ktrTop dp un gd cn cs L a ccd cl0 outer) (call (.ref 427) [.ref self, .ref rg, .int j t7]) Q E s :=
  eps_all (P := outer_lt_P) (k := outer_lt_k) (by with_unfolding_all rfl) outer_lt_core { w := w, mean := mean, mg := mg, mb := mb, dp := dp, un := un, gd := gd, cn := cn, cs := cs, a := a, ccd := ccd, cl0 := cl0, outer := outer, A₀ := A₀, base := base, h₀ := h₀, L := L, m := m, s := s, Q := Q, E := E, Bo := pick true [], Ad := pick 0 [self, rg, r0, r1, r2, rj], In := pick 0 [j], Tk := pick 0 [t7], Nt := pick 0 [n], Ar := pick #[] [], Ob := pick (tup []) [], Kv := pick [] [], Lv := pick [] [], Li := pick [] [], Lo := pick [] [], Hp := fun _ => h₀, Mp := fun _ => m, Vl := fun _ => ccd, Ov := fun _ => none, Cl := fun _ => [] } B F X T hk N hj0 hj1 hj2 hrj hd1 hu1 hret
end
section
-- PLAIN
theorem outer_spec {self rg r0 r1 r2 rj : Addr} {a0 b0 y j lo hi : Int} {t1 t2 t3 t4 t7 t8 t9 : Tok} {n : Nat}
  (N : News h₀ L s.heap [(rg, W.listOf #[.ref r0, .ref r1, .ref r2] n), (r0, tup [.int a0 t1, .int b0 t2]), (r1, tup [.int y t3, .int y t4]), (rj, tup [.int lo t8, .int hi t9])])
  (hj : 0 ≤ j ∧ j ≤ 2) (hrj : ([.ref r0, .ref r1, .ref r2] : List Value)[j.toNat]? = some (.ref rj))
  (hd1 : dp + 4 < recursionLimit) (hu1 : un + 100 < cLine)
  (hret : ∀ q t t' h' tk', Fr h₀ L h' m → InElt s.heap h' → News h₀ L h' [(q, tup [.int (oLo j a0 b0 y lo) t, .int (oHi j a0 b0 y hi) t'])] → Q (.ref q) { s with heap := h', toks := tk' }) :
  wpAny (model PySem.Challenge.rw_pc0044_01.row.prog w) (ktrTop dp un gd cn cs L a ccd cl0 outer) (call (.ref 427) [.ref self, .ref rg, .int j t7]) Q E s := by
  by_cases e : j = 2
  · subst e
    exact outer2_spec B F X T hk (cb_drop N (by kcj_all)) hd1 hu1 fun q t t' h' tk' F' K' _ M' => hret q t t' h' tk' F' K' M'
  · have e1 : oLo j a0 b0 y lo = lo := if_neg e
    have e2 : oHi j a0 b0 y hi = hi := if_neg e
    rw [e1, e2] at hret
    exact outer_lt B F X T hk (cb_drop N (by kcj_all)) (by omega) (by omega) (by omega) hrj hd1 hu1 fun h' tk' F' K' => hret rj t8 t9 h' tk' F' K' (News.grown (cb_drop N (by kcj_all)) K')
end
local macro_rules | `(tactic| walk_at "call ref") => `(tactic| (ktr_call 427 0; k_dflt (refine' outer_spec (by k_asm) (by k_asm) (by k_asm) (by k_asm) (by z_go) ?k4 (by assumption) (by assumption) (by ktr_room) (by ktr_units) ?_; (case k4 => ktr_unf); lgec_go)))
section
local macro_rules | `(tactic| walk_at "RangeRest") => `(tactic| (refine Stop.intro ?_))
local macro_rules | `(tactic| walk_at "UnrEnd") => `(tactic| (refine Stop.intro ?_))
def reasons_spec_P (K9 : Ctx) : Prop :=
  (Below (K9.A₀) (K9.base) (K9.outer) (K9.h₀)) →
  (Fr (K9.h₀) (K9.L) (K9.s).heap (K9.m)) →
  ((kp.heap_1 (K9.w).params).In (K9.h₀)) →
  (TT (K9.mean) (K9.mg) (K9.mb) (K9.h₀)) →
  ((K9.cs).kind = .function) →
  (News (K9.h₀) (K9.L) (K9.s).heap [((K9.Ad 0), W.instObj 437 (K9.Ad 1)), ((K9.Ad 1), remD (K9.w) (K9.Ad 2) (K9.Tk 7) (K9.Tk 8) (K9.Tk 9) (K9.Tk 10) (K9.Tk 11) (K9.Tk 12) (K9.Tk 13)), ((K9.Ad 2), tup [.int 0 (K9.Tk 14), .int 1 (K9.Tk 15), .int 2 (K9.Tk 16)]), ((K9.Ad 3), W.listOf #[.ref (K9.Ad 4), .ref (K9.Ad 5), .ref (K9.Ad 6)] (K9.Nt 0)), ((K9.Ad 4), tup [.int (K9.In 0) (K9.Tk 0), .int (K9.In 1) (K9.Tk 1)]), ((K9.Ad 5), tup [.int (K9.In 2) (K9.Tk 2), .int (K9.In 3) (K9.Tk 3)]), ((K9.Ad 6), tup [.int (K9.In 4) (K9.Tk 4), .int (K9.In 5) (K9.Tk 5)])]) →
  (0 ≤ (K9.In 6) ∧ (K9.In 6) ≤ 2) →
  ((K9.dp) + 4 < recursionLimit) →
  ((K9.un) + 100 < cLine) →
  (∀ q x1 x2 x3 x4 h' tk', Fr (K9.h₀) (K9.L) h' (K9.m) → InElt (K9.s).heap h' → Fresh (K9.s).heap q → News (K9.h₀) (K9.L) h' [(q, tup [.ref (K9.Ad 7), .ref x1, .ref x2, .ref x3, .ref x4])] → (K9.Q) (.ref q) { (K9.s) with heap := h', toks := tk' }) →
  wpAny (model PySem.Challenge.rw_pc0044_01.row.prog (K9.w)) (ktrTop (K9.dp) (K9.un) (K9.gd) (K9.cn) (K9.cs) (K9.L) (K9.a) (K9.ccd) (K9.cl0) (K9.outer)) (call (.ref 348) [.ref (K9.Ad 0), .ref (K9.Ad 3), .int (K9.In 6) (K9.Tk 6), .ref (K9.Ad 7)]) (K9.Q) (K9.E) (K9.s)
@[irreducible] noncomputable def reasons_spec_k : Ctx := @Classical.epsilon Ctx ctx_ne fun c => ¬ reasons_spec_P c
omit B F X T hk in
theorem reasons_spec_core : reasons_spec_P reasons_spec_k := by
  delta reasons_spec_P
  intro B F X T hk N hj hd1 hu1 hret
  refine wpAny_call ?_
  k_dflt ktr_enter
  k_steps
  refine Stop.out ?_
  (with_reducible rename ∀ _ ∈ _, _ < _ => lI)
  (with_reducible rename News _ _ _ _ => NW)
  refine name_fst NW ?_
  intro fo hfo
  subst hfo
  refine rangeRest_map ?_
  intro mb8 hmb8
  refine' rangeRest_inv (ReasJ mb8 fo (reasons_spec_k.Ad 7) [((reasons_spec_k.Ad 0), W.instObj 437 (reasons_spec_k.Ad 1)), ((reasons_spec_k.Ad 1), remD (reasons_spec_k.w) (reasons_spec_k.Ad 2) (reasons_spec_k.Tk 7) (reasons_spec_k.Tk 8) (reasons_spec_k.Tk 9) (reasons_spec_k.Tk 10) (reasons_spec_k.Tk 11) (reasons_spec_k.Tk 12) (reasons_spec_k.Tk 13)), ((reasons_spec_k.Ad 2), tup [.int 0 (reasons_spec_k.Tk 14), .int 1 (reasons_spec_k.Tk 15), .int 2 (reasons_spec_k.Tk 16)]), ((reasons_spec_k.Ad 3), W.listOf #[.ref (reasons_spec_k.Ad 4), .ref (reasons_spec_k.Ad 5), .ref (reasons_spec_k.Ad 6)] (reasons_spec_k.Nt 0)), ((reasons_spec_k.Ad 4), tup [.int (reasons_spec_k.In 0) (reasons_spec_k.Tk 0), .int (reasons_spec_k.In 1) (reasons_spec_k.Tk 1)]), ((reasons_spec_k.Ad 5), tup [.int (reasons_spec_k.In 2) (reasons_spec_k.Tk 2), .int (reasons_spec_k.In 3) (reasons_spec_k.Tk 3)]), ((reasons_spec_k.Ad 6), tup [.int (reasons_spec_k.In 4) (reasons_spec_k.Tk 4), .int (reasons_spec_k.In 5) (reasons_spec_k.Tk 5)])] (reasons_spec_k.In 6)) ?step ?done 3 0 _ _ rfl ?hJ
  case hJ => exact .intro [] 0 _ frame_in1 rfl (by rw [if_neg (by omega)]; exact .nil)
  case done =>
    subst hmb8
    rintro m₁ nw h tk ⟨xs, kf, sv, rfl, rfl, hR⟩ Fz Nz
    obtain ⟨x1, x2, x3, x4, rfl⟩ := (refs_end hR hj.2).four
    k_steps
    refine' hret _ _ _ _ _ _ _ ?zza ?zzb ?zzc ?zzn
    case zzn => exact cb_drop (by assumption) (by kcj_all)
    case zza => assumption
    case zzb => exact keep_of (by assumption) (by assumption) (by assumption) (by assumption) (by kcj_all)
    case zzc => exact fresh_of (by assumption) (by assumption) (.head _) (AllNe.sub (allNe_lt (by assumption)) (by kcj_all))
  case step =>
    subst hmb8
    rintro i m₁ nw hi ⟨xs, kf, sv, rfl, rfl, hR⟩ ti h tk Fz Nz
    have hlen := refs_small hR hi
    have hi9 : 0 ≤ (0 : Int) + (i : Int) ∧ (0 : Int) + (i : Int) ≤ 2 := by omega
    have hq9 := spot_idx (v1 := .int 0 (reasons_spec_k.Tk 14)) (v2 := .int 1 (reasons_spec_k.Tk 15)) (v3 := .int 2 (reasons_spec_k.Tk 16)) hi9
    obtain ⟨vk, hvk⟩ := spot_int (v1 := (reasons_spec_k.Tk 14)) (v2 := (reasons_spec_k.Tk 15)) (v3 := (reasons_spec_k.Tk 16)) hi9
    obtain ⟨rk, lo, hi', tl, th, hrk, hm⟩ := reas_spot (r0 := (reasons_spec_k.Ad 4)) (r1 := (reasons_spec_k.Ad 5)) (r2 := (reasons_spec_k.Ad 6)) (a0 := (reasons_spec_k.In 0)) (b0 := (reasons_spec_k.In 1)) (a1 := (reasons_spec_k.In 2)) (b1 := (reasons_spec_k.In 3)) (a2 := (reasons_spec_k.In 4)) (b2 := (reasons_spec_k.In 5)) (t1 := (reasons_spec_k.Tk 0)) (t2 := (reasons_spec_k.Tk 1)) (t3 := (reasons_spec_k.Tk 2)) (t4 := (reasons_spec_k.Tk 3)) (t5 := (reasons_spec_k.Tk 4)) (t6 := (reasons_spec_k.Tk 5)) hi sub_refl
    have Nx := news_front (k := [(rk, tup [.int lo tl, .int hi' th])]) Nz (allC ((by kcj_all : ∀ p ∈ [((reasons_spec_k.Ad 4), tup [.int (reasons_spec_k.In 0) (reasons_spec_k.Tk 0), .int (reasons_spec_k.In 1) (reasons_spec_k.Tk 1)]), ((reasons_spec_k.Ad 5), tup [.int (reasons_spec_k.In 2) (reasons_spec_k.Tk 2), .int (reasons_spec_k.In 3) (reasons_spec_k.Tk 3)]), ((reasons_spec_k.Ad 6), tup [.int (reasons_spec_k.In 4) (reasons_spec_k.Tk 4), .int (reasons_spec_k.In 5) (reasons_spec_k.Tk 5)])], p ∈ _) _ hm) sub_nil)
    simp only [List.cons_append, List.nil_append] at Nx
    clear Nz hm NW
    k_steps
    all_goals refine Stop.out ?_
    all_goals (with_reducible rename News _ _ _ _ => kN)
    · simp only [List.push_toArray, List.cons_append, List.append_assoc, List.nil_append] at kN
      refine' UnrEnd.intro (by assumption) kN ((fo, W.listOf (Value.ref (reasons_spec_k.Ad 7) :: (xs ++ [.ref ?q1, .ref ?q2])).toArray ?kf) :: [((reasons_spec_k.Ad 0), W.instObj 437 (reasons_spec_k.Ad 1)), ((reasons_spec_k.Ad 1), remD (reasons_spec_k.w) (reasons_spec_k.Ad 2) (reasons_spec_k.Tk 7) (reasons_spec_k.Tk 8) (reasons_spec_k.Tk 9) (reasons_spec_k.Tk 10) (reasons_spec_k.Tk 11) (reasons_spec_k.Tk 12) (reasons_spec_k.Tk 13)), ((reasons_spec_k.Ad 2), tup [.int 0 (reasons_spec_k.Tk 14), .int 1 (reasons_spec_k.Tk 15), .int 2 (reasons_spec_k.Tk 16)]), ((reasons_spec_k.Ad 3), W.listOf #[.ref (reasons_spec_k.Ad 4), .ref (reasons_spec_k.Ad 5), .ref (reasons_spec_k.Ad 6)] (reasons_spec_k.Nt 0)), ((reasons_spec_k.Ad 4), tup [.int (reasons_spec_k.In 0) (reasons_spec_k.Tk 0), .int (reasons_spec_k.In 1) (reasons_spec_k.Tk 1)]), ((reasons_spec_k.Ad 5), tup [.int (reasons_spec_k.In 2) (reasons_spec_k.Tk 2), .int (reasons_spec_k.In 3) (reasons_spec_k.Tk 3)]), ((reasons_spec_k.Ad 6), tup [.int (reasons_spec_k.In 4) (reasons_spec_k.Tk 4), .int (reasons_spec_k.In 5) (reasons_spec_k.Tk 5)])]) ?sub ?off ?rr
      case sub => kcj_all
      case off => repeat' (first | exact List.forall_mem_nil _ | (refine allC (mem_ne lI (by k_mem)) ?_))
      case rr => exact .intro _ _ _ frame_back1 rfl (refs_step hR hj.1 (by omega))
    · refine' UnrEnd.intro (by assumption) kN ((fo, W.listOf (Value.ref (reasons_spec_k.Ad 7) :: xs).toArray kf) :: [((reasons_spec_k.Ad 0), W.instObj 437 (reasons_spec_k.Ad 1)), ((reasons_spec_k.Ad 1), remD (reasons_spec_k.w) (reasons_spec_k.Ad 2) (reasons_spec_k.Tk 7) (reasons_spec_k.Tk 8) (reasons_spec_k.Tk 9) (reasons_spec_k.Tk 10) (reasons_spec_k.Tk 11) (reasons_spec_k.Tk 12) (reasons_spec_k.Tk 13)), ((reasons_spec_k.Ad 2), tup [.int 0 (reasons_spec_k.Tk 14), .int 1 (reasons_spec_k.Tk 15), .int 2 (reasons_spec_k.Tk 16)]), ((reasons_spec_k.Ad 3), W.listOf #[.ref (reasons_spec_k.Ad 4), .ref (reasons_spec_k.Ad 5), .ref (reasons_spec_k.Ad 6)] (reasons_spec_k.Nt 0)), ((reasons_spec_k.Ad 4), tup [.int (reasons_spec_k.In 0) (reasons_spec_k.Tk 0), .int (reasons_spec_k.In 1) (reasons_spec_k.Tk 1)]), ((reasons_spec_k.Ad 5), tup [.int (reasons_spec_k.In 2) (reasons_spec_k.Tk 2), .int (reasons_spec_k.In 3) (reasons_spec_k.Tk 3)]), ((reasons_spec_k.Ad 6), tup [.int (reasons_spec_k.In 4) (reasons_spec_k.Tk 4), .int (reasons_spec_k.In 5) (reasons_spec_k.Tk 5)])]) ?sub2 ?off2 ?rr2
      case sub2 => kcj_all
      case off2 => repeat' (first | exact List.forall_mem_nil _ | (refine allC (mem_ne lI (by k_mem)) ?_))
      case rr2 => exact .intro _ _ _ frame_back1 rfl (refs_skip hR (by omega))
theorem reasons_spec {self rd sc rg r0 r1 r2 own : Addr} {a0 b0 a1 b1 a2 b2 j : Int} {t1 t2 t3 t4 t5 t6 t7 u1 u2 u3 u4 u5 u6 u7 v1 v2 v3 : Tok} {n : Nat}
  (N : News h₀ L s.heap [(self, W.instObj 437 rd), (rd, remD w sc u1 u2 u3 u4 u5 u6 u7), (sc, tup [.int 0 v1, .int 1 v2, .int 2 v3]), (rg, W.listOf #[.ref r0, .ref r1, .ref r2] n), (r0, tup [.int a0 t1, .int b0 t2]), (r1, tup [.int a1 t3, .int b1 t4]), (r2, tup [.int a2 t5, .int b2 t6])])
  (hj : 0 ≤ j ∧ j ≤ 2) (hd1 : dp + 4 < recursionLimit) (hu1 : un + 100 < cLine)
  (hret : ∀ q x1 x2 x3 x4 h' tk', Fr h₀ L h' m → InElt s.heap h' → Fresh s.heap q → News h₀ L h' [(q, tup [.ref own, .ref x1, .ref x2, .ref x3, .ref x4])] → Q (.ref q) { s with heap := h', toks := tk' }) :
  wpAny (model PySem.Challenge.rw_pc0044_01.row.prog w) (ktrTop dp un gd cn cs L a ccd cl0 outer) (call (.ref 348) [.ref self, .ref rg, .int j t7, .ref own]) Q E s :=
  eps_all (P := reasons_spec_P) (k := reasons_spec_k) (by with_unfolding_all rfl) reasons_spec_core { w := w, mean := mean, mg := mg, mb := mb, dp := dp, un := un, gd := gd, cn := cn, cs := cs, a := a, ccd := ccd, cl0 := cl0, outer := outer, A₀ := A₀, base := base, h₀ := h₀, L := L, m := m, s := s, Q := Q, E := E, Bo := pick true [], Ad := pick 0 [self, rd, sc, rg, r0, r1, r2, own], In := pick 0 [a0, b0, a1, b1, a2, b2, j], Tk := pick 0 [t1, t2, t3, t4, t5, t6, t7, u1, u2, u3, u4, u5, u6, u7, v1, v2, v3], Nt := pick 0 [n], Ar := pick #[] [], Ob := pick (tup []) [], Kv := pick [] [], Lv := pick [] [], Li := pick [] [], Lo := pick [] [], Hp := fun _ => h₀, Mp := fun _ => m, Vl := fun _ => ccd, Ov := fun _ => none, Cl := fun _ => [] } B F X T hk N hj hd1 hu1 hret
end
local macro_rules | `(tactic| walk_at "call ref") => `(tactic| (ktr_call 348 0; k_dflt (refine' reasons_spec (by k_asm) (by k_asm) (by k_asm) (by k_asm) (by z_go) (by ktr_unf) (by assumption) (by ktr_room) (by ktr_units) ?_; lgec_go)))
section
def enter_ge_P (K9 : Ctx) : Prop :=
  (Below (K9.A₀) (K9.base) (K9.outer) (K9.h₀)) →
  (Fr (K9.h₀) (K9.L) (K9.s).heap (K9.m)) →
  ((kp.heap_1 (K9.w).params).In (K9.h₀)) →
  (TT (K9.mean) (K9.mg) (K9.mb) (K9.h₀)) →
  ((K9.cs).kind = .function) →
  (News (K9.h₀) (K9.L) (K9.s).heap [((K9.Ad 0), W.instObj 244 (K9.Ad 1)), ((K9.Ad 1), storeD (K9.w) (K9.Ad 2) (K9.Ad 3) (K9.Ad 4) (K9.Ad 5) (K9.Ad 6) false (K9.Ad 7) (K9.Tk 6) (K9.Tk 7) (K9.Tk 8) (K9.Tk 9) (K9.Tk 10) (K9.Tk 11) (K9.Tk 12) (K9.Tk 13) (K9.Tk 14)), ((K9.Ad 2), W.listOf (K9.Lv 0).toArray (K9.Nt 0)), ((K9.Ad 4), W.listOf (K9.Ar 0) (K9.Nt 1)), ((K9.Ad 6), (K9.Ob 0)), ((K9.Ad 8), tup [.ref (K9.Ad 9)]), ((K9.Ad 9), tup [.int (K9.In 0) (K9.Tk 0), .int (K9.In 1) (K9.Tk 1)]), ((K9.Ad 10), tup [.int (K9.In 4) (K9.Tk 2), .str (Str.ofString ">=") (K9.Tk 3), .int (K9.In 2) (K9.Tk 4)]), ((K9.Ad 11), tup [.ref (K9.Ad 12), .ref (K9.Ad 13), .ref (K9.Ad 14), .ref (K9.Ad 15), .ref (K9.Ad 16)])]) →
  (@LT.lt Nat _ (K9.Ad 1) (K9.Ad 0) ∧ @LT.lt Nat _ (K9.Ad 0) (K9.Ad 2) ∧ @LT.lt Nat _ (K9.Ad 2) (K9.Ad 4) ∧ @LT.lt Nat _ (K9.Ad 4) (K9.Ad 6)) →
  ((K9.Ob 0).IsDictOf (intKind PySem.Challenge.rw_pc0044_01.row.prog (K9.w)) (K9.Kv 0)) →
  ((K9.Ob 0).cls = .type "dict") →
  ((K9.Ar 0).size < 1000 ∧ (K9.Kv 0).length < 1000) →
  ((K9.In 0) < (K9.In 2)) →
  (0 ≤ (K9.In 4)) →
  ((K9.In 4) < 2 ^ 63) →
  ((K9.In 4).toNat < (K9.Lv 0).length) →
  ((K9.Lv 0)[(K9.In 4).toNat]? = some (.ref (K9.Ad 8))) →
  ((K9.dp) + 8 < recursionLimit) →
  ((K9.un) + 300 < cLine) →
  (∀ q p' t t' tits' ktl' on' kvs' h' tk', (K9.In 2) ≤ (K9.In 1) → Fr (K9.h₀) (K9.L) h' (K9.m) → KeepBut [(K9.Ad 1), (K9.Ad 2), (K9.Ad 4), (K9.Ad 6)] (K9.s).heap h' → Fresh (K9.s).heap q → Fresh (K9.s).heap p' → tits'.size ≤ (K9.Ar 0).size + 1 → on'.IsDictOf (intKind PySem.Challenge.rw_pc0044_01.row.prog (K9.w)) kvs' → on'.cls = .type "dict" → kvs'.length ≤ (K9.Kv 0).length + 1 →
    News (K9.h₀) (K9.L) h' [((K9.Ad 0), W.instObj 244 (K9.Ad 1)), ((K9.Ad 1), storeD (K9.w) (K9.Ad 2) (K9.Ad 3) (K9.Ad 4) (K9.Ad 5) (K9.Ad 6) false (K9.Ad 7) (K9.Tk 6) (K9.Tk 7) (K9.Tk 8) (K9.Tk 9) (K9.Tk 10) (K9.Tk 11) (K9.Tk 12) (K9.Tk 13) (K9.Tk 14)), ((K9.Ad 2), W.listOf ((K9.Lv 0).set (K9.In 4).toNat (.ref q)).toArray (K9.Nt 0)), ((K9.Ad 4), W.listOf tits' ktl'), ((K9.Ad 6), on'), (q, tup [.ref p']), (p', tup [.int (max (K9.In 0) (K9.In 2)) t, .int (K9.In 1) t'])] → (K9.Q) (.bool true) { (K9.s) with heap := h', toks := tk' }) →
  (∀ cl' h' tk', (K9.In 1) < (K9.In 2) → Fr (K9.h₀) (K9.L) h' (K9.m) → KeepBut [(K9.Ad 1), (K9.Ad 2), (K9.Ad 4), (K9.Ad 6)] (K9.s).heap h' →
    News (K9.h₀) (K9.L) h' [((K9.Ad 0), W.instObj 244 (K9.Ad 1)), ((K9.Ad 1), storeD (K9.w) (K9.Ad 2) (K9.Ad 3) (K9.Ad 4) (K9.Ad 5) (K9.Ad 6) true cl' (K9.Tk 6) (K9.Tk 7) (K9.Tk 8) (K9.Tk 9) (K9.Tk 10) (K9.Tk 11) (K9.Tk 12) (K9.Tk 13) (K9.Tk 14))] → (K9.Q) (.bool false) { (K9.s) with heap := h', toks := tk' }) →
  wpAny (model PySem.Challenge.rw_pc0044_01.row.prog (K9.w)) (ktrTop (K9.dp) (K9.un) (K9.gd) (K9.cn) (K9.cs) (K9.L) (K9.a) (K9.ccd) (K9.cl0) (K9.outer)) (call (.ref 192) [.ref (K9.Ad 0), .ref (K9.Ad 10), .ref (K9.Ad 11), .int (K9.In 3) (K9.Tk 5)]) (K9.Q) (K9.E) (K9.s)
@[irreducible] noncomputable def enter_ge_k : Ctx := @Classical.epsilon Ctx ctx_ne fun c => ¬ enter_ge_P c
omit B F X T hk in
theorem enter_ge_core : enter_ge_P enter_ge_k := by
  delta enter_ge_P
  intro B F X T hk N ho hon hoc hts hlt hj0 hj1 hj2 hdj hd1 hu1 hret hbad
  refine wpAny_call ?_
  k_dflt ktr_enter
  k_steps
  · exact hbad _ _ _ (by assumption) (by assumption) (keepBut_of (by assumption) (by assumption) (by assumption) (by assumption) (by ktn_open)) (cb_drop (by assumption) (by kcj_all))
  · exfalso
    (with_reducible rename _ = _ => he)
    omega
  · (with_reducible rename Obj.IsDictOf _ _ _ => hd9)
    refine' hret _ _ _ _ _ _ _ _ _ _ ?zza ?zzb ?zzc ?zzd ?zze ?zzf ?zzg ?zzh ?zzi ?zzn
    case zzn => exact cb_drop (by assumption) (by kcj_all)
    case zza => assumption
    case zzb => assumption
    case zzc => exact keepBut_of (by assumption) (by assumption) (by assumption) (by assumption) (by ktn_open)
    case zzd => exact fresh_of (by assumption) (by assumption) (by k_mem) (AllNe.sub (by assumption) (by kcj_all))
    case zze => exact fresh_of (by assumption) (by assumption) (by k_mem) (AllNe.sub (by assumption) (by kcj_all))
    case zzf => simp
    case zzg => exact hd9
    case zzh => obtain ⟨_, _, z, _⟩ := hd9; exact z.1
    case zzi => exact stored_length_le _ _ _
theorem enter_ge {st sd dl fl tl ml nd cl d p lit rs r1 r2 r3 r4 r5 : Addr} {lo hi k sp j : Int} {ds : List Value} {t1 t2 t3 t4 t5 t6 u1 u2 u3 u4 u5 u6 u7 u8 u9 : Tok} {kdl ktl : Nat} {tits : Array Value} {on : Obj} {kvs : List (Int × Value)}
  (N : News h₀ L s.heap [(st, W.instObj 244 sd), (sd, storeD w dl fl tl ml nd false cl u1 u2 u3 u4 u5 u6 u7 u8 u9), (dl, W.listOf ds.toArray kdl), (tl, W.listOf tits ktl), (nd, on), (d, tup [.ref p]), (p, tup [.int lo t1, .int hi t2]), (lit, tup [.int j t3, .str (Str.ofString ">=") t4, .int k t5]), (rs, tup [.ref r1, .ref r2, .ref r3, .ref r4, .ref r5])])
  (ho : @LT.lt Nat _ sd st ∧ @LT.lt Nat _ st dl ∧ @LT.lt Nat _ dl tl ∧ @LT.lt Nat _ tl nd) (hon : on.IsDictOf (intKind PySem.Challenge.rw_pc0044_01.row.prog w) kvs) (hoc : on.cls = .type "dict") (hts : tits.size < 1000 ∧ kvs.length < 1000) (hlt : lo < k)
  (hj0 : 0 ≤ j) (hj1 : j < 2 ^ 63) (hj2 : j.toNat < ds.length) (hdj : ds[j.toNat]? = some (.ref d))
  (hd1 : dp + 8 < recursionLimit) (hu1 : un + 300 < cLine)
  (hret : ∀ q p' t t' tits' ktl' on' kvs' h' tk', k ≤ hi → Fr h₀ L h' m → KeepBut [sd, dl, tl, nd] s.heap h' → Fresh s.heap q → Fresh s.heap p' → tits'.size ≤ tits.size + 1 → on'.IsDictOf (intKind PySem.Challenge.rw_pc0044_01.row.prog w) kvs' → on'.cls = .type "dict" → kvs'.length ≤ kvs.length + 1 →
    News h₀ L h' [(st, W.instObj 244 sd), (sd, storeD w dl fl tl ml nd false cl u1 u2 u3 u4 u5 u6 u7 u8 u9), (dl, W.listOf (ds.set j.toNat (.ref q)).toArray kdl), (tl, W.listOf tits' ktl'), (nd, on'), (q, tup [.ref p']), (p', tup [.int (max lo k) t, .int hi t'])] → Q (.bool true) { s with heap := h', toks := tk' })
  (hbad : ∀ cl' h' tk', hi < k → Fr h₀ L h' m → KeepBut [sd, dl, tl, nd] s.heap h' →
    News h₀ L h' [(st, W.instObj 244 sd), (sd, storeD w dl fl tl ml nd true cl' u1 u2 u3 u4 u5 u6 u7 u8 u9)] → Q (.bool false) { s with heap := h', toks := tk' }) :
  wpAny (model PySem.Challenge.rw_pc0044_01.row.prog w) (ktrTop dp un gd cn cs L a ccd cl0 outer) (call (.ref 192) [.ref st, .ref lit, .ref rs, .int sp t6]) Q E s :=
  eps_all (P := enter_ge_P) (k := enter_ge_k) (by with_unfolding_all rfl) enter_ge_core { w := w, mean := mean, mg := mg, mb := mb, dp := dp, un := un, gd := gd, cn := cn, cs := cs, a := a, ccd := ccd, cl0 := cl0, outer := outer, A₀ := A₀, base := base, h₀ := h₀, L := L, m := m, s := s, Q := Q, E := E, Bo := pick true [], Ad := pick 0 [st, sd, dl, fl, tl, ml, nd, cl, d, p, lit, rs, r1, r2, r3, r4, r5], In := pick 0 [lo, hi, k, sp, j], Tk := pick 0 [t1, t2, t3, t4, t5, t6, u1, u2, u3, u4, u5, u6, u7, u8, u9], Nt := pick 0 [kdl, ktl], Ar := pick #[] [tits], Ob := pick (tup []) [on], Kv := pick [] [kvs], Lv := pick [] [ds], Li := pick [] [], Lo := pick [] [], Hp := fun _ => h₀, Mp := fun _ => m, Vl := fun _ => ccd, Ov := fun _ => none, Cl := fun _ => [] } B F X T hk N ho hon hoc hts hlt hj0 hj1 hj2 hdj hd1 hu1 hret hbad
end
section
def enter_le_P (K9 : Ctx) : Prop :=
  (Below (K9.A₀) (K9.base) (K9.outer) (K9.h₀)) →
  (Fr (K9.h₀) (K9.L) (K9.s).heap (K9.m)) →
  ((kp.heap_1 (K9.w).params).In (K9.h₀)) →
  (TT (K9.mean) (K9.mg) (K9.mb) (K9.h₀)) →
  ((K9.cs).kind = .function) →
  (News (K9.h₀) (K9.L) (K9.s).heap [((K9.Ad 0), W.instObj 244 (K9.Ad 1)), ((K9.Ad 1), storeD (K9.w) (K9.Ad 2) (K9.Ad 3) (K9.Ad 4) (K9.Ad 5) (K9.Ad 6) false (K9.Ad 7) (K9.Tk 6) (K9.Tk 7) (K9.Tk 8) (K9.Tk 9) (K9.Tk 10) (K9.Tk 11) (K9.Tk 12) (K9.Tk 13) (K9.Tk 14)), ((K9.Ad 2), W.listOf (K9.Lv 0).toArray (K9.Nt 0)), ((K9.Ad 4), W.listOf (K9.Ar 0) (K9.Nt 1)), ((K9.Ad 6), (K9.Ob 0)), ((K9.Ad 8), tup [.ref (K9.Ad 9)]), ((K9.Ad 9), tup [.int (K9.In 0) (K9.Tk 0), .int (K9.In 1) (K9.Tk 1)]), ((K9.Ad 10), tup [.int (K9.In 4) (K9.Tk 2), .str (Str.ofString "<=") (K9.Tk 3), .int (K9.In 2) (K9.Tk 4)]), ((K9.Ad 11), tup [.ref (K9.Ad 12), .ref (K9.Ad 13), .ref (K9.Ad 14), .ref (K9.Ad 15), .ref (K9.Ad 16)])]) →
  (@LT.lt Nat _ (K9.Ad 1) (K9.Ad 0) ∧ @LT.lt Nat _ (K9.Ad 0) (K9.Ad 2) ∧ @LT.lt Nat _ (K9.Ad 2) (K9.Ad 4) ∧ @LT.lt Nat _ (K9.Ad 4) (K9.Ad 6)) →
  ((K9.Ob 0).IsDictOf (intKind PySem.Challenge.rw_pc0044_01.row.prog (K9.w)) (K9.Kv 0)) →
  ((K9.Ob 0).cls = .type "dict") →
  ((K9.Ar 0).size < 1000 ∧ (K9.Kv 0).length < 1000) →
  ((K9.In 2) < (K9.In 1)) →
  (0 ≤ (K9.In 4)) →
  ((K9.In 4) < 2 ^ 63) →
  ((K9.In 4).toNat < (K9.Lv 0).length) →
  ((K9.Lv 0)[(K9.In 4).toNat]? = some (.ref (K9.Ad 8))) →
  ((K9.dp) + 8 < recursionLimit) →
  ((K9.un) + 300 < cLine) →
  (∀ q p' t t' tits' ktl' on' kvs' h' tk', (K9.In 0) ≤ (K9.In 2) → Fr (K9.h₀) (K9.L) h' (K9.m) → KeepBut [(K9.Ad 1), (K9.Ad 2), (K9.Ad 4), (K9.Ad 6)] (K9.s).heap h' → Fresh (K9.s).heap q → Fresh (K9.s).heap p' → tits'.size ≤ (K9.Ar 0).size + 1 → on'.IsDictOf (intKind PySem.Challenge.rw_pc0044_01.row.prog (K9.w)) kvs' → on'.cls = .type "dict" → kvs'.length ≤ (K9.Kv 0).length + 1 →
    News (K9.h₀) (K9.L) h' [((K9.Ad 0), W.instObj 244 (K9.Ad 1)), ((K9.Ad 1), storeD (K9.w) (K9.Ad 2) (K9.Ad 3) (K9.Ad 4) (K9.Ad 5) (K9.Ad 6) false (K9.Ad 7) (K9.Tk 6) (K9.Tk 7) (K9.Tk 8) (K9.Tk 9) (K9.Tk 10) (K9.Tk 11) (K9.Tk 12) (K9.Tk 13) (K9.Tk 14)), ((K9.Ad 2), W.listOf ((K9.Lv 0).set (K9.In 4).toNat (.ref q)).toArray (K9.Nt 0)), ((K9.Ad 4), W.listOf tits' ktl'), ((K9.Ad 6), on'), (q, tup [.ref p']), (p', tup [.int (K9.In 0) t, .int (min (K9.In 1) (K9.In 2)) t'])] → (K9.Q) (.bool true) { (K9.s) with heap := h', toks := tk' }) →
  (∀ cl' h' tk', (K9.In 2) < (K9.In 0) → Fr (K9.h₀) (K9.L) h' (K9.m) → KeepBut [(K9.Ad 1), (K9.Ad 2), (K9.Ad 4), (K9.Ad 6)] (K9.s).heap h' →
    News (K9.h₀) (K9.L) h' [((K9.Ad 0), W.instObj 244 (K9.Ad 1)), ((K9.Ad 1), storeD (K9.w) (K9.Ad 2) (K9.Ad 3) (K9.Ad 4) (K9.Ad 5) (K9.Ad 6) true cl' (K9.Tk 6) (K9.Tk 7) (K9.Tk 8) (K9.Tk 9) (K9.Tk 10) (K9.Tk 11) (K9.Tk 12) (K9.Tk 13) (K9.Tk 14))] → (K9.Q) (.bool false) { (K9.s) with heap := h', toks := tk' }) →
  wpAny (model PySem.Challenge.rw_pc0044_01.row.prog (K9.w)) (ktrTop (K9.dp) (K9.un) (K9.gd) (K9.cn) (K9.cs) (K9.L) (K9.a) (K9.ccd) (K9.cl0) (K9.outer)) (call (.ref 192) [.ref (K9.Ad 0), .ref (K9.Ad 10), .ref (K9.Ad 11), .int (K9.In 3) (K9.Tk 5)]) (K9.Q) (K9.E) (K9.s)
@[irreducible] noncomputable def enter_le_k : Ctx := @Classical.epsilon Ctx ctx_ne fun c => ¬ enter_le_P c
omit B F X T hk in
theorem enter_le_core : enter_le_P enter_le_k := by
  delta enter_le_P
  intro B F X T hk N ho hon hoc hts hlt hj0 hj1 hj2 hdj hd1 hu1 hret hbad
  refine wpAny_call ?_
  k_dflt ktr_enter
  k_steps
  · exact hbad _ _ _ (by assumption) (by assumption) (keepBut_of (by assumption) (by assumption) (by assumption) (by assumption) (by ktn_open)) (cb_drop (by assumption) (by kcj_all))
  · exfalso
    (with_reducible rename _ = _ => he)
    omega
  · (with_reducible rename Obj.IsDictOf _ _ _ => hd9)
    refine' hret _ _ _ _ _ _ _ _ _ _ ?zza ?zzb ?zzc ?zzd ?zze ?zzf ?zzg ?zzh ?zzi ?zzn
    case zzn => exact cb_drop (by assumption) (by kcj_all)
    case zza => assumption
    case zzb => assumption
    case zzc => exact keepBut_of (by assumption) (by assumption) (by assumption) (by assumption) (by ktn_open)
    case zzd => exact fresh_of (by assumption) (by assumption) (by k_mem) (AllNe.sub (by assumption) (by kcj_all))
    case zze => exact fresh_of (by assumption) (by assumption) (by k_mem) (AllNe.sub (by assumption) (by kcj_all))
    case zzf => simp
    case zzg => exact hd9
    case zzh => obtain ⟨_, _, z, _⟩ := hd9; exact z.1
    case zzi => exact stored_length_le _ _ _
theorem enter_le {st sd dl fl tl ml nd cl d p lit rs r1 r2 r3 r4 r5 : Addr} {lo hi k sp j : Int} {ds : List Value} {t1 t2 t3 t4 t5 t6 u1 u2 u3 u4 u5 u6 u7 u8 u9 : Tok} {kdl ktl : Nat} {tits : Array Value} {on : Obj} {kvs : List (Int × Value)}
  (N : News h₀ L s.heap [(st, W.instObj 244 sd), (sd, storeD w dl fl tl ml nd false cl u1 u2 u3 u4 u5 u6 u7 u8 u9), (dl, W.listOf ds.toArray kdl), (tl, W.listOf tits ktl), (nd, on), (d, tup [.ref p]), (p, tup [.int lo t1, .int hi t2]), (lit, tup [.int j t3, .str (Str.ofString "<=") t4, .int k t5]), (rs, tup [.ref r1, .ref r2, .ref r3, .ref r4, .ref r5])])
  (ho : @LT.lt Nat _ sd st ∧ @LT.lt Nat _ st dl ∧ @LT.lt Nat _ dl tl ∧ @LT.lt Nat _ tl nd) (hon : on.IsDictOf (intKind PySem.Challenge.rw_pc0044_01.row.prog w) kvs) (hoc : on.cls = .type "dict") (hts : tits.size < 1000 ∧ kvs.length < 1000) (hlt : k < hi)
  (hj0 : 0 ≤ j) (hj1 : j < 2 ^ 63) (hj2 : j.toNat < ds.length) (hdj : ds[j.toNat]? = some (.ref d))
  (hd1 : dp + 8 < recursionLimit) (hu1 : un + 300 < cLine)
  (hret : ∀ q p' t t' tits' ktl' on' kvs' h' tk', lo ≤ k → Fr h₀ L h' m → KeepBut [sd, dl, tl, nd] s.heap h' → Fresh s.heap q → Fresh s.heap p' → tits'.size ≤ tits.size + 1 → on'.IsDictOf (intKind PySem.Challenge.rw_pc0044_01.row.prog w) kvs' → on'.cls = .type "dict" → kvs'.length ≤ kvs.length + 1 →
    News h₀ L h' [(st, W.instObj 244 sd), (sd, storeD w dl fl tl ml nd false cl u1 u2 u3 u4 u5 u6 u7 u8 u9), (dl, W.listOf (ds.set j.toNat (.ref q)).toArray kdl), (tl, W.listOf tits' ktl'), (nd, on'), (q, tup [.ref p']), (p', tup [.int lo t, .int (min hi k) t'])] → Q (.bool true) { s with heap := h', toks := tk' })
  (hbad : ∀ cl' h' tk', k < lo → Fr h₀ L h' m → KeepBut [sd, dl, tl, nd] s.heap h' →
    News h₀ L h' [(st, W.instObj 244 sd), (sd, storeD w dl fl tl ml nd true cl' u1 u2 u3 u4 u5 u6 u7 u8 u9)] → Q (.bool false) { s with heap := h', toks := tk' }) :
  wpAny (model PySem.Challenge.rw_pc0044_01.row.prog w) (ktrTop dp un gd cn cs L a ccd cl0 outer) (call (.ref 192) [.ref st, .ref lit, .ref rs, .int sp t6]) Q E s :=
  eps_all (P := enter_le_P) (k := enter_le_k) (by with_unfolding_all rfl) enter_le_core { w := w, mean := mean, mg := mg, mb := mb, dp := dp, un := un, gd := gd, cn := cn, cs := cs, a := a, ccd := ccd, cl0 := cl0, outer := outer, A₀ := A₀, base := base, h₀ := h₀, L := L, m := m, s := s, Q := Q, E := E, Bo := pick true [], Ad := pick 0 [st, sd, dl, fl, tl, ml, nd, cl, d, p, lit, rs, r1, r2, r3, r4, r5], In := pick 0 [lo, hi, k, sp, j], Tk := pick 0 [t1, t2, t3, t4, t5, t6, u1, u2, u3, u4, u5, u6, u7, u8, u9], Nt := pick 0 [kdl, ktl], Ar := pick #[] [tits], Ob := pick (tup []) [on], Kv := pick [] [kvs], Lv := pick [] [ds], Li := pick [] [], Lo := pick [] [], Hp := fun _ => h₀, Mp := fun _ => m, Vl := fun _ => ccd, Ov := fun _ => none, Cl := fun _ => [] } B F X T hk N ho hon hoc hts hlt hj0 hj1 hj2 hdj hd1 hu1 hret hbad
end
section
def without0_spec_P (K9 : Ctx) : Prop :=
  (Below (K9.A₀) (K9.base) (K9.outer) (K9.h₀)) →
  (Fr (K9.h₀) (K9.L) (K9.s).heap (K9.m)) →
  ((kp.heap_1 (K9.w).params).In (K9.h₀)) →
  (TT (K9.mean) (K9.mg) (K9.mb) (K9.h₀)) →
  ((K9.cs).kind = .function) →
  (News (K9.h₀) (K9.L) (K9.s).heap [((K9.Ad 0), tup [.ref (K9.Ad 1)]), ((K9.Ad 1), tup [.int (K9.In 0) (K9.Tk 0), .int (K9.In 0) (K9.Tk 1)])]) →
  ((K9.In 0) ≠ 0) →
  ((K9.dp) + 6 < recursionLimit) →
  ((K9.un) + 150 < cLine) →
  (∀ q p' t t' h' tk', Fr (K9.h₀) (K9.L) h' (K9.m) → InElt (K9.s).heap h' → Fresh (K9.s).heap q → Fresh (K9.s).heap p' → News (K9.h₀) (K9.L) h' [(q, tup [.ref p']), (p', tup [.int (K9.In 0) t, .int (K9.In 0) t'])] → (K9.Q) (.ref q) { (K9.s) with heap := h', toks := tk' }) →
  wpAny (model PySem.Challenge.rw_pc0044_01.row.prog (K9.w)) (ktrTop (K9.dp) (K9.un) (K9.gd) (K9.cn) (K9.cs) (K9.L) (K9.a) (K9.ccd) (K9.cl0) (K9.outer)) (call (.ref 66) [.ref (K9.Ad 0), .int 0 (K9.Tk 2)]) (K9.Q) (K9.E) (K9.s)
@[irreducible] noncomputable def without0_spec_k : Ctx := @Classical.epsilon Ctx ctx_ne fun c => ¬ without0_spec_P c
omit B F X T hk in
theorem without0_spec_core : without0_spec_P without0_spec_k := by
  delta without0_spec_P
  intro B F X T hk N hy hd1 hu1 hret
  refine wpAny_call ?_
  k_dflt ktr_enter
  k_steps
  · (with_reducible rename News _ _ _ _ => kN)
    have e : (if 0 + 1 > (without0_spec_k.In 0) then 0 + 1 else (without0_spec_k.In 0)) = (without0_spec_k.In 0) := if_neg (by omega)
    rw [e] at kN
    refine' hret _ _ _ _ _ _ (by assumption) ?g1 ?g2 ?g3 ?gN
    case gN => exact cb_drop kN (by kcj_all)
    case g1 => exact keep_of (by assumption) (by assumption) (by assumption) (by assumption) (by kcj_all)
    case g2 => exact fresh_of (by assumption) (by assumption) (.head _) (AllNe.sub (allNe_lt (by assumption)) (by kcj_all))
    case g3 => exact fresh_of (by assumption) (by assumption) (.tail _ (.tail _ (.head _))) (AllNe.sub (allNe_lt (by assumption)) (by kcj_all))
  · (with_reducible rename News _ _ _ _ => kN)
    have e : min (without0_spec_k.In 0) (0 - 1) = (without0_spec_k.In 0) := by omega
    rw [e] at kN
    refine' hret _ _ _ _ _ _ (by assumption) ?g1 ?g2 ?g3 ?gN
    case gN => exact cb_drop kN (by kcj_all)
    case g1 => exact keep_of (by assumption) (by assumption) (by assumption) (by assumption) (by kcj_all)
    case g2 => exact fresh_of (by assumption) (by assumption) (.tail _ (.tail _ (.tail _ (.head _)))) (AllNe.sub (by assumption) (by kcj_all))
    case g3 => exact fresh_of (by assumption) (by assumption) (.tail _ (.tail _ (.tail _ (.tail _ (.head _))))) (AllNe.sub (by assumption) (by kcj_all))
theorem without0_spec {d p : Addr} {y : Int} {t1 t2 t3 : Tok}
  (N : News h₀ L s.heap [(d, tup [.ref p]), (p, tup [.int y t1, .int y t2])]) (hy : y ≠ 0)
  (hd1 : dp + 6 < recursionLimit) (hu1 : un + 150 < cLine)
  (hret : ∀ q p' t t' h' tk', Fr h₀ L h' m → InElt s.heap h' → Fresh s.heap q → Fresh s.heap p' → News h₀ L h' [(q, tup [.ref p']), (p', tup [.int y t, .int y t'])] → Q (.ref q) { s with heap := h', toks := tk' }) :
  wpAny (model PySem.Challenge.rw_pc0044_01.row.prog w) (ktrTop dp un gd cn cs L a ccd cl0 outer) (call (.ref 66) [.ref d, .int 0 t3]) Q E s :=
  eps_all (P := without0_spec_P) (k := without0_spec_k) (by with_unfolding_all rfl) without0_spec_core { w := w, mean := mean, mg := mg, mb := mb, dp := dp, un := un, gd := gd, cn := cn, cs := cs, a := a, ccd := ccd, cl0 := cl0, outer := outer, A₀ := A₀, base := base, h₀ := h₀, L := L, m := m, s := s, Q := Q, E := E, Bo := pick true [], Ad := pick 0 [d, p], In := pick 0 [y], Tk := pick 0 [t1, t2, t3], Nt := pick 0 [], Ar := pick #[] [], Ob := pick (tup []) [], Kv := pick [] [], Lv := pick [] [], Li := pick [] [], Lo := pick [] [], Hp := fun _ => h₀, Mp := fun _ => m, Vl := fun _ => ccd, Ov := fun _ => none, Cl := fun _ => [] } B F X T hk N hy hd1 hu1 hret
end
local macro_rules | `(tactic| walk_at "call ref") => `(tactic| (ktr_call 66 0; k_dflt (refine' without0_spec (by k_asm) (by k_asm) (by k_asm) (by k_asm) (by z_go) (by ktr_unf) (by k_data) (by ktr_room) (by ktr_units) ?_; open_k0)))
section
def dom_spec_P (K9 : Ctx) : Prop :=
  (Below (K9.A₀) (K9.base) (K9.outer) (K9.h₀)) →
  (Fr (K9.h₀) (K9.L) (K9.s).heap (K9.m)) →
  ((kp.heap_1 (K9.w).params).In (K9.h₀)) →
  (TT (K9.mean) (K9.mg) (K9.mb) (K9.h₀)) →
  ((K9.cs).kind = .function) →
  (News (K9.h₀) (K9.L) (K9.s).heap [((K9.Ad 0), W.instObj 244 (K9.Ad 1)), ((K9.Ad 1), storeD (K9.w) (K9.Ad 2) (K9.Ad 3) (K9.Ad 4) (K9.Ad 5) (K9.Ad 6) (K9.Bo 0) (K9.Ad 7) (K9.Tk 1) (K9.Tk 2) (K9.Tk 3) (K9.Tk 4) (K9.Tk 5) (K9.Tk 6) (K9.Tk 7) (K9.Tk 8) (K9.Tk 9)), ((K9.Ad 2), W.listOf #[.ref (K9.Ad 8), .ref (K9.Ad 9), .ref (K9.Ad 10)] (K9.Nt 0))]) →
  (([.ref (K9.Ad 8), .ref (K9.Ad 9), .ref (K9.Ad 10)] : List Value)[(K9.In 0).toNat]? = some (.ref (K9.Ad 11))) →
  (0 ≤ (K9.In 0)) →
  ((K9.In 0) < 2 ^ 63) →
  ((K9.dp) + 3 < recursionLimit) →
  ((K9.un) + 30 < cLine) →
  (∀ h' tk', Fr (K9.h₀) (K9.L) h' (K9.m) → InElt (K9.s).heap h' → (K9.Q) (.ref (K9.Ad 11)) { (K9.s) with heap := h', toks := tk' }) →
  wpAny (model PySem.Challenge.rw_pc0044_01.row.prog (K9.w)) (ktrTop (K9.dp) (K9.un) (K9.gd) (K9.cn) (K9.cs) (K9.L) (K9.a) (K9.ccd) (K9.cl0) (K9.outer)) (call (.ref 129) [.ref (K9.Ad 0), .int (K9.In 0) (K9.Tk 0)]) (K9.Q) (K9.E) (K9.s)
@[irreducible] noncomputable def dom_spec_k : Ctx := @Classical.epsilon Ctx ctx_ne fun c => ¬ dom_spec_P c
omit B F X T hk in
theorem dom_spec_core : dom_spec_P dom_spec_k := by
  delta dom_spec_P
  intro B F X T hk N hq hj0 hj1 hd1 hu1 hret
  refine wpAny_call ?_
  k_dflt ktr_enter
  k_steps
  exact hret _ _ (by assumption) (keep_of (by assumption) (by assumption) (by assumption) (by assumption) (by kcj_all))
theorem dom_spec {st sd dl fl tl ml nd cl d0 d1 d2 d : Addr} {b9 : Bool} {j : Int} {t3 u1 u2 u3 u4 u5 u6 u7 u8 u9 : Tok} {kdl : Nat}
  (N : News h₀ L s.heap [(st, W.instObj 244 sd), (sd, storeD w dl fl tl ml nd b9 cl u1 u2 u3 u4 u5 u6 u7 u8 u9), (dl, W.listOf #[.ref d0, .ref d1, .ref d2] kdl)])
  (hq : ([.ref d0, .ref d1, .ref d2] : List Value)[j.toNat]? = some (.ref d)) (hj0 : 0 ≤ j) (hj1 : j < 2 ^ 63)
  (hd1 : dp + 3 < recursionLimit) (hu1 : un + 30 < cLine)
  (hret : ∀ h' tk', Fr h₀ L h' m → InElt s.heap h' → Q (.ref d) { s with heap := h', toks := tk' }) :
  wpAny (model PySem.Challenge.rw_pc0044_01.row.prog w) (ktrTop dp un gd cn cs L a ccd cl0 outer) (call (.ref 129) [.ref st, .int j t3]) Q E s :=
  eps_all (P := dom_spec_P) (k := dom_spec_k) (by with_unfolding_all rfl) dom_spec_core { w := w, mean := mean, mg := mg, mb := mb, dp := dp, un := un, gd := gd, cn := cn, cs := cs, a := a, ccd := ccd, cl0 := cl0, outer := outer, A₀ := A₀, base := base, h₀ := h₀, L := L, m := m, s := s, Q := Q, E := E, Bo := pick true [b9], Ad := pick 0 [st, sd, dl, fl, tl, ml, nd, cl, d0, d1, d2, d], In := pick 0 [j], Tk := pick 0 [t3, u1, u2, u3, u4, u5, u6, u7, u8, u9], Nt := pick 0 [kdl], Ar := pick #[] [], Ob := pick (tup []) [], Kv := pick [] [], Lv := pick [] [], Li := pick [] [], Lo := pick [] [], Hp := fun _ => h₀, Mp := fun _ => m, Vl := fun _ => ccd, Ov := fun _ => none, Cl := fun _ => [] } B F X T hk N hq hj0 hj1 hd1 hu1 hret
end
local macro_rules | `(tactic| walk_at "call ref") => `(tactic| (ktr_call 129 0; k_dflt (refine' dom_spec (by k_asm) (by k_asm) (by k_asm) (by k_asm) (by z_go) (by ktr_unf) (by z_go) (by decide) (by decide) (by ktr_room) (by ktr_units) ?_; lge_go)))
section
def low_spec_P (K9 : Ctx) : Prop :=
  (Below (K9.A₀) (K9.base) (K9.outer) (K9.h₀)) →
  (Fr (K9.h₀) (K9.L) (K9.s).heap (K9.m)) →
  ((kp.heap_1 (K9.w).params).In (K9.h₀)) →
  (TT (K9.mean) (K9.mg) (K9.mb) (K9.h₀)) →
  ((K9.cs).kind = .function) →
  (News (K9.h₀) (K9.L) (K9.s).heap [((K9.Ad 0), W.instObj 244 (K9.Ad 1)), ((K9.Ad 1), storeD (K9.w) (K9.Ad 2) (K9.Ad 3) (K9.Ad 4) (K9.Ad 5) (K9.Ad 6) false (K9.Ad 7) (K9.Tk 3) (K9.Tk 4) (K9.Tk 5) (K9.Tk 6) (K9.Tk 7) (K9.Tk 8) (K9.Tk 9) (K9.Tk 10) (K9.Tk 11)), ((K9.Ad 2), W.listOf #[.ref (K9.Ad 8), .ref (K9.Ad 9), .ref (K9.Ad 10)] (K9.Nt 0))]) →
  (([.ref (K9.Ad 8), .ref (K9.Ad 9), .ref (K9.Ad 10)] : List Value)[(K9.In 2).toNat]? = some (.ref (K9.Ad 11))) →
  (0 ≤ (K9.In 2)) →
  ((K9.In 2) < 2 ^ 63) →
  (News (K9.h₀) (K9.L) (K9.s).heap [((K9.Ad 11), tup [.ref (K9.Ad 12)]), ((K9.Ad 12), tup [.int (K9.In 0) (K9.Tk 0), .int (K9.In 1) (K9.Tk 1)])]) →
  ((K9.dp) + 5 < recursionLimit) →
  ((K9.un) + 60 < cLine) →
  (∀ h' tk', Fr (K9.h₀) (K9.L) h' (K9.m) → InElt (K9.s).heap h' → (K9.Q) (.int (K9.In 0) (K9.Tk 0)) { (K9.s) with heap := h', toks := tk' }) →
  wpAny (model PySem.Challenge.rw_pc0044_01.row.prog (K9.w)) (ktrTop (K9.dp) (K9.un) (K9.gd) (K9.cn) (K9.cs) (K9.L) (K9.a) (K9.ccd) (K9.cl0) (K9.outer)) (call (.ref 143) [.ref (K9.Ad 0), .int (K9.In 2) (K9.Tk 2)]) (K9.Q) (K9.E) (K9.s)
@[irreducible] noncomputable def low_spec_k : Ctx := @Classical.epsilon Ctx ctx_ne fun c => ¬ low_spec_P c
omit B F X T hk in
theorem low_spec_core : low_spec_P low_spec_k := by
  delta low_spec_P
  intro B F X T hk N1 hq hj0 hj1 N2 hd1 hu1 hret
  have N := news_app N2 N1
  simp only [List.cons_append, List.nil_append] at N
  clear N1 N2
  refine wpAny_call ?_
  k_dflt ktr_enter
  k_steps
  exact hret _ _ (by assumption) (keep_of (by assumption) (by assumption) (by assumption) (by assumption) (by kcj_all))
theorem low_spec {st sd dl fl tl ml nd cl d0 d1 d2 d p : Addr} {lo hi j : Int} {t1 t2 t3 u1 u2 u3 u4 u5 u6 u7 u8 u9 : Tok} {kdl : Nat}
  (N1 : News h₀ L s.heap [(st, W.instObj 244 sd), (sd, storeD w dl fl tl ml nd false cl u1 u2 u3 u4 u5 u6 u7 u8 u9), (dl, W.listOf #[.ref d0, .ref d1, .ref d2] kdl)])
  (hq : ([.ref d0, .ref d1, .ref d2] : List Value)[j.toNat]? = some (.ref d)) (hj0 : 0 ≤ j) (hj1 : j < 2 ^ 63)
  (N2 : News h₀ L s.heap [(d, tup [.ref p]), (p, tup [.int lo t1, .int hi t2])])
  (hd1 : dp + 5 < recursionLimit) (hu1 : un + 60 < cLine)
  (hret : ∀ h' tk', Fr h₀ L h' m → InElt s.heap h' → Q (.int lo t1) { s with heap := h', toks := tk' }) :
  wpAny (model PySem.Challenge.rw_pc0044_01.row.prog w) (ktrTop dp un gd cn cs L a ccd cl0 outer) (call (.ref 143) [.ref st, .int j t3]) Q E s :=
  eps_all (P := low_spec_P) (k := low_spec_k) (by with_unfolding_all rfl) low_spec_core { w := w, mean := mean, mg := mg, mb := mb, dp := dp, un := un, gd := gd, cn := cn, cs := cs, a := a, ccd := ccd, cl0 := cl0, outer := outer, A₀ := A₀, base := base, h₀ := h₀, L := L, m := m, s := s, Q := Q, E := E, Bo := pick true [], Ad := pick 0 [st, sd, dl, fl, tl, ml, nd, cl, d0, d1, d2, d, p], In := pick 0 [lo, hi, j], Tk := pick 0 [t1, t2, t3, u1, u2, u3, u4, u5, u6, u7, u8, u9], Nt := pick 0 [kdl], Ar := pick #[] [], Ob := pick (tup []) [], Kv := pick [] [], Lv := pick [] [], Li := pick [] [], Lo := pick [] [], Hp := fun _ => h₀, Mp := fun _ => m, Vl := fun _ => ccd, Ov := fun _ => none, Cl := fun _ => [] } B F X T hk N1 hq hj0 hj1 N2 hd1 hu1 hret
end
local macro_rules | `(tactic| walk_at "call ref") => `(tactic| (ktr_call 143 0; k_dflt (refine' low_spec (by k_asm) (by k_asm) (by k_asm) (by k_asm) (by z_go) (by ktr_unf) (by z_go) (by decide) (by decide) (by ktr_unf) (by ktr_room) (by ktr_units) ?_; lge_go)))
section
def high_spec_P (K9 : Ctx) : Prop :=
  (Below (K9.A₀) (K9.base) (K9.outer) (K9.h₀)) →
  (Fr (K9.h₀) (K9.L) (K9.s).heap (K9.m)) →
  ((kp.heap_1 (K9.w).params).In (K9.h₀)) →
  (TT (K9.mean) (K9.mg) (K9.mb) (K9.h₀)) →
  ((K9.cs).kind = .function) →
  (News (K9.h₀) (K9.L) (K9.s).heap [((K9.Ad 0), W.instObj 244 (K9.Ad 1)), ((K9.Ad 1), storeD (K9.w) (K9.Ad 2) (K9.Ad 3) (K9.Ad 4) (K9.Ad 5) (K9.Ad 6) false (K9.Ad 7) (K9.Tk 3) (K9.Tk 4) (K9.Tk 5) (K9.Tk 6) (K9.Tk 7) (K9.Tk 8) (K9.Tk 9) (K9.Tk 10) (K9.Tk 11)), ((K9.Ad 2), W.listOf #[.ref (K9.Ad 8), .ref (K9.Ad 9), .ref (K9.Ad 10)] (K9.Nt 0))]) →
  (([.ref (K9.Ad 8), .ref (K9.Ad 9), .ref (K9.Ad 10)] : List Value)[(K9.In 2).toNat]? = some (.ref (K9.Ad 11))) →
  (0 ≤ (K9.In 2)) →
  ((K9.In 2) < 2 ^ 63) →
  (News (K9.h₀) (K9.L) (K9.s).heap [((K9.Ad 11), tup [.ref (K9.Ad 12)]), ((K9.Ad 12), tup [.int (K9.In 0) (K9.Tk 0), .int (K9.In 1) (K9.Tk 1)])]) →
  ((K9.dp) + 5 < recursionLimit) →
  ((K9.un) + 60 < cLine) →
  (∀ h' tk', Fr (K9.h₀) (K9.L) h' (K9.m) → InElt (K9.s).heap h' → (K9.Q) (.int (K9.In 1) (K9.Tk 1)) { (K9.s) with heap := h', toks := tk' }) →
  wpAny (model PySem.Challenge.rw_pc0044_01.row.prog (K9.w)) (ktrTop (K9.dp) (K9.un) (K9.gd) (K9.cn) (K9.cs) (K9.L) (K9.a) (K9.ccd) (K9.cl0) (K9.outer)) (call (.ref 150) [.ref (K9.Ad 0), .int (K9.In 2) (K9.Tk 2)]) (K9.Q) (K9.E) (K9.s)
@[irreducible] noncomputable def high_spec_k : Ctx := @Classical.epsilon Ctx ctx_ne fun c => ¬ high_spec_P c
omit B F X T hk in
theorem high_spec_core : high_spec_P high_spec_k := by
  delta high_spec_P
  intro B F X T hk N1 hq hj0 hj1 N2 hd1 hu1 hret
  have N := news_app N2 N1
  simp only [List.cons_append, List.nil_append] at N
  clear N1 N2
  refine wpAny_call ?_
  k_dflt ktr_enter
  k_steps
  exact hret _ _ (by assumption) (keep_of (by assumption) (by assumption) (by assumption) (by assumption) (by kcj_all))
theorem high_spec {st sd dl fl tl ml nd cl d0 d1 d2 d p : Addr} {lo hi j : Int} {t1 t2 t3 u1 u2 u3 u4 u5 u6 u7 u8 u9 : Tok} {kdl : Nat}
  (N1 : News h₀ L s.heap [(st, W.instObj 244 sd), (sd, storeD w dl fl tl ml nd false cl u1 u2 u3 u4 u5 u6 u7 u8 u9), (dl, W.listOf #[.ref d0, .ref d1, .ref d2] kdl)])
  (hq : ([.ref d0, .ref d1, .ref d2] : List Value)[j.toNat]? = some (.ref d)) (hj0 : 0 ≤ j) (hj1 : j < 2 ^ 63)
  (N2 : News h₀ L s.heap [(d, tup [.ref p]), (p, tup [.int lo t1, .int hi t2])])
  (hd1 : dp + 5 < recursionLimit) (hu1 : un + 60 < cLine)
  (hret : ∀ h' tk', Fr h₀ L h' m → InElt s.heap h' → Q (.int hi t2) { s with heap := h', toks := tk' }) :
  wpAny (model PySem.Challenge.rw_pc0044_01.row.prog w) (ktrTop dp un gd cn cs L a ccd cl0 outer) (call (.ref 150) [.ref st, .int j t3]) Q E s :=
  eps_all (P := high_spec_P) (k := high_spec_k) (by with_unfolding_all rfl) high_spec_core { w := w, mean := mean, mg := mg, mb := mb, dp := dp, un := un, gd := gd, cn := cn, cs := cs, a := a, ccd := ccd, cl0 := cl0, outer := outer, A₀ := A₀, base := base, h₀ := h₀, L := L, m := m, s := s, Q := Q, E := E, Bo := pick true [], Ad := pick 0 [st, sd, dl, fl, tl, ml, nd, cl, d0, d1, d2, d, p], In := pick 0 [lo, hi, j], Tk := pick 0 [t1, t2, t3, u1, u2, u3, u4, u5, u6, u7, u8, u9], Nt := pick 0 [kdl], Ar := pick #[] [], Ob := pick (tup []) [], Kv := pick [] [], Lv := pick [] [], Li := pick [] [], Lo := pick [] [], Hp := fun _ => h₀, Mp := fun _ => m, Vl := fun _ => ccd, Ov := fun _ => none, Cl := fun _ => [] } B F X T hk N1 hq hj0 hj1 N2 hd1 hu1 hret
end
local macro_rules | `(tactic| walk_at "call ref") => `(tactic| (ktr_call 150 0; k_dflt (refine' high_spec (by k_asm) (by k_asm) (by k_asm) (by k_asm) (by z_go) (by ktr_unf) (by z_go) (by decide) (by decide) (by ktr_unf) (by ktr_room) (by ktr_units) ?_; lge_go)))
section
local macro_rules | `(tactic| walk_at "call builtin:max") => `(tactic| (k_here; (with_reducible show wpAny _ _ (call (Value.builtin "max") [Value.int _ _, Value.int _ _]) _ _ _); k_dflt (refine' max_two (by rfl) (by k_asm) (by k_asm) ?_; k_whole; intro q' h' tk' F' N')))
local macro_rules | `(tactic| walk_at "call builtin:min") => `(tactic| (k_here; (with_reducible show wpAny _ _ (call (Value.builtin "min") [Value.int _ _, Value.int _ _]) _ _ _); k_dflt (refine' min_two (by rfl) (by k_asm) (by k_asm) ?_; k_whole; intro q' h' tk' F' N')))
local macro_rules | `(tactic| walk_at "call ref") => `(tactic| (ktr_call 192 0; refine Stop.intro ?_))
section
local macro_rules | `(tactic| walk_at "exec While BoolOp cons nil") => `(tactic| open_z)
local macro_rules | `(tactic| walk_at "eval ListComp") => `(tactic| open_z)
local macro_rules | `(tactic| walk_at "exec If") => `(tactic| open_z)
local macro_rules | `(tactic| walk_at "eval IfExp") => `(tactic| open_z)
def lift_spec_P (K9 : Ctx) : Prop :=
  (Below (K9.A₀) (K9.base) (K9.outer) (K9.h₀)) →
  (Fr (K9.h₀) (K9.L) (K9.s).heap (K9.m)) →
  ((kp.heap_1 (K9.w).params).In (K9.h₀)) →
  (TT (K9.mean) (K9.mg) (K9.mb) (K9.h₀)) →
  ((K9.cs).kind = .function) →
  (News (K9.h₀) (K9.L) (K9.s).heap [((K9.Ad 17), tup [.ref (K9.Ad 18)]), ((K9.Ad 18), tup [.int (K9.In 6) (K9.Tk 7), .int (K9.In 7) (K9.Tk 8)]), ((K9.Ad 0), W.instObj 437 (K9.Ad 1)), ((K9.Ad 1), remD (K9.w) (K9.Ad 2) (K9.Tk 18) (K9.Tk 19) (K9.Tk 20) (K9.Tk 21) (K9.Tk 22) (K9.Tk 23) (K9.Tk 24)), ((K9.Ad 2), tup [.int 0 (K9.Tk 25), .int 1 (K9.Tk 26), .int 2 (K9.Tk 27)]), ((K9.Ad 3), W.instObj 244 (K9.Ad 4)), ((K9.Ad 4), storeD (K9.w) (K9.Ad 5) (K9.Ad 6) (K9.Ad 7) (K9.Ad 8) (K9.Ad 9) false (K9.Ad 10) (K9.Tk 9) (K9.Tk 10) (K9.Tk 11) (K9.Tk 12) (K9.Tk 13) (K9.Tk 14) (K9.Tk 15) (K9.Tk 16) (K9.Tk 17)), ((K9.Ad 5), W.listOf #[.ref (K9.Ad 11), .ref (K9.Ad 12), .ref (K9.Ad 13)] (K9.Nt 0)), ((K9.Ad 7), W.listOf (K9.Ar 0) (K9.Nt 1)), ((K9.Ad 9), (K9.Ob 0)), ((K9.Ad 11), tup [.ref (K9.Ad 14)]), ((K9.Ad 14), tup [.int (K9.In 0) (K9.Tk 0), .int (K9.In 1) (K9.Tk 1)]), ((K9.Ad 12), tup [.ref (K9.Ad 15)]), ((K9.Ad 15), tup [.int (K9.In 2) (K9.Tk 2), .int (K9.In 2) (K9.Tk 3)]), ((K9.Ad 13), tup [.ref (K9.Ad 16)]), ((K9.Ad 16), tup [.int (K9.In 3) (K9.Tk 4), .int (K9.In 4) (K9.Tk 5)])]) →
  (Spot (K9.In 5) (K9.In 0) (K9.In 1) (K9.In 2) (K9.In 3) (K9.In 4) (K9.In 6) (K9.In 7) (K9.Ad 11) (K9.Ad 12) (K9.Ad 13) (K9.Ad 17)) →
  (@LT.lt Nat _ (K9.Ad 4) (K9.Ad 3) ∧ @LT.lt Nat _ (K9.Ad 3) (K9.Ad 5) ∧ @LT.lt Nat _ (K9.Ad 5) (K9.Ad 7) ∧ @LT.lt Nat _ (K9.Ad 7) (K9.Ad 9) ∧ @LT.lt Nat _ (K9.Ad 9) (K9.Ad 1)) →
  ((K9.Ob 0).IsDictOf (intKind PySem.Challenge.rw_pc0044_01.row.prog (K9.w)) (K9.Kv 0)) →
  ((K9.Ob 0).cls = .type "dict") →
  ((K9.Ar 0).size < 1000 ∧ (K9.Kv 0).length < 1000) →
  ((K9.In 2) ≠ 0) →
  (-1000 < (K9.In 2) ∧ (K9.In 2) < 1000) →
  (-1000 < (K9.In 0) ∧ (K9.In 0) ≤ (K9.In 1) ∧ (K9.In 1) < 1000) →
  (-1000 < (K9.In 3) ∧ (K9.In 3) ≤ (K9.In 4) ∧ (K9.In 4) < 1000) →
  ((K9.dp) + 12 < recursionLimit) →
  ((K9.un) + 500 < cLine) →
  (∀ v q p' t t' tits' ktl' on' kvs' h' tk', (K9.In 6) ≤ v → v ≤ (K9.In 7) → oLo (K9.In 5) (K9.In 0) (K9.In 1) (K9.In 2) (K9.In 6) ≤ v → v ≤ oHi (K9.In 5) (K9.In 0) (K9.In 1) (K9.In 2) (K9.In 7) → cbAt (K9.In 5) (K9.In 0) (K9.In 1) (K9.In 2) (K9.In 3) (K9.In 4) v = true → (∀ u, (K9.In 6) ≤ u → oLo (K9.In 5) (K9.In 0) (K9.In 1) (K9.In 2) (K9.In 6) ≤ u → u < v → cbAt (K9.In 5) (K9.In 0) (K9.In 1) (K9.In 2) (K9.In 3) (K9.In 4) u = false) →
    Fr (K9.h₀) (K9.L) h' (K9.m) → KeepBut [(K9.Ad 4), (K9.Ad 5), (K9.Ad 7), (K9.Ad 9)] (K9.s).heap h' → q ∉ [(K9.Ad 4), (K9.Ad 5), (K9.Ad 7), (K9.Ad 9)] ∧ p' ∉ [(K9.Ad 4), (K9.Ad 5), (K9.Ad 7), (K9.Ad 9)] → (tits'.size : Int) ≤ (K9.Ar 0).size + (v - (K9.In 6)) → on'.IsDictOf (intKind PySem.Challenge.rw_pc0044_01.row.prog (K9.w)) kvs' → on'.cls = .type "dict" → (kvs'.length : Int) ≤ (K9.Kv 0).length + (v - (K9.In 6)) →
    News (K9.h₀) (K9.L) h' [((K9.Ad 3), W.instObj 244 (K9.Ad 4)), ((K9.Ad 4), storeD (K9.w) (K9.Ad 5) (K9.Ad 6) (K9.Ad 7) (K9.Ad 8) (K9.Ad 9) false (K9.Ad 10) (K9.Tk 9) (K9.Tk 10) (K9.Tk 11) (K9.Tk 12) (K9.Tk 13) (K9.Tk 14) (K9.Tk 15) (K9.Tk 16) (K9.Tk 17)), ((K9.Ad 5), W.listOf (([.ref (K9.Ad 11), .ref (K9.Ad 12), .ref (K9.Ad 13)] : List Value).set (K9.In 5).toNat (.ref q)).toArray (K9.Nt 0)), ((K9.Ad 7), W.listOf tits' ktl'), ((K9.Ad 9), on'), (q, tup [.ref p']), (p', tup [.int v t, .int (K9.In 7) t'])] → (K9.Q) (.bool true) { (K9.s) with heap := h', toks := tk' }) →
  (∀ cl' h' tk', (∀ u, (K9.In 6) ≤ u → oLo (K9.In 5) (K9.In 0) (K9.In 1) (K9.In 2) (K9.In 6) ≤ u → u ≤ (K9.In 7) → u ≤ oHi (K9.In 5) (K9.In 0) (K9.In 1) (K9.In 2) (K9.In 7) → cbAt (K9.In 5) (K9.In 0) (K9.In 1) (K9.In 2) (K9.In 3) (K9.In 4) u = false) → Fr (K9.h₀) (K9.L) h' (K9.m) → KeepBut [(K9.Ad 4), (K9.Ad 5), (K9.Ad 7), (K9.Ad 9)] (K9.s).heap h' →
    News (K9.h₀) (K9.L) h' [((K9.Ad 3), W.instObj 244 (K9.Ad 4)), ((K9.Ad 4), storeD (K9.w) (K9.Ad 5) (K9.Ad 6) (K9.Ad 7) (K9.Ad 8) (K9.Ad 9) true cl' (K9.Tk 9) (K9.Tk 10) (K9.Tk 11) (K9.Tk 12) (K9.Tk 13) (K9.Tk 14) (K9.Tk 15) (K9.Tk 16) (K9.Tk 17))] → (K9.Q) (.bool false) { (K9.s) with heap := h', toks := tk' }) →
  wpAny (model PySem.Challenge.rw_pc0044_01.row.prog (K9.w)) (ktrTop (K9.dp) (K9.un) (K9.gd) (K9.cn) (K9.cs) (K9.L) (K9.a) (K9.ccd) (K9.cl0) (K9.outer)) (call (.ref 353) [.ref (K9.Ad 0), .ref (K9.Ad 3), .int (K9.In 5) (K9.Tk 6)]) (K9.Q) (K9.E) (K9.s)
@[irreducible] noncomputable def lift_spec_k : Ctx := @Classical.epsilon Ctx ctx_ne fun c => ¬ lift_spec_P c
omit B F X T hk in
noncomputable def lift_spec_c : Σ' P9A : ((Tok) → (Heap) → (Addr) → (Heap) → (Nat) → (Obj) → (Addr) → (Addr) → (Addr) → (Addr) → (Nat) → (Tok) → (Tok) → (Tok) → (Tok) → (Tok) → (Tok) → (Heap) → (Nat) → (Addr) → (Tok) → (Tok) → Prop), ((∀ (vj : Tok) (dvA0 : Heap) (dvA1 : Addr) (dvA2 : Heap) (dvA3 : Nat) (dvA10 : Obj) (rg : Addr) (r0 : Addr) (r1 : Addr) (r2 : Addr) (n : Nat) (z1 : Tok) (z2 : Tok) (z3 : Tok) (z4 : Tok) (z5 : Tok) (z6 : Tok) (h' : Heap) (tk' : Nat) (rj : Addr) (z7 : Tok) (z8 : Tok), P9A vj dvA0 dvA1 dvA2 dvA3 dvA10 rg r0 r1 r2 n z1 z2 z3 z4 z5 z6 h' tk' rj z7 z8) → (lift_spec_P lift_spec_k)) := by
  refine' ⟨?P9A, fun G9A => ?main9⟩
  case main9 =>
    delta lift_spec_P
    intro B F X T hk N hsp ho hon hoc hts hy hyb hab hcd hd1 hu1 hret hbad
    have hK9 := kept_spot N ho hoc
    have hJ9 := Spot.bounds hsp
    have hE9 := Spot.ends hsp hab hyb hcd
    have hq9 : seqIndex? (lift_spec_k.In 5) ([.int 0 (lift_spec_k.Tk 25), .int 1 (lift_spec_k.Tk 26), .int 2 (lift_spec_k.Tk 27)] : List Value).length = some (lift_spec_k.In 5).toNat := spot_idx hJ9
    obtain ⟨vj, hvj⟩ := spot_int (v1 := (lift_spec_k.Tk 25)) (v2 := (lift_spec_k.Tk 26)) (v3 := (lift_spec_k.Tk 27)) hJ9
    refine wpAny_call ?_
    k_dflt ktr_enter
    k_steps
    refine Stop.out ?_
    (with_reducible rename Fr _ _ _ _ => FW)
    (with_reducible rename News _ _ _ _ => NW)
    refine ranges_cut (lift_spec_k.In 0) (lift_spec_k.In 1) (lift_spec_k.In 2) (lift_spec_k.In 2) (lift_spec_k.In 3) (lift_spec_k.In 4) FW NW ?key ?rest
    case key =>
      refine ListComp_tup (F₀ := FW) (by with_unfolding_all rfl) (by decide) (by rfl) (by decide) (by rfl) ?_
      k_steps
      exact RangesEnd.intro (by assumption) (by assumption) (by kcj_all)
    case rest =>
      intro rg r0 r1 r2 n z1 z2 z3 z4 z5 z6 h' tk' F' N'
      clear NW FW
      obtain ⟨rj, z7, z8, hrj, N'⟩ := Spot.range hsp N'
      rename_i dvA0 dvA1 dvA2 dvA3 fvA4 fvA5 fvA6 fvA7 fvA8 fvA9 dvA10 fvA11 fvA12
      revert B F X T hk N hsp ho hon hoc hts hy hyb hab hcd hd1 hu1 hret hbad hK9 hJ9 hE9 hq9 hvj fvA4 fvA5 fvA6 fvA7 fvA8 fvA9 fvA11 F' fvA12 hrj N'
      exact G9A vj dvA0 dvA1 dvA2 dvA3 dvA10 rg r0 r1 r2 n z1 z2 z3 z4 z5 z6 h' tk' rj z7 z8
def lift_spec_A_P (K8 : Ctx) : Prop := lift_spec_c.1 (K8.Tk 0) (K8.Hp 0) (K8.Ad 0) (K8.Hp 1) (K8.Ad 1) (K8.Ob 0) (K8.Ad 2) (K8.Ad 3) (K8.Ad 4) (K8.Ad 5) (K8.Ad 6) (K8.Tk 1) (K8.Tk 2) (K8.Tk 3) (K8.Tk 4) (K8.Tk 5) (K8.Tk 6) (K8.Hp 2) (K8.Ad 7) (K8.Ad 8) (K8.Tk 7) (K8.Tk 8)
@[irreducible] noncomputable def lift_spec_A_k : Ctx := @Classical.epsilon Ctx ctx_ne fun c => ¬ lift_spec_A_P c
omit B F X T hk in
noncomputable def lift_spec_A_c : Σ' P9B : ((Addr) → (Nat) → (Heap) → (Addr) → (Tok) → (Tok) → (Heap) → (Tok) → (Heap) → (Int) → (Tok) → (Heap) → (Nat) → (Int) → (Tok) → (Heap) → (Nat) → Prop), ((∀ (dvB0 : Addr) (dvB2 : Nat) (dvB3 : Heap) (dvB4 : Addr) (dvB5 : Tok) (dvB6 : Tok) (dvB7 : Heap) (dvB9 : Tok) (dvB10 : Heap) (v : Int) (t : Tok) (hA : Heap) (tkA : Nat) (k9 : Int) (tk9 : Tok) (hB : Heap) (tkB : Nat), P9B dvB0 dvB2 dvB3 dvB4 dvB5 dvB6 dvB7 dvB9 dvB10 v t hA tkA k9 tk9 hB tkB) → (lift_spec_A_P lift_spec_A_k)) := by
  refine' ⟨?P9B, fun G9B => ?main9⟩
  case main9 =>
    delta lift_spec_A_P lift_spec_c
    dsimp only
    intro B F X T hk N hsp ho hon hoc hts hy hyb hab hcd hd1 hu1 hret hbad hK9 hJ9 hE9 hq9 hvj fvA4 fvA5 fvA6 fvA7 fvA8 fvA9 fvA11 F' fvA12 hrj N'
    k_steps
    refine Stop.out ?_
    refine' while_up (x := Str.ofString "v") (fun v => cbAt (lift_spec_k.In 5) (lift_spec_k.In 0) (lift_spec_k.In 1) (lift_spec_k.In 2) (lift_spec_k.In 3) (lift_spec_k.In 4) v) (min (lift_spec_k.In 7) (oHi (lift_spec_k.In 5) (lift_spec_k.In 0) (lift_spec_k.In 1) (lift_spec_k.In 2) (lift_spec_k.In 7))) ?F ?N ?ht ?hb ?done ?hE
    case F => k_asm
    case N => k_asm
    case hE => passes_own
    case ht =>
      intro v t h tk hv1 hv2 F5 N5
      have hv9 : v ≤ min (lift_spec_k.In 7) (oHi (lift_spec_k.In 5) (lift_spec_k.In 0) (lift_spec_k.In 1) (lift_spec_k.In 2) (lift_spec_k.In 7)) → (lift_spec_k.In 5) = 1 → v ≠ 0 := fun h => Spot.one hsp hy (lift_in hv1 h).1 (lift_in hv1 h).2.1
      have hw9 : v ≤ min (lift_spec_k.In 7) (oHi (lift_spec_k.In 5) (lift_spec_k.In 0) (lift_spec_k.In 1) (lift_spec_k.In 2) (lift_spec_k.In 7)) → -1000 < v ∧ v < 1000 := lift_wide hv1 hE9
      k_steps
      all_goals refine TestEnd.intro (by assumption) (by assumption) (by kcj_all) ?_
      all_goals symm
      · have hp9 : cbAt (lift_spec_k.In 5) (lift_spec_k.In 0) (lift_spec_k.In 1) (lift_spec_k.In 2) (lift_spec_k.In 3) (lift_spec_k.In 4) v = true := by assumption
        simp only [hp9, Bool.not_true, Bool.and_false]
      · have hp9 : cbAt (lift_spec_k.In 5) (lift_spec_k.In 0) (lift_spec_k.In 1) (lift_spec_k.In 2) (lift_spec_k.In 3) (lift_spec_k.In 4) v = false := by assumption
        have hq9 : v ≤ min (lift_spec_k.In 7) (oHi (lift_spec_k.In 5) (lift_spec_k.In 0) (lift_spec_k.In 1) (lift_spec_k.In 2) (lift_spec_k.In 7)) := by assumption
        simp only [hp9, Bool.not_false, Bool.and_true, decide_eq_true hq9]
      · have hq9 : ¬ v ≤ min (lift_spec_k.In 7) (oHi (lift_spec_k.In 5) (lift_spec_k.In 0) (lift_spec_k.In 1) (lift_spec_k.In 2) (lift_spec_k.In 7)) := by assumption
        simp only [decide_eq_false hq9, Bool.false_and]
    case hb =>
      intro v t h tk hv1 F5 N5
      k_steps
      exact MoveEnd.intro (by assumption) (by assumption) (by kcj_all) (fun _ => ite_twice _ _ _)
    case done =>
      intro v t h tk hv1 hv2 hv3 hv4 F5 N5
      k_steps
      refine Stop.out ?_
      refine wpAny_If ?_
      (with_reducible rename Fr _ _ _ _ => FW)
      (with_reducible rename News _ _ _ _ => NW)
      refine test_cutN (decide (v = (lift_spec_k.In 6) ∧ (lift_spec_k.In 6) ≤ oHi (lift_spec_k.In 5) (lift_spec_k.In 0) (lift_spec_k.In 1) (lift_spec_k.In 2) (lift_spec_k.In 7))) FW NW ?test ?after
      case test =>
        k_steps
        all_goals refine TestEnd.intro (by assumption) (by assumption) (by kcj_all) ?_
        all_goals first | exact (decide_eq_true ⟨by assumption, by assumption⟩).symm | exact (decide_eq_false fun h => absurd h.1 (by assumption)).symm | exact (decide_eq_false fun h => absurd h.2 (by assumption)).symm
      case after =>
      intro hA tkA FA NA
      clear FW NW; (try clear F5); (try clear N5)
      by_cases hb9 : v = (lift_spec_k.In 6) ∧ (lift_spec_k.In 6) ≤ oHi (lift_spec_k.In 5) (lift_spec_k.In 0) (lift_spec_k.In 1) (lift_spec_k.In 2) (lift_spec_k.In 7)
      · rw [decide_eq_true hb9]
        simp only [if_true]
        k_steps
        · refine' hret (lift_spec_k.In 6) (lift_spec_k.Ad 17) (lift_spec_k.Ad 18) _ _ (lift_spec_k.Ar 0) (lift_spec_k.Nt 1) (lift_spec_k.Ob 0) (lift_spec_k.Kv 0) _ _ ?g1 ?g2 ?g3 ?g4 ?g5 ?g6 (by assumption) ?g7 ?gq ?g8 hon hoc ?g9 ?gN
          case g7 => exact keepBut_refl (keep_of (by assumption) (by assumption) (by assumption) (by assumption) (by kcj_all))
          case gN => rw [Spot.same hsp]; exact cb_drop (by assumption) (by kcj_all)
          case gq => exact ⟨hK9 ((lift_spec_k.Ad 17), tup [.ref (lift_spec_k.Ad 18)]) (by k_mem), hK9 ((lift_spec_k.Ad 18), tup [.int (lift_spec_k.In 6) (lift_spec_k.Tk 7), .int (lift_spec_k.In 7) (lift_spec_k.Tk 8)]) (by k_mem)⟩
          case g1 => exact Int.le_refl _
          case g2 => exact hE9.2.1
          case g3 => exact Int.le_trans (Int.le_max_right _ _) (Int.le_trans hv1 (Int.le_of_eq hb9.1))
          case g4 => exact hb9.2
          case g5 => have e9 := hb9.1; rw [← e9]; exact hv4 (Int.le_min.mpr ⟨Int.le_trans (Int.le_of_eq e9) hE9.2.1, Int.le_trans (Int.le_of_eq e9) hb9.2⟩)
          case g6 => exact fun u hu1 _ hu3 => absurd hu3 (Int.not_lt.mpr hu1)
          case g8 => exact sz_same
          case g9 => exact sz_same
      · rw [decide_eq_false hb9]
        simp only [Bool.false_eq_true, if_false]
        k_steps
        refine Stop.out ?_
        (with_reducible rename Fr _ _ _ _ => FW)
        (with_reducible rename News _ _ _ _ => NW)
        refine int_cut (fun k => (v ≤ min (lift_spec_k.In 7) (oHi (lift_spec_k.In 5) (lift_spec_k.In 0) (lift_spec_k.In 1) (lift_spec_k.In 2) (lift_spec_k.In 7)) ∧ k = v) ∨ (¬ v ≤ min (lift_spec_k.In 7) (oHi (lift_spec_k.In 5) (lift_spec_k.In 0) (lift_spec_k.In 1) (lift_spec_k.In 2) (lift_spec_k.In 7)) ∧ k = (lift_spec_k.In 7) + 1)) FW NW ?key2 ?rest2
        case key2 =>
          refine wpAny_IfExp ?_
          k_steps
          all_goals refine IntEnd.intro (by assumption) (by assumption) (by kcj_all) ?_
          all_goals first | exact .inl ⟨by assumption, rfl⟩ | exact .inr ⟨by assumption, rfl⟩
        case rest2 =>
        intro k9 tk9 hB tkB hk9 FB NB
        clear FW NW; (try clear FA); (try clear NA)
        rename_i dvB0 _ fvB1 _ _ _ dvB2 _ _ dvB3 dvB4 dvB5 dvB6 dvB7 _ fvB8 _ _ _ _ dvB9 _ _ dvB10 fvB11 fvB12 _
        revert B F X T hk N hsp ho hon hoc hts hy hyb hab hcd hd1 hu1 hret hbad hK9 hJ9 hE9 hq9 hvj fvA4 fvA5 fvA6 fvA7 fvA8 fvA9 fvA11 hrj fvB1 fvB8 fvB11 fvB12 hv1 hv2 hv3 hv4 hb9 hk9 FB NB
        exact G9B dvB0 dvB2 dvB3 dvB4 dvB5 dvB6 dvB7 dvB9 dvB10 v t hA tkA k9 tk9 hB tkB
def lift_spec_B_P (K8 : Ctx) : Prop := lift_spec_A_c.1 (K8.Ad 0) (K8.Ad 1) (K8.Hp 0) (K8.Ad 2) (K8.Tk 0) (K8.Tk 1) (K8.Hp 1) (K8.Tk 2) (K8.Hp 2) (K8.In 0) (K8.Tk 3) (K8.Hp 3) (K8.Ad 3) (K8.In 1) (K8.Tk 4) (K8.Hp 4) (K8.Ad 4)
@[irreducible] noncomputable def lift_spec_B_k : Ctx := @Classical.epsilon Ctx ctx_ne fun c => ¬ lift_spec_B_P c
omit B F X T hk in
theorem lift_spec_B_core : lift_spec_B_P lift_spec_B_k := by
  delta lift_spec_B_P lift_spec_A_c
  dsimp only
  intro B F X T hk N hsp ho hon hoc hts hy hyb hab hcd hd1 hu1 hret hbad hK9 hJ9 hE9 hq9 hvj fvA4 fvA5 fvA6 fvA7 fvA8 fvA9 fvA11 hrj fvB1 fvB8 fvB11 fvB12 hv1 hv2 hv3 hv4 hb9 hk9 FB NB
  k_steps
  refine Stop.out ?_
  refine' enter_ge ?k1 ?k2 ?k3 ?k5 ?kK ?k4 ?ko hon hoc hts ?klt hJ9.1 (Spot.small hsp) (Spot.short hsp) (Spot.get hsp) ?kd ?ku ?r1 ?r2
  case k1 => k_asm
  case k2 => k_asm
  case k3 => k_asm
  case k5 => k_asm
  case kK => first | exact rfl | assumption
  case k4 => exact cb_drop (by assumption) (by kcj_all)
  case ko => exact ⟨ho.1, ho.2.1, ho.2.2.1, ho.2.2.2.1⟩
  case klt => exact lift_klt hv1 hk9 hb9 hE9
  case kd => ktr_room
  case ku => ktr_units
  case r1 =>
    k_whole
    intro q p' t9' tA tits' ktl' on' kvs' h9' tk9' hle9 F9' K9'
    have hv8 := lift_ok hk9 hle9
    have hv7 := lift_in hv1 hv8.1
    (with_reducible rename News _ _ _ _ => N09)
    have M1 := news_keep2 (sub := [((lift_spec_k.Ad 17), tup [.ref (lift_spec_k.Ad 18)]), ((lift_spec_k.Ad 18), tup [.int (lift_spec_k.In 6) (lift_spec_k.Tk 7), .int (lift_spec_k.In 7) (lift_spec_k.Tk 8)]), ((lift_spec_k.Ad 0), W.instObj 437 (lift_spec_k.Ad 1)), ((lift_spec_k.Ad 1), remD (lift_spec_k.w) (lift_spec_k.Ad 2) (lift_spec_k.Tk 18) (lift_spec_k.Tk 19) (lift_spec_k.Tk 20) (lift_spec_k.Tk 21) (lift_spec_k.Tk 22) (lift_spec_k.Tk 23) (lift_spec_k.Tk 24)), ((lift_spec_k.Ad 2), tup [.int 0 (lift_spec_k.Tk 25), .int 1 (lift_spec_k.Tk 26), .int 2 (lift_spec_k.Tk 27)]), ((lift_spec_k.Ad 11), tup [.ref (lift_spec_k.Ad 14)]), ((lift_spec_k.Ad 14), tup [.int (lift_spec_k.In 0) (lift_spec_k.Tk 0), .int (lift_spec_k.In 1) (lift_spec_k.Tk 1)]), ((lift_spec_k.Ad 12), tup [.ref (lift_spec_k.Ad 15)]), ((lift_spec_k.Ad 15), tup [.int (lift_spec_k.In 2) (lift_spec_k.Tk 2), .int (lift_spec_k.In 2) (lift_spec_k.Tk 3)]), ((lift_spec_k.Ad 13), tup [.ref (lift_spec_k.Ad 16)]), ((lift_spec_k.Ad 16), tup [.int (lift_spec_k.In 3) (lift_spec_k.Tk 4), .int (lift_spec_k.In 4) (lift_spec_k.Tk 5)])]) N09 K9' (by kcj_all) hK9
    intro Z1 Z2 hs1 hd9 hc9 hs2 M9'
    rw [lift_max hv8.2 hv1] at M9'
    have lZ := fresh_ne Z1 N09
    have lY := fresh_ne Z2 N09
    have off9 : q ∉ [(lift_spec_k.Ad 4), (lift_spec_k.Ad 5), (lift_spec_k.Ad 7), (lift_spec_k.Ad 9)] ∧ p' ∉ [(lift_spec_k.Ad 4), (lift_spec_k.Ad 5), (lift_spec_k.Ad 7), (lift_spec_k.Ad 9)] := ⟨AllNe.off4 (o₁ := storeD (lift_spec_k.w) (lift_spec_k.Ad 5) (lift_spec_k.Ad 6) (lift_spec_k.Ad 7) (lift_spec_k.Ad 8) (lift_spec_k.Ad 9) false (lift_spec_k.Ad 10) (lift_spec_k.Tk 9) (lift_spec_k.Tk 10) (lift_spec_k.Tk 11) (lift_spec_k.Tk 12) (lift_spec_k.Tk 13) (lift_spec_k.Tk 14) (lift_spec_k.Tk 15) (lift_spec_k.Tk 16) (lift_spec_k.Tk 17)) (o₂ := W.listOf #[.ref (lift_spec_k.Ad 11), .ref (lift_spec_k.Ad 12), .ref (lift_spec_k.Ad 13)] (lift_spec_k.Nt 0)) (o₃ := W.listOf (lift_spec_k.Ar 0) (lift_spec_k.Nt 1)) (o₄ := (lift_spec_k.Ob 0)) lZ (by k_mem) (by k_mem) (by k_mem) (by k_mem), AllNe.off4 (o₁ := storeD (lift_spec_k.w) (lift_spec_k.Ad 5) (lift_spec_k.Ad 6) (lift_spec_k.Ad 7) (lift_spec_k.Ad 8) (lift_spec_k.Ad 9) false (lift_spec_k.Ad 10) (lift_spec_k.Tk 9) (lift_spec_k.Tk 10) (lift_spec_k.Tk 11) (lift_spec_k.Tk 12) (lift_spec_k.Tk 13) (lift_spec_k.Tk 14) (lift_spec_k.Tk 15) (lift_spec_k.Tk 16) (lift_spec_k.Tk 17)) (o₂ := W.listOf #[.ref (lift_spec_k.Ad 11), .ref (lift_spec_k.Ad 12), .ref (lift_spec_k.Ad 13)] (lift_spec_k.Nt 0)) (o₃ := W.listOf (lift_spec_k.Ar 0) (lift_spec_k.Nt 1)) (o₄ := (lift_spec_k.Ob 0)) lY (by k_mem) (by k_mem) (by k_mem) (by k_mem)⟩
    have N9' := news_app M9' M1
    clear M9' M1 N09
    simp only [List.cons_append, List.nil_append] at N9'
    k_steps
    refine' hret (lift_spec_B_k.In 0) _ _ _ _ _ _ _ _ _ _ ?g1 ?g2 ?g3 ?g4 ?g5 ?g6 (by assumption) ?g7 ?gq ?g8 hd9 hc9 ?g9 ?gN
    case g7 => exact keepBut_of (by assumption) (by assumption) (by assumption) (by assumption) (by ktn_open)
    case gN => exact cb_drop (by assumption) (by kcj_all)
    case gq => exact off9
    case g8 => exact sz_up hs1 (hv8.2 ▸ lift_klt hv1 hk9 hb9 hE9)
    case g9 => exact sz_up hs2 (hv8.2 ▸ lift_klt hv1 hk9 hb9 hE9)
    case g1 => exact hv7.1
    case g2 => exact hv7.2.1
    case g3 => exact hv7.2.2.1
    case g4 => exact hv7.2.2.2
    case g5 => exact hv4 hv8.1
    case g6 => intro u hu1 hu2 hu3; exact (hv3 u (Int.max_le.mpr ⟨hu1, hu2⟩) hu3).2
  case r2 =>
    k_whole
    intro cl9' h9' tk9' hle9 F9' K9'
    have hv8 := lift_no hk9 hle9
    (with_reducible rename News _ _ _ _ => N09)
    have M1 := news_keep2 (sub := [((lift_spec_k.Ad 17), tup [.ref (lift_spec_k.Ad 18)]), ((lift_spec_k.Ad 18), tup [.int (lift_spec_k.In 6) (lift_spec_k.Tk 7), .int (lift_spec_k.In 7) (lift_spec_k.Tk 8)]), ((lift_spec_k.Ad 0), W.instObj 437 (lift_spec_k.Ad 1)), ((lift_spec_k.Ad 1), remD (lift_spec_k.w) (lift_spec_k.Ad 2) (lift_spec_k.Tk 18) (lift_spec_k.Tk 19) (lift_spec_k.Tk 20) (lift_spec_k.Tk 21) (lift_spec_k.Tk 22) (lift_spec_k.Tk 23) (lift_spec_k.Tk 24)), ((lift_spec_k.Ad 2), tup [.int 0 (lift_spec_k.Tk 25), .int 1 (lift_spec_k.Tk 26), .int 2 (lift_spec_k.Tk 27)]), ((lift_spec_k.Ad 11), tup [.ref (lift_spec_k.Ad 14)]), ((lift_spec_k.Ad 14), tup [.int (lift_spec_k.In 0) (lift_spec_k.Tk 0), .int (lift_spec_k.In 1) (lift_spec_k.Tk 1)]), ((lift_spec_k.Ad 12), tup [.ref (lift_spec_k.Ad 15)]), ((lift_spec_k.Ad 15), tup [.int (lift_spec_k.In 2) (lift_spec_k.Tk 2), .int (lift_spec_k.In 2) (lift_spec_k.Tk 3)]), ((lift_spec_k.Ad 13), tup [.ref (lift_spec_k.Ad 16)]), ((lift_spec_k.Ad 16), tup [.int (lift_spec_k.In 3) (lift_spec_k.Tk 4), .int (lift_spec_k.In 4) (lift_spec_k.Tk 5)])]) N09 K9' (by kcj_all) hK9
    intro M9'
    have N9' := news_app M9' M1
    clear M9' M1 N09
    simp only [List.cons_append, List.nil_append] at N9'
    k_steps
    refine' hbad _ _ _ ?g1 (by assumption) ?g7 ?gN
    case g7 => exact keepBut_of (by assumption) (by assumption) (by assumption) (by assumption) (by ktn_open)
    case gN => exact cb_drop (by assumption) (by kcj_all)
    case g1 => intro u hu1 hu2 hu3 hu4; exact (hv3 u (Int.max_le.mpr ⟨hu1, hu2⟩) (lift_lt hv8 hu3 hu4)).2
omit B F X T hk in
theorem lift_spec_A_core : lift_spec_A_P lift_spec_A_k :=
  lift_spec_A_c.2
    (fun dvB0 dvB2 dvB3 dvB4 dvB5 dvB6 dvB7 dvB9 dvB10 v t hA tkA k9 tk9 hB tkB => eps_all (P := lift_spec_B_P) (k := lift_spec_B_k) (by with_unfolding_all rfl) lift_spec_B_core { lift_spec_A_k with Ad := pick (lift_spec_A_k.Ad 0) [dvB0, dvB2, dvB4, tkA, tkB], Hp := pick (lift_spec_A_k.Hp 0) [dvB3, dvB7, dvB10, hA, hB], Tk := pick (lift_spec_A_k.Tk 0) [dvB5, dvB6, dvB9, t, tk9], In := pick (lift_spec_A_k.In 0) [v, k9] })
omit B F X T hk in
theorem lift_spec_core : lift_spec_P lift_spec_k :=
  lift_spec_c.2
    (fun vj dvA0 dvA1 dvA2 dvA3 dvA10 rg r0 r1 r2 n z1 z2 z3 z4 z5 z6 h' tk' rj z7 z8 => eps_all (P := lift_spec_A_P) (k := lift_spec_A_k) (by with_unfolding_all rfl) lift_spec_A_core { lift_spec_k with Tk := pick (lift_spec_k.Tk 0) [vj, z1, z2, z3, z4, z5, z6, z7, z8], Hp := pick (lift_spec_k.Hp 0) [dvA0, dvA2, h'], Ad := pick (lift_spec_k.Ad 0) [dvA1, dvA3, rg, r0, r1, r2, n, tk', rj], Ob := pick (lift_spec_k.Ob 0) [dvA10] })
theorem lift_spec {self rd sc st sd dl fl tl ml nd cl d0 d1 d2 p0 p1 p2 dj pj : Addr} {a0 b0 y c d j lo hi : Int} {t1 t2 t3 t4 t5 t6 t7 t8 t9 u1 u2 u3 u4 u5 u6 u7 u8 u9 w1 w2 w3 w4 w5 w6 w7 v1 v2 v3 : Tok} {kdl ktl : Nat} {tits : Array Value} {on : Obj} {kvs : List (Int × Value)}
  (N : News h₀ L s.heap [(dj, tup [.ref pj]), (pj, tup [.int lo t8, .int hi t9]), (self, W.instObj 437 rd), (rd, remD w sc w1 w2 w3 w4 w5 w6 w7), (sc, tup [.int 0 v1, .int 1 v2, .int 2 v3]), (st, W.instObj 244 sd), (sd, storeD w dl fl tl ml nd false cl u1 u2 u3 u4 u5 u6 u7 u8 u9), (dl, W.listOf #[.ref d0, .ref d1, .ref d2] kdl), (tl, W.listOf tits ktl), (nd, on), (d0, tup [.ref p0]), (p0, tup [.int a0 t1, .int b0 t2]), (d1, tup [.ref p1]), (p1, tup [.int y t3, .int y t4]), (d2, tup [.ref p2]), (p2, tup [.int c t5, .int d t6])])
  (hsp : Spot j a0 b0 y c d lo hi d0 d1 d2 dj)
  (ho : @LT.lt Nat _ sd st ∧ @LT.lt Nat _ st dl ∧ @LT.lt Nat _ dl tl ∧ @LT.lt Nat _ tl nd ∧ @LT.lt Nat _ nd rd)
  (hon : on.IsDictOf (intKind PySem.Challenge.rw_pc0044_01.row.prog w) kvs) (hoc : on.cls = .type "dict") (hts : tits.size < 1000 ∧ kvs.length < 1000)
  (hy : y ≠ 0) (hyb : -1000 < y ∧ y < 1000) (hab : -1000 < a0 ∧ a0 ≤ b0 ∧ b0 < 1000) (hcd : -1000 < c ∧ c ≤ d ∧ d < 1000)
  (hd1 : dp + 12 < recursionLimit) (hu1 : un + 500 < cLine)
  (hret : ∀ v q p' t t' tits' ktl' on' kvs' h' tk', lo ≤ v → v ≤ hi → oLo j a0 b0 y lo ≤ v → v ≤ oHi j a0 b0 y hi → cbAt j a0 b0 y c d v = true → (∀ u, lo ≤ u → oLo j a0 b0 y lo ≤ u → u < v → cbAt j a0 b0 y c d u = false) →
    Fr h₀ L h' m → KeepBut [sd, dl, tl, nd] s.heap h' → q ∉ [sd, dl, tl, nd] ∧ p' ∉ [sd, dl, tl, nd] → (tits'.size : Int) ≤ tits.size + (v - lo) → on'.IsDictOf (intKind PySem.Challenge.rw_pc0044_01.row.prog w) kvs' → on'.cls = .type "dict" → (kvs'.length : Int) ≤ kvs.length + (v - lo) →
    News h₀ L h' [(st, W.instObj 244 sd), (sd, storeD w dl fl tl ml nd false cl u1 u2 u3 u4 u5 u6 u7 u8 u9), (dl, W.listOf (([.ref d0, .ref d1, .ref d2] : List Value).set j.toNat (.ref q)).toArray kdl), (tl, W.listOf tits' ktl'), (nd, on'), (q, tup [.ref p']), (p', tup [.int v t, .int hi t'])] → Q (.bool true) { s with heap := h', toks := tk' })
  (hbad : ∀ cl' h' tk', (∀ u, lo ≤ u → oLo j a0 b0 y lo ≤ u → u ≤ hi → u ≤ oHi j a0 b0 y hi → cbAt j a0 b0 y c d u = false) → Fr h₀ L h' m → KeepBut [sd, dl, tl, nd] s.heap h' →
    News h₀ L h' [(st, W.instObj 244 sd), (sd, storeD w dl fl tl ml nd true cl' u1 u2 u3 u4 u5 u6 u7 u8 u9)] → Q (.bool false) { s with heap := h', toks := tk' }) :
  wpAny (model PySem.Challenge.rw_pc0044_01.row.prog w) (ktrTop dp un gd cn cs L a ccd cl0 outer) (call (.ref 353) [.ref self, .ref st, .int j t7]) Q E s :=
  eps_all (P := lift_spec_P) (k := lift_spec_k) (by with_unfolding_all rfl) lift_spec_core { w := w, mean := mean, mg := mg, mb := mb, dp := dp, un := un, gd := gd, cn := cn, cs := cs, a := a, ccd := ccd, cl0 := cl0, outer := outer, A₀ := A₀, base := base, h₀ := h₀, L := L, m := m, s := s, Q := Q, E := E, Bo := pick true [], Ad := pick 0 [self, rd, sc, st, sd, dl, fl, tl, ml, nd, cl, d0, d1, d2, p0, p1, p2, dj, pj], In := pick 0 [a0, b0, y, c, d, j, lo, hi], Tk := pick 0 [t1, t2, t3, t4, t5, t6, t7, t8, t9, u1, u2, u3, u4, u5, u6, u7, u8, u9, w1, w2, w3, w4, w5, w6, w7, v1, v2, v3], Nt := pick 0 [kdl, ktl], Ar := pick #[] [tits], Ob := pick (tup []) [on], Kv := pick [] [kvs], Lv := pick [] [], Li := pick [] [], Lo := pick [] [], Hp := fun _ => h₀, Mp := fun _ => m, Vl := fun _ => ccd, Ov := fun _ => none, Cl := fun _ => [] } B F X T hk N hsp ho hon hoc hts hy hyb hab hcd hd1 hu1 hret hbad
end
section
local macro_rules | `(tactic| walk_at "exec While BoolOp cons nil") => `(tactic| open_z)
local macro_rules | `(tactic| walk_at "eval ListComp") => `(tactic| open_z)
def lower_spec_P (K9 : Ctx) : Prop :=
  (Below (K9.A₀) (K9.base) (K9.outer) (K9.h₀)) →
  (Fr (K9.h₀) (K9.L) (K9.s).heap (K9.m)) →
  ((kp.heap_1 (K9.w).params).In (K9.h₀)) →
  (TT (K9.mean) (K9.mg) (K9.mb) (K9.h₀)) →
  ((K9.cs).kind = .function) →
  (News (K9.h₀) (K9.L) (K9.s).heap [((K9.Ad 17), tup [.ref (K9.Ad 18)]), ((K9.Ad 18), tup [.int (K9.In 6) (K9.Tk 7), .int (K9.In 7) (K9.Tk 8)]), ((K9.Ad 0), W.instObj 437 (K9.Ad 1)), ((K9.Ad 1), remD (K9.w) (K9.Ad 2) (K9.Tk 18) (K9.Tk 19) (K9.Tk 20) (K9.Tk 21) (K9.Tk 22) (K9.Tk 23) (K9.Tk 24)), ((K9.Ad 2), tup [.int 0 (K9.Tk 25), .int 1 (K9.Tk 26), .int 2 (K9.Tk 27)]), ((K9.Ad 3), W.instObj 244 (K9.Ad 4)), ((K9.Ad 4), storeD (K9.w) (K9.Ad 5) (K9.Ad 6) (K9.Ad 7) (K9.Ad 8) (K9.Ad 9) false (K9.Ad 10) (K9.Tk 9) (K9.Tk 10) (K9.Tk 11) (K9.Tk 12) (K9.Tk 13) (K9.Tk 14) (K9.Tk 15) (K9.Tk 16) (K9.Tk 17)), ((K9.Ad 5), W.listOf #[.ref (K9.Ad 11), .ref (K9.Ad 12), .ref (K9.Ad 13)] (K9.Nt 0)), ((K9.Ad 7), W.listOf (K9.Ar 0) (K9.Nt 1)), ((K9.Ad 9), (K9.Ob 0)), ((K9.Ad 11), tup [.ref (K9.Ad 14)]), ((K9.Ad 14), tup [.int (K9.In 0) (K9.Tk 0), .int (K9.In 1) (K9.Tk 1)]), ((K9.Ad 12), tup [.ref (K9.Ad 15)]), ((K9.Ad 15), tup [.int (K9.In 2) (K9.Tk 2), .int (K9.In 2) (K9.Tk 3)]), ((K9.Ad 13), tup [.ref (K9.Ad 16)]), ((K9.Ad 16), tup [.int (K9.In 3) (K9.Tk 4), .int (K9.In 4) (K9.Tk 5)])]) →
  (Spot (K9.In 5) (K9.In 0) (K9.In 1) (K9.In 2) (K9.In 3) (K9.In 4) (K9.In 6) (K9.In 7) (K9.Ad 11) (K9.Ad 12) (K9.Ad 13) (K9.Ad 17)) →
  (@LT.lt Nat _ (K9.Ad 4) (K9.Ad 3) ∧ @LT.lt Nat _ (K9.Ad 3) (K9.Ad 5) ∧ @LT.lt Nat _ (K9.Ad 5) (K9.Ad 7) ∧ @LT.lt Nat _ (K9.Ad 7) (K9.Ad 9) ∧ @LT.lt Nat _ (K9.Ad 9) (K9.Ad 1)) →
  ((K9.Ob 0).IsDictOf (intKind PySem.Challenge.rw_pc0044_01.row.prog (K9.w)) (K9.Kv 0)) →
  ((K9.Ob 0).cls = .type "dict") →
  ((K9.Ar 0).size < 1000 ∧ (K9.Kv 0).length < 1000) →
  ((K9.In 2) ≠ 0) →
  (-1000 < (K9.In 2) ∧ (K9.In 2) < 1000) →
  (-1000 < (K9.In 0) ∧ (K9.In 0) ≤ (K9.In 1) ∧ (K9.In 1) < 1000) →
  (-1000 < (K9.In 3) ∧ (K9.In 3) ≤ (K9.In 4) ∧ (K9.In 4) < 1000) →
  ((K9.dp) + 12 < recursionLimit) →
  ((K9.un) + 500 < cLine) →
  (cbAt (K9.In 5) (K9.In 0) (K9.In 1) (K9.In 2) (K9.In 3) (K9.In 4) (K9.In 6) = true) →
  ((K9.In 6) ≤ oHi (K9.In 5) (K9.In 0) (K9.In 1) (K9.In 2) (K9.In 7)) →
  (∀ v q p' t t' tits' ktl' on' kvs' h' tk', (K9.In 6) ≤ v → v ≤ (K9.In 7) → v ≤ oHi (K9.In 5) (K9.In 0) (K9.In 1) (K9.In 2) (K9.In 7) → cbAt (K9.In 5) (K9.In 0) (K9.In 1) (K9.In 2) (K9.In 3) (K9.In 4) v = true → (∀ u, v < u → u ≤ (K9.In 7) → u ≤ oHi (K9.In 5) (K9.In 0) (K9.In 1) (K9.In 2) (K9.In 7) → cbAt (K9.In 5) (K9.In 0) (K9.In 1) (K9.In 2) (K9.In 3) (K9.In 4) u = false) →
    Fr (K9.h₀) (K9.L) h' (K9.m) → KeepBut [(K9.Ad 4), (K9.Ad 5), (K9.Ad 7), (K9.Ad 9)] (K9.s).heap h' → q ∉ [(K9.Ad 4), (K9.Ad 5), (K9.Ad 7), (K9.Ad 9)] ∧ p' ∉ [(K9.Ad 4), (K9.Ad 5), (K9.Ad 7), (K9.Ad 9)] → (tits'.size : Int) ≤ (K9.Ar 0).size + ((K9.In 7) - v) → on'.IsDictOf (intKind PySem.Challenge.rw_pc0044_01.row.prog (K9.w)) kvs' → on'.cls = .type "dict" → (kvs'.length : Int) ≤ (K9.Kv 0).length + ((K9.In 7) - v) →
    News (K9.h₀) (K9.L) h' [((K9.Ad 3), W.instObj 244 (K9.Ad 4)), ((K9.Ad 4), storeD (K9.w) (K9.Ad 5) (K9.Ad 6) (K9.Ad 7) (K9.Ad 8) (K9.Ad 9) false (K9.Ad 10) (K9.Tk 9) (K9.Tk 10) (K9.Tk 11) (K9.Tk 12) (K9.Tk 13) (K9.Tk 14) (K9.Tk 15) (K9.Tk 16) (K9.Tk 17)), ((K9.Ad 5), W.listOf (([.ref (K9.Ad 11), .ref (K9.Ad 12), .ref (K9.Ad 13)] : List Value).set (K9.In 5).toNat (.ref q)).toArray (K9.Nt 0)), ((K9.Ad 7), W.listOf tits' ktl'), ((K9.Ad 9), on'), (q, tup [.ref p']), (p', tup [.int (K9.In 6) t, .int v t'])] → (K9.Q) (.bool true) { (K9.s) with heap := h', toks := tk' }) →
  wpAny (model PySem.Challenge.rw_pc0044_01.row.prog (K9.w)) (ktrTop (K9.dp) (K9.un) (K9.gd) (K9.cn) (K9.cs) (K9.L) (K9.a) (K9.ccd) (K9.cl0) (K9.outer)) (call (.ref 358) [.ref (K9.Ad 0), .ref (K9.Ad 3), .int (K9.In 5) (K9.Tk 6)]) (K9.Q) (K9.E) (K9.s)
@[irreducible] noncomputable def lower_spec_k : Ctx := @Classical.epsilon Ctx ctx_ne fun c => ¬ lower_spec_P c
omit B F X T hk in
noncomputable def lower_spec_c : Σ' P9A : ((Tok) → (Heap) → (Addr) → (Heap) → (Nat) → (Obj) → (Addr) → (Addr) → (Addr) → (Addr) → (Nat) → (Tok) → (Tok) → (Tok) → (Tok) → (Tok) → (Tok) → (Heap) → (Nat) → (Addr) → (Tok) → (Tok) → Prop), ((∀ (vj : Tok) (dvA0 : Heap) (dvA1 : Addr) (dvA2 : Heap) (dvA3 : Nat) (dvA10 : Obj) (rg : Addr) (r0 : Addr) (r1 : Addr) (r2 : Addr) (n : Nat) (z1 : Tok) (z2 : Tok) (z3 : Tok) (z4 : Tok) (z5 : Tok) (z6 : Tok) (h' : Heap) (tk' : Nat) (rj : Addr) (z7 : Tok) (z8 : Tok), P9A vj dvA0 dvA1 dvA2 dvA3 dvA10 rg r0 r1 r2 n z1 z2 z3 z4 z5 z6 h' tk' rj z7 z8) → (lower_spec_P lower_spec_k)) := by
  refine' ⟨?P9A, fun G9A => ?main9⟩
  case main9 =>
    delta lower_spec_P
    intro B F X T hk N hsp ho hon hoc hts hy hyb hab hcd hd1 hu1 hpl hol hret
    have hK9 := kept_spot N ho hoc
    have hJ9 := Spot.bounds hsp
    have hE9 := Spot.ends hsp hab hyb hcd
    have hq9 : seqIndex? (lower_spec_k.In 5) ([.int 0 (lower_spec_k.Tk 25), .int 1 (lower_spec_k.Tk 26), .int 2 (lower_spec_k.Tk 27)] : List Value).length = some (lower_spec_k.In 5).toNat := spot_idx hJ9
    obtain ⟨vj, hvj⟩ := spot_int (v1 := (lower_spec_k.Tk 25)) (v2 := (lower_spec_k.Tk 26)) (v3 := (lower_spec_k.Tk 27)) hJ9
    refine wpAny_call ?_
    k_dflt ktr_enter
    k_steps
    refine Stop.out ?_
    (with_reducible rename Fr _ _ _ _ => FW)
    (with_reducible rename News _ _ _ _ => NW)
    refine ranges_cut (lower_spec_k.In 0) (lower_spec_k.In 1) (lower_spec_k.In 2) (lower_spec_k.In 2) (lower_spec_k.In 3) (lower_spec_k.In 4) FW NW ?key ?rest
    case key =>
      refine ListComp_tup (F₀ := FW) (by with_unfolding_all rfl) (by decide) (by rfl) (by decide) (by rfl) ?_
      k_steps
      exact RangesEnd.intro (by assumption) (by assumption) (by kcj_all)
    case rest =>
      intro rg r0 r1 r2 n z1 z2 z3 z4 z5 z6 h' tk' F' N'
      clear NW FW
      obtain ⟨rj, z7, z8, hrj, N'⟩ := Spot.range hsp N'
      rename_i dvA0 dvA1 dvA2 dvA3 fvA4 fvA5 fvA6 fvA7 fvA8 fvA9 dvA10 fvA11 fvA12
      revert B F X T hk N hsp ho hon hoc hts hy hyb hab hcd hd1 hu1 hpl hol hret hK9 hJ9 hE9 hq9 hvj fvA4 fvA5 fvA6 fvA7 fvA8 fvA9 fvA11 F' fvA12 hrj N'
      exact G9A vj dvA0 dvA1 dvA2 dvA3 dvA10 rg r0 r1 r2 n z1 z2 z3 z4 z5 z6 h' tk' rj z7 z8
def lower_spec_A_P (K8 : Ctx) : Prop := lower_spec_c.1 (K8.Tk 0) (K8.Hp 0) (K8.Ad 0) (K8.Hp 1) (K8.Ad 1) (K8.Ob 0) (K8.Ad 2) (K8.Ad 3) (K8.Ad 4) (K8.Ad 5) (K8.Ad 6) (K8.Tk 1) (K8.Tk 2) (K8.Tk 3) (K8.Tk 4) (K8.Tk 5) (K8.Tk 6) (K8.Hp 2) (K8.Ad 7) (K8.Ad 8) (K8.Tk 7) (K8.Tk 8)
@[irreducible] noncomputable def lower_spec_A_k : Ctx := @Classical.epsilon Ctx ctx_ne fun c => ¬ lower_spec_A_P c
omit B F X T hk in
theorem lower_spec_A_core : lower_spec_A_P lower_spec_A_k := by
  delta lower_spec_A_P lower_spec_c
  dsimp only
  intro B F X T hk N hsp ho hon hoc hts hy hyb hab hcd hd1 hu1 hpl hol hret hK9 hJ9 hE9 hq9 hvj fvA4 fvA5 fvA6 fvA7 fvA8 fvA9 fvA11 F' fvA12 hrj N'
  k_steps
  refine Stop.out ?_
  refine' while_down (x := Str.ofString "v") (fun v => cbAt (lower_spec_k.In 5) (lower_spec_k.In 0) (lower_spec_k.In 1) (lower_spec_k.In 2) (lower_spec_k.In 3) (lower_spec_k.In 4) v) (lower_spec_k.In 6) ?F ?N ?ht ?hb ?done ?hE
  case F => k_asm
  case N => k_asm
  case hE => passes_own
  case ht =>
    intro v t h tk hv1 hv2 F5 N5
    have hvb : -1000 < v ∧ v < 1000 := low_wide hv1 hv2 hE9 hol
    have hv9 : (lower_spec_k.In 5) = 1 → v ≠ 0 := Spot.one hsp hy (low_in hv1 hv2 hE9 hol).1 (low_in hv1 hv2 hE9 hol).2.1
    k_steps
    all_goals refine TestEnd.intro (by assumption) (by assumption) (by kcj_all) ?_
    all_goals symm
    · have hp9 : cbAt (lower_spec_k.In 5) (lower_spec_k.In 0) (lower_spec_k.In 1) (lower_spec_k.In 2) (lower_spec_k.In 3) (lower_spec_k.In 4) v = true := by assumption
      simp only [hp9, Bool.not_true, Bool.and_false]
    · have hp9 : cbAt (lower_spec_k.In 5) (lower_spec_k.In 0) (lower_spec_k.In 1) (lower_spec_k.In 2) (lower_spec_k.In 3) (lower_spec_k.In 4) v = false := by assumption
      have hq9 : (lower_spec_k.In 6) < v := by assumption
      simp only [hp9, Bool.not_false, Bool.and_true]
      exact decide_eq_true hq9
    · have hq9 : ¬ (lower_spec_k.In 6) < v := by assumption
      simp only [decide_eq_false hq9, Bool.false_and]
  case hb =>
    intro v t h tk hv1 F5 N5
    k_steps
    exact MoveEnd.intro (by assumption) (by assumption) (by kcj_all) (fun _ => ite_twice _ _ _)
  case done =>
    intro v t h tk hv1 hv2 hv3 hv4 F5 N5
    have hv7 := low_in hv1 hv2 hE9 hol
    have hpv : cbAt (lower_spec_k.In 5) (lower_spec_k.In 0) (lower_spec_k.In 1) (lower_spec_k.In 2) (lower_spec_k.In 3) (lower_spec_k.In 4) v = true := by
      by_cases e9 : (lower_spec_k.In 6) < v
      · exact hv4 e9
      · have e8 : v = (lower_spec_k.In 6) := low_eq (low_in hv1 hv2 hE9 hol).1 e9
        rw [e8]; exact hpl
    k_steps
    · refine' hret (lower_spec_k.In 7) (lower_spec_k.Ad 17) (lower_spec_k.Ad 18) _ _ (lower_spec_k.Ar 0) (lower_spec_k.Nt 1) (lower_spec_k.Ob 0) (lower_spec_k.Kv 0) _ _ ?g1 ?g2 ?g3 ?g4 ?g5 (by assumption) ?g7 ?gq ?g8 hon hoc ?g9 ?gN
      case g7 => exact keepBut_refl (keep_of (by assumption) (by assumption) (by assumption) (by assumption) (by kcj_all))
      case gN => rw [Spot.same hsp]; exact cb_drop (by assumption) (by kcj_all)
      case gq => exact ⟨hK9 ((lower_spec_k.Ad 17), tup [.ref (lower_spec_k.Ad 18)]) (by k_mem), hK9 ((lower_spec_k.Ad 18), tup [.int (lower_spec_k.In 6) (lower_spec_k.Tk 7), .int (lower_spec_k.In 7) (lower_spec_k.Tk 8)]) (by k_mem)⟩
      case g1 => exact hE9.2.1
      case g2 => exact Int.le_refl _
      case g3 => (with_reducible rename _ = (lower_spec_k.In 7) => e9); exact e9 ▸ hv7.2.2
      case g4 => (with_reducible rename _ = (lower_spec_k.In 7) => e9); rw [← e9]; exact hpv
      case g5 => exact fun u hu1 hu2 _ => absurd hu1 (Int.not_lt.mpr hu2)
      case g8 => exact sz_same
      case g9 => exact sz_same
    · refine Stop.out ?_
      refine' enter_le ?k1 ?k2 ?k3 ?k5 ?kK ?k4 ?ko hon hoc hts ?klt hJ9.1 (Spot.small hsp) (Spot.short hsp) (Spot.get hsp) ?kd ?ku ?r1 ?r2
      case k1 => k_asm
      case k2 => k_asm
      case k3 => k_asm
      case k5 => k_asm
      case kK => first | exact rfl | assumption
      case k4 => exact cb_drop (by assumption) (by kcj_all)
      case ko => exact ⟨ho.1, ho.2.1, ho.2.2.1, ho.2.2.2.1⟩
      case klt => exact low_klt hv1 (by assumption)
      case kd => ktr_room
      case ku => ktr_units
      case r2 => exact fun _ _ _ hle9 => absurd hle9 (Int.not_lt.mpr hv7.1)
      case r1 =>
        k_whole
        intro q p' t9' tA tits' ktl' on' kvs' h9' tk9' hle9 F9' K9'
        (with_reducible rename News _ _ _ _ => N09)
        have M1 := news_keep2 (sub := [((lower_spec_k.Ad 17), tup [.ref (lower_spec_k.Ad 18)]), ((lower_spec_k.Ad 18), tup [.int (lower_spec_k.In 6) (lower_spec_k.Tk 7), .int (lower_spec_k.In 7) (lower_spec_k.Tk 8)]), ((lower_spec_k.Ad 0), W.instObj 437 (lower_spec_k.Ad 1)), ((lower_spec_k.Ad 1), remD (lower_spec_k.w) (lower_spec_k.Ad 2) (lower_spec_k.Tk 18) (lower_spec_k.Tk 19) (lower_spec_k.Tk 20) (lower_spec_k.Tk 21) (lower_spec_k.Tk 22) (lower_spec_k.Tk 23) (lower_spec_k.Tk 24)), ((lower_spec_k.Ad 2), tup [.int 0 (lower_spec_k.Tk 25), .int 1 (lower_spec_k.Tk 26), .int 2 (lower_spec_k.Tk 27)]), ((lower_spec_k.Ad 11), tup [.ref (lower_spec_k.Ad 14)]), ((lower_spec_k.Ad 14), tup [.int (lower_spec_k.In 0) (lower_spec_k.Tk 0), .int (lower_spec_k.In 1) (lower_spec_k.Tk 1)]), ((lower_spec_k.Ad 12), tup [.ref (lower_spec_k.Ad 15)]), ((lower_spec_k.Ad 15), tup [.int (lower_spec_k.In 2) (lower_spec_k.Tk 2), .int (lower_spec_k.In 2) (lower_spec_k.Tk 3)]), ((lower_spec_k.Ad 13), tup [.ref (lower_spec_k.Ad 16)]), ((lower_spec_k.Ad 16), tup [.int (lower_spec_k.In 3) (lower_spec_k.Tk 4), .int (lower_spec_k.In 4) (lower_spec_k.Tk 5)])]) N09 K9' (by kcj_all) hK9
        intro Z1 Z2 hs1 hd9 hc9 hs2 M9'
        rw [low_min hv1] at M9'
        have lZ := fresh_ne Z1 N09
        have lY := fresh_ne Z2 N09
        have off9 : q ∉ [(lower_spec_k.Ad 4), (lower_spec_k.Ad 5), (lower_spec_k.Ad 7), (lower_spec_k.Ad 9)] ∧ p' ∉ [(lower_spec_k.Ad 4), (lower_spec_k.Ad 5), (lower_spec_k.Ad 7), (lower_spec_k.Ad 9)] := ⟨AllNe.off4 (o₁ := storeD (lower_spec_k.w) (lower_spec_k.Ad 5) (lower_spec_k.Ad 6) (lower_spec_k.Ad 7) (lower_spec_k.Ad 8) (lower_spec_k.Ad 9) false (lower_spec_k.Ad 10) (lower_spec_k.Tk 9) (lower_spec_k.Tk 10) (lower_spec_k.Tk 11) (lower_spec_k.Tk 12) (lower_spec_k.Tk 13) (lower_spec_k.Tk 14) (lower_spec_k.Tk 15) (lower_spec_k.Tk 16) (lower_spec_k.Tk 17)) (o₂ := W.listOf #[.ref (lower_spec_k.Ad 11), .ref (lower_spec_k.Ad 12), .ref (lower_spec_k.Ad 13)] (lower_spec_k.Nt 0)) (o₃ := W.listOf (lower_spec_k.Ar 0) (lower_spec_k.Nt 1)) (o₄ := (lower_spec_k.Ob 0)) lZ (by k_mem) (by k_mem) (by k_mem) (by k_mem), AllNe.off4 (o₁ := storeD (lower_spec_k.w) (lower_spec_k.Ad 5) (lower_spec_k.Ad 6) (lower_spec_k.Ad 7) (lower_spec_k.Ad 8) (lower_spec_k.Ad 9) false (lower_spec_k.Ad 10) (lower_spec_k.Tk 9) (lower_spec_k.Tk 10) (lower_spec_k.Tk 11) (lower_spec_k.Tk 12) (lower_spec_k.Tk 13) (lower_spec_k.Tk 14) (lower_spec_k.Tk 15) (lower_spec_k.Tk 16) (lower_spec_k.Tk 17)) (o₂ := W.listOf #[.ref (lower_spec_k.Ad 11), .ref (lower_spec_k.Ad 12), .ref (lower_spec_k.Ad 13)] (lower_spec_k.Nt 0)) (o₃ := W.listOf (lower_spec_k.Ar 0) (lower_spec_k.Nt 1)) (o₄ := (lower_spec_k.Ob 0)) lY (by k_mem) (by k_mem) (by k_mem) (by k_mem)⟩
        have N9' := news_app M9' M1
        clear M9' M1 N09
        simp only [List.cons_append, List.nil_append] at N9'
        k_steps
        refine' hret v _ _ _ _ _ _ _ _ _ _ ?g1 ?g2 ?g3 ?g4 ?g5 (by assumption) ?g7 ?gq ?g8 hd9 hc9 ?g9 ?gN
        case g7 => exact keepBut_of (by assumption) (by assumption) (by assumption) (by assumption) (by ktn_open)
        case gN => exact cb_drop (by assumption) (by kcj_all)
        case gq => exact off9
        case g8 => exact sz_up hs1 (low_klt hv1 (by assumption))
        case g9 => exact sz_up hs2 (low_klt hv1 (by assumption))
        case g1 => exact hv7.1
        case g2 => exact hv7.2.1
        case g3 => exact hv7.2.2
        case g4 => exact hpv
        case g5 => intro u hu1 hu2 hu3; exact (hv3 u hu1 (Int.le_min.mpr ⟨hu2, hu3⟩)).2
omit B F X T hk in
theorem lower_spec_core : lower_spec_P lower_spec_k :=
  lower_spec_c.2
    (fun vj dvA0 dvA1 dvA2 dvA3 dvA10 rg r0 r1 r2 n z1 z2 z3 z4 z5 z6 h' tk' rj z7 z8 => eps_all (P := lower_spec_A_P) (k := lower_spec_A_k) (by with_unfolding_all rfl) lower_spec_A_core { lower_spec_k with Tk := pick (lower_spec_k.Tk 0) [vj, z1, z2, z3, z4, z5, z6, z7, z8], Hp := pick (lower_spec_k.Hp 0) [dvA0, dvA2, h'], Ad := pick (lower_spec_k.Ad 0) [dvA1, dvA3, rg, r0, r1, r2, n, tk', rj], Ob := pick (lower_spec_k.Ob 0) [dvA10] })
theorem lower_spec {self rd sc st sd dl fl tl ml nd cl d0 d1 d2 p0 p1 p2 dj pj : Addr} {a0 b0 y c d j lo hi : Int} {t1 t2 t3 t4 t5 t6 t7 t8 t9 u1 u2 u3 u4 u5 u6 u7 u8 u9 w1 w2 w3 w4 w5 w6 w7 v1 v2 v3 : Tok} {kdl ktl : Nat} {tits : Array Value} {on : Obj} {kvs : List (Int × Value)}
  (N : News h₀ L s.heap [(dj, tup [.ref pj]), (pj, tup [.int lo t8, .int hi t9]), (self, W.instObj 437 rd), (rd, remD w sc w1 w2 w3 w4 w5 w6 w7), (sc, tup [.int 0 v1, .int 1 v2, .int 2 v3]), (st, W.instObj 244 sd), (sd, storeD w dl fl tl ml nd false cl u1 u2 u3 u4 u5 u6 u7 u8 u9), (dl, W.listOf #[.ref d0, .ref d1, .ref d2] kdl), (tl, W.listOf tits ktl), (nd, on), (d0, tup [.ref p0]), (p0, tup [.int a0 t1, .int b0 t2]), (d1, tup [.ref p1]), (p1, tup [.int y t3, .int y t4]), (d2, tup [.ref p2]), (p2, tup [.int c t5, .int d t6])])
  (hsp : Spot j a0 b0 y c d lo hi d0 d1 d2 dj)
  (ho : @LT.lt Nat _ sd st ∧ @LT.lt Nat _ st dl ∧ @LT.lt Nat _ dl tl ∧ @LT.lt Nat _ tl nd ∧ @LT.lt Nat _ nd rd)
  (hon : on.IsDictOf (intKind PySem.Challenge.rw_pc0044_01.row.prog w) kvs) (hoc : on.cls = .type "dict") (hts : tits.size < 1000 ∧ kvs.length < 1000)
  (hy : y ≠ 0) (hyb : -1000 < y ∧ y < 1000) (hab : -1000 < a0 ∧ a0 ≤ b0 ∧ b0 < 1000) (hcd : -1000 < c ∧ c ≤ d ∧ d < 1000)
  (hd1 : dp + 12 < recursionLimit) (hu1 : un + 500 < cLine)
  (hpl : cbAt j a0 b0 y c d lo = true) (hol : lo ≤ oHi j a0 b0 y hi)
  (hret : ∀ v q p' t t' tits' ktl' on' kvs' h' tk', lo ≤ v → v ≤ hi → v ≤ oHi j a0 b0 y hi → cbAt j a0 b0 y c d v = true → (∀ u, v < u → u ≤ hi → u ≤ oHi j a0 b0 y hi → cbAt j a0 b0 y c d u = false) →
    Fr h₀ L h' m → KeepBut [sd, dl, tl, nd] s.heap h' → q ∉ [sd, dl, tl, nd] ∧ p' ∉ [sd, dl, tl, nd] → (tits'.size : Int) ≤ tits.size + (hi - v) → on'.IsDictOf (intKind PySem.Challenge.rw_pc0044_01.row.prog w) kvs' → on'.cls = .type "dict" → (kvs'.length : Int) ≤ kvs.length + (hi - v) →
    News h₀ L h' [(st, W.instObj 244 sd), (sd, storeD w dl fl tl ml nd false cl u1 u2 u3 u4 u5 u6 u7 u8 u9), (dl, W.listOf (([.ref d0, .ref d1, .ref d2] : List Value).set j.toNat (.ref q)).toArray kdl), (tl, W.listOf tits' ktl'), (nd, on'), (q, tup [.ref p']), (p', tup [.int lo t, .int v t'])] → Q (.bool true) { s with heap := h', toks := tk' }) :
  wpAny (model PySem.Challenge.rw_pc0044_01.row.prog w) (ktrTop dp un gd cn cs L a ccd cl0 outer) (call (.ref 358) [.ref self, .ref st, .int j t7]) Q E s :=
  eps_all (P := lower_spec_P) (k := lower_spec_k) (by with_unfolding_all rfl) lower_spec_core { w := w, mean := mean, mg := mg, mb := mb, dp := dp, un := un, gd := gd, cn := cn, cs := cs, a := a, ccd := ccd, cl0 := cl0, outer := outer, A₀ := A₀, base := base, h₀ := h₀, L := L, m := m, s := s, Q := Q, E := E, Bo := pick true [], Ad := pick 0 [self, rd, sc, st, sd, dl, fl, tl, ml, nd, cl, d0, d1, d2, p0, p1, p2, dj, pj], In := pick 0 [a0, b0, y, c, d, j, lo, hi], Tk := pick 0 [t1, t2, t3, t4, t5, t6, t7, t8, t9, u1, u2, u3, u4, u5, u6, u7, u8, u9, w1, w2, w3, w4, w5, w6, w7, v1, v2, v3], Nt := pick 0 [kdl, ktl], Ar := pick #[] [tits], Ob := pick (tup []) [on], Kv := pick [] [kvs], Lv := pick [] [], Li := pick [] [], Lo := pick [] [], Hp := fun _ => h₀, Mp := fun _ => m, Vl := fun _ => ccd, Ov := fun _ => none, Cl := fun _ => [] } B F X T hk N hsp ho hon hoc hts hy hyb hab hcd hd1 hu1 hpl hol hret
end
end
section
local macro_rules | `(tactic| walk_at "exec While BoolOp cons nil") => `(tactic| open_z)
local macro_rules | `(tactic| walk_at "compareOp NotEq none ref") => `(tactic| (k_here; k_dflt (refine' ne_none_doms (by k_asm) (by k_mem) (by k_mem) (by k_mem) (by k_mem) (by k_mem) (by k_mem) (by k_mem) (by ktr_units) ?_; k_whole)))
local macro_rules | `(tactic| walk_at "exec Assign cons ListComp") => `(tactic| open_z)
local macro_rules | `(tactic| walk_at "compareOp NotEq ref ref") => `(tactic| (k_here; k_dflt (refine' ne_doms (by k_asm) (by k_mem) (by k_mem) (by k_mem) (by k_mem) (by k_mem) (by k_mem) (by k_mem) (by k_mem) (by k_mem) (by k_mem) (by k_mem) (by k_mem) (by k_mem) (by k_mem) (by ktr_units) ?_; k_whole)))
local macro_rules | `(tactic| walk_at "RangeRest") => `(tactic| (refine Stop.intro ?_))
local macro_rules | `(tactic| walk_at "UnrEnd") => `(tactic| (refine Stop.intro ?_))
def propB_spec_P (K9 : Ctx) : Prop :=
  (Below (K9.A₀) (K9.base) (K9.outer) (K9.h₀)) →
  (Fr (K9.h₀) (K9.L) (K9.s).heap (K9.m)) →
  ((kp.heap_1 (K9.w).params).In (K9.h₀)) →
  (TT (K9.mean) (K9.mg) (K9.mb) (K9.h₀)) →
  ((K9.cs).kind = .function) →
  (News (K9.h₀) (K9.L) (K9.s).heap [((K9.Ad 0), W.instObj 437 (K9.Ad 1)), ((K9.Ad 1), remD (K9.w) (K9.Ad 2) (K9.Tk 15) (K9.Tk 16) (K9.Tk 17) (K9.Tk 18) (K9.Tk 19) (K9.Tk 20) (K9.Tk 21)), ((K9.Ad 2), tup [.int 0 (K9.Tk 22), .int 1 (K9.Tk 23), .int 2 (K9.Tk 24)]), ((K9.Ad 3), W.instObj 244 (K9.Ad 4)), ((K9.Ad 4), storeD (K9.w) (K9.Ad 5) (K9.Ad 6) (K9.Ad 7) (K9.Ad 8) (K9.Ad 9) false (K9.Ad 10) (K9.Tk 6) (K9.Tk 7) (K9.Tk 8) (K9.Tk 9) (K9.Tk 10) (K9.Tk 11) (K9.Tk 12) (K9.Tk 13) (K9.Tk 14)), ((K9.Ad 5), W.listOf #[.ref (K9.Ad 11), .ref (K9.Ad 12), .ref (K9.Ad 13)] (K9.Nt 0)), ((K9.Ad 7), W.listOf (K9.Ar 0) (K9.Nt 1)), ((K9.Ad 9), (K9.Ob 0)), ((K9.Ad 11), tup [.ref (K9.Ad 14)]), ((K9.Ad 14), tup [.int (K9.In 0) (K9.Tk 0), .int (K9.In 1) (K9.Tk 1)]), ((K9.Ad 12), tup [.ref (K9.Ad 15)]), ((K9.Ad 15), tup [.int (K9.In 2) (K9.Tk 2), .int (K9.In 2) (K9.Tk 3)]), ((K9.Ad 13), tup [.ref (K9.Ad 16)]), ((K9.Ad 16), tup [.int (K9.In 3) (K9.Tk 4), .int (K9.In 4) (K9.Tk 5)])]) →
  (@LT.lt Nat _ (K9.Ad 4) (K9.Ad 3) ∧ @LT.lt Nat _ (K9.Ad 3) (K9.Ad 5) ∧ @LT.lt Nat _ (K9.Ad 5) (K9.Ad 7) ∧ @LT.lt Nat _ (K9.Ad 7) (K9.Ad 9) ∧ @LT.lt Nat _ (K9.Ad 9) (K9.Ad 1)) →
  ((K9.Ob 0).IsDictOf (intKind PySem.Challenge.rw_pc0044_01.row.prog (K9.w)) (K9.Kv 0)) →
  ((K9.Ob 0).cls = .type "dict") →
  ((K9.Ar 0).size < 1000 ∧ (K9.Kv 0).length < 1000) →
  ((K9.In 2) ≠ 0) →
  (-1000 < (K9.In 2) ∧ (K9.In 2) < 1000) →
  (-1000 < (K9.In 0) ∧ (K9.In 0) ≤ (K9.In 1) ∧ (K9.In 1) < 1000) →
  (-1000 < (K9.In 3) ∧ (K9.In 3) ≤ (K9.In 4) ∧ (K9.In 4) < 1000) →
  (((K9.Ar 0).size : Int) + ((K9.In 1) - (K9.In 0)) + ((K9.In 4) - (K9.In 3)) ≤ (K9.In 5) ∧ ((K9.Kv 0).length : Int) + ((K9.In 1) - (K9.In 0)) + ((K9.In 4) - (K9.In 3)) ≤ (K9.In 5) ∧ (K9.In 5) < 900) →
  ((K9.dp) + 16 < recursionLimit) →
  ((K9.un) + 700 < cLine) →
  (∀ a' b' c' d' q0 q1 q2 z0 z1 z2 s1 s2 s3 s4 s5 s6 tits' ktl' on' h' tk', (∀ k, inS (K9.In 2) (K9.In 0) (K9.In 1) (K9.In 3) (K9.In 4) k ↔ inS (K9.In 2) a' b' c' d' k) → Fix (K9.In 2) a' b' c' d' → Fr (K9.h₀) (K9.L) h' (K9.m) → KeepBut [(K9.Ad 4), (K9.Ad 5), (K9.Ad 7), (K9.Ad 9), (K9.Ad 11), (K9.Ad 12), (K9.Ad 15), (K9.Ad 13)] (K9.s).heap h' →
    News (K9.h₀) (K9.L) h' [((K9.Ad 3), W.instObj 244 (K9.Ad 4)), ((K9.Ad 4), storeD (K9.w) (K9.Ad 5) (K9.Ad 6) (K9.Ad 7) (K9.Ad 8) (K9.Ad 9) false (K9.Ad 10) (K9.Tk 6) (K9.Tk 7) (K9.Tk 8) (K9.Tk 9) (K9.Tk 10) (K9.Tk 11) (K9.Tk 12) (K9.Tk 13) (K9.Tk 14)), ((K9.Ad 5), W.listOf #[.ref q0, .ref q1, .ref q2] (K9.Nt 0)), ((K9.Ad 7), W.listOf tits' ktl'), ((K9.Ad 9), on'), (q0, tup [.ref z0]), (z0, tup [.int a' s1, .int b' s2]), (q1, tup [.ref z1]), (z1, tup [.int (K9.In 2) s3, .int (K9.In 2) s4]), (q2, tup [.ref z2]), (z2, tup [.int c' s5, .int d' s6])] → (K9.Q) (.bool true) { (K9.s) with heap := h', toks := tk' }) →
  (∀ cl' h' tk', (∀ k, ¬ inS (K9.In 2) (K9.In 0) (K9.In 1) (K9.In 3) (K9.In 4) k) → Fr (K9.h₀) (K9.L) h' (K9.m) → KeepBut [(K9.Ad 4), (K9.Ad 5), (K9.Ad 7), (K9.Ad 9), (K9.Ad 11), (K9.Ad 12), (K9.Ad 15), (K9.Ad 13)] (K9.s).heap h' →
    News (K9.h₀) (K9.L) h' [((K9.Ad 3), W.instObj 244 (K9.Ad 4)), ((K9.Ad 4), storeD (K9.w) (K9.Ad 5) (K9.Ad 6) (K9.Ad 7) (K9.Ad 8) (K9.Ad 9) true cl' (K9.Tk 6) (K9.Tk 7) (K9.Tk 8) (K9.Tk 9) (K9.Tk 10) (K9.Tk 11) (K9.Tk 12) (K9.Tk 13) (K9.Tk 14))] → (K9.Q) (.bool false) { (K9.s) with heap := h', toks := tk' }) →
  wpAny (model PySem.Challenge.rw_pc0044_01.row.prog (K9.w)) (ktrTop (K9.dp) (K9.un) (K9.gd) (K9.cn) (K9.cs) (K9.L) (K9.a) (K9.ccd) (K9.cl0) (K9.outer)) (call (.ref 363) [.ref (K9.Ad 0), .ref (K9.Ad 3)]) (K9.Q) (K9.E) (K9.s)
@[irreducible] noncomputable def propB_spec_k : Ctx := @Classical.epsilon Ctx ctx_ne fun c => ¬ propB_spec_P c
omit B F X T hk in
noncomputable def propB_spec_c : Σ' P9A : ((Heap) → (Nat) → (Obj) → (Addr) → (Heap) → (Addr) → (Addr) → (Addr) → (Addr) → (Addr) → (Addr) → (Int) → (Int) → (Int) → (Int) → (Tok) → (Tok) → (Tok) → (Tok) → (Tok) → (Tok) → (Nat) → (Array Value) → (Obj) → (List (Int × Value)) → (Option Value) → (Value) → (List (Addr × Obj)) → (Heap) → (Nat) → Prop), ((∀ (dvA0 : Heap) (dvA1 : Nat) (co9 : Obj) (L9 : Addr) (dvA9 : Heap) (e0 : Addr) (e1 : Addr) (e2 : Addr) (f0 : Addr) (f1 : Addr) (f2 : Addr) (a1 : Int) (b1 : Int) (c1 : Int) (d1' : Int) (r1 : Tok) (r2 : Tok) (r3 : Tok) (r4 : Tok) (r5 : Tok) (r6 : Tok) (ktl1 : Nat) (tits1 : Array Value) (on1 : Obj) (kvs1 : List (Int × Value)) (sv : Option Value) (bv : Value) (bf : List (Addr × Obj)) (h₂ : Heap) (tk₂ : Nat), P9A dvA0 dvA1 co9 L9 dvA9 e0 e1 e2 f0 f1 f2 a1 b1 c1 d1' r1 r2 r3 r4 r5 r6 ktl1 tits1 on1 kvs1 sv bv bf h₂ tk₂) → (propB_spec_P propB_spec_k)) := by
  refine' ⟨?P9A, fun G9A => ?main9⟩
  case main9 =>
    delta propB_spec_P
    intro B F X T hk N ho hon hoc hts hy hyb hab hcd hB hd1 hu1 hret hbad
    have hK9 := kept_off N ho hoc
    refine wpAny_call ?_
    k_dflt ktr_enter
    (with_reducible rename Obj => co9)
    (with_reducible rename News _ _ _ _ => NW)
    refine name_place NW ?_
    intro L9 hL9'
    subst hL9'
    have hL9 : L9 + 1 ∉ [(propB_spec_k.Ad 4), (propB_spec_k.Ad 5), (propB_spec_k.Ad 7), (propB_spec_k.Ad 9)] := notin4 (neN (by omega)) (neN (by omega)) (neN (by omega)) (neN (by omega))
    k_steps
    refine Stop.out ?_
    (with_reducible rename Fr _ _ _ _ => FW)
    refine name_frame FW ?_
    intro mb9 hmb9
    refine' While_inv2 (n₀ := (((propB_spec_k.In 1) - (propB_spec_k.In 0)) + ((propB_spec_k.In 4) - (propB_spec_k.In 3))).toNat + 1) (PropJ (propB_spec_k.w) (propB_spec_k.Ad 0) (propB_spec_k.Ad 1) (propB_spec_k.Ad 2) (propB_spec_k.Ad 3) (propB_spec_k.Ad 4) (propB_spec_k.Ad 5) (propB_spec_k.Ad 6) (propB_spec_k.Ad 7) (propB_spec_k.Ad 8) (propB_spec_k.Ad 9) (propB_spec_k.Ad 10) (L9 + 1) co9 ((propB_spec_k.Ad 14), tup [.int (propB_spec_k.In 0) (propB_spec_k.Tk 0), .int (propB_spec_k.In 1) (propB_spec_k.Tk 1)]) ((propB_spec_k.Ad 16), tup [.int (propB_spec_k.In 3) (propB_spec_k.Tk 4), .int (propB_spec_k.In 4) (propB_spec_k.Tk 5)]) (propB_spec_k.Tk 6) (propB_spec_k.Tk 7) (propB_spec_k.Tk 8) (propB_spec_k.Tk 9) (propB_spec_k.Tk 10) (propB_spec_k.Tk 11) (propB_spec_k.Tk 12) (propB_spec_k.Tk 13) (propB_spec_k.Tk 14) (propB_spec_k.Tk 15) (propB_spec_k.Tk 16) (propB_spec_k.Tk 17) (propB_spec_k.Tk 18) (propB_spec_k.Tk 19) (propB_spec_k.Tk 20) (propB_spec_k.Tk 21) (propB_spec_k.Tk 22) (propB_spec_k.Tk 23) (propB_spec_k.Tk 24) (propB_spec_k.Nt 0) (propB_spec_k.In 2) (propB_spec_k.In 0) (propB_spec_k.In 1) (propB_spec_k.In 3) (propB_spec_k.In 4) (propB_spec_k.In 5) mb9) ?F ?N ?hJ ?turn ?hE
    case F => k_asm
    case hE => passes_own
    case hJ =>
      refine ⟨(propB_spec_k.Ad 11), (propB_spec_k.Ad 12), (propB_spec_k.Ad 13), (propB_spec_k.Ad 14), (propB_spec_k.Ad 15), (propB_spec_k.Ad 16), (propB_spec_k.In 0), (propB_spec_k.In 1), (propB_spec_k.In 3), (propB_spec_k.In 4), (propB_spec_k.Tk 0), (propB_spec_k.Tk 1), (propB_spec_k.Tk 2), (propB_spec_k.Tk 3), (propB_spec_k.Tk 4), (propB_spec_k.Tk 5), (propB_spec_k.Nt 1), (propB_spec_k.Ar 0), (propB_spec_k.Ob 0), (propB_spec_k.Kv 0), none, .none, false, [], ?_, rfl, hon, hoc, ⟨hB.1, hB.2.1⟩, hab, hcd, fun _ => Iff.rfl, allC hL9 (off_sub hK9 (by kcj_all)), ?_, ?_, ?_⟩
      rotate_left
      · intro h; cases h
      · rfl
      · exact .none rfl rfl rfl
      funext z
      by_cases h1 : z = Str.ofString "spot" <;> by_cases h2 : z = Str.ofString "before"
      · rw [if_pos h1, if_pos h2]; rw [h2] at h1; exact absurd h1 (by decide)
      · rw [if_pos h1, if_neg h2, h1]; rfl
      · rw [if_neg h1, if_pos h2]; rw [if_pos h2]
      · rw [if_neg h1, if_neg h2, hmb9]; rw [if_neg h2]
    case N => exact cb_drop (by assumption) (by kcj_all)
    case turn =>
      subst hmb9
      clear hK9 FW
      rintro n m₁ nw h₁ tk₁ F₁ N₁ ⟨e0, e1, e2, f0, f1, f2, a1, b1, c1, d1', r1, r2, r3, r4, r5, r6, ktl1, tits1, on1, kvs1, sv, bv, e, bf, rfl, rfl, hd1n, hc1n, hB1, hab1, hcd1, hS, KA0, hfix, rfl, hbv⟩
      refine test_cut [(L9 + 1, co9), ((propB_spec_k.Ad 0), W.instObj 437 (propB_spec_k.Ad 1)), ((propB_spec_k.Ad 1), remD (propB_spec_k.w) (propB_spec_k.Ad 2) (propB_spec_k.Tk 15) (propB_spec_k.Tk 16) (propB_spec_k.Tk 17) (propB_spec_k.Tk 18) (propB_spec_k.Tk 19) (propB_spec_k.Tk 20) (propB_spec_k.Tk 21)), ((propB_spec_k.Ad 2), tup [.int 0 (propB_spec_k.Tk 22), .int 1 (propB_spec_k.Tk 23), .int 2 (propB_spec_k.Tk 24)]), ((propB_spec_k.Ad 14), tup [.int (propB_spec_k.In 0) (propB_spec_k.Tk 0), .int (propB_spec_k.In 1) (propB_spec_k.Tk 1)]), ((propB_spec_k.Ad 16), tup [.int (propB_spec_k.In 3) (propB_spec_k.Tk 4), .int (propB_spec_k.In 4) (propB_spec_k.Tk 5)]), ((propB_spec_k.Ad 3), W.instObj 244 (propB_spec_k.Ad 4)), ((propB_spec_k.Ad 4), storeD (propB_spec_k.w) (propB_spec_k.Ad 5) (propB_spec_k.Ad 6) (propB_spec_k.Ad 7) (propB_spec_k.Ad 8) (propB_spec_k.Ad 9) false (propB_spec_k.Ad 10) (propB_spec_k.Tk 6) (propB_spec_k.Tk 7) (propB_spec_k.Tk 8) (propB_spec_k.Tk 9) (propB_spec_k.Tk 10) (propB_spec_k.Tk 11) (propB_spec_k.Tk 12) (propB_spec_k.Tk 13) (propB_spec_k.Tk 14)), ((propB_spec_k.Ad 5), W.listOf #[.ref e0, .ref e1, .ref e2] (propB_spec_k.Nt 0)), ((propB_spec_k.Ad 7), W.listOf tits1 ktl1), ((propB_spec_k.Ad 9), on1), (e0, tup [.ref f0]), (f0, tup [.int a1 r1, .int b1 r2]), (e1, tup [.ref f1]), (f1, tup [.int (propB_spec_k.In 2) r3, .int (propB_spec_k.In 2) r4]), (e2, tup [.ref f2]), (f2, tup [.int c1 r5, .int d1' r6])] (!e) F₁ ?test ?after
      case test =>
        rcases hbv with ⟨rfl, rfl, rfl⟩ | ⟨l, g0, g1, g2, k0, k1, k2, pa, pb, pc, pd, o1, o2, o3, o4, o5, o6, kk, rfl, rfl, he⟩
        · k_steps
          exact TestEnd.intro (by assumption) (by assumption) (by kcj_all) rfl
        · subst he
          k_steps
          all_goals refine TestEnd.intro (by assumption) (by assumption) (by kcj_all) ?_
          · (with_reducible rename _ ∧ _ => q9); symm; rw [decide_eq_true q9]; rfl
          · (with_reducible rename ¬ (_ ∧ _) => q9); symm; rw [decide_eq_false q9]; rfl
      case after =>
        intro h₂ tk₂ F₂ N₂
        clear F₁ N₁ hbv
        cases e with
        | true =>
          simp only [Bool.not_true, Bool.false_eq_true, if_false]
          k_steps
          refine' hret _ _ _ _ _ _ _ _ _ _ _ _ _ _ _ _ _ _ _ _ _ hS (hfix rfl) (by assumption) ?g7 ?gN
          case g7 => exact keepBut_of (by assumption) (by assumption) (by assumption) (by assumption) (by ktn_open)
          case gN => exact cb_drop (by assumption) (by kcj_all)
        | false =>
          clear hfix
          simp only [Bool.not_false, if_true]
          rename_i dvA0 _ dvA1 fvA2 fvA3 fvA4 fvA5 fvA6 fvA7 fvA8 dvA9 fvA10
          revert B F X T hk N ho hon hoc hts hy hyb hab hcd hB hd1 hu1 hret hbad fvA2 fvA3 fvA4 fvA5 fvA6 fvA7 fvA8 hL9 fvA10 hd1n hc1n hB1 hab1 hcd1 hS KA0 F₂ N₂
          exact G9A dvA0 dvA1 co9 L9 dvA9 e0 e1 e2 f0 f1 f2 a1 b1 c1 d1' r1 r2 r3 r4 r5 r6 ktl1 tits1 on1 kvs1 sv bv bf h₂ tk₂
def propB_spec_A_P (K8 : Ctx) : Prop := propB_spec_c.1 (K8.Hp 0) (K8.Ad 0) (K8.Ob 0) (K8.Ad 1) (K8.Hp 1) (K8.Ad 2) (K8.Ad 3) (K8.Ad 4) (K8.Ad 5) (K8.Ad 6) (K8.Ad 7) (K8.In 0) (K8.In 1) (K8.In 2) (K8.In 3) (K8.Tk 0) (K8.Tk 1) (K8.Tk 2) (K8.Tk 3) (K8.Tk 4) (K8.Tk 5) (K8.Ad 8) (K8.Ar 0) (K8.Ob 1) (K8.Kv 0) (K8.Ov 0) (K8.Vl 0) (K8.Lo 0) (K8.Hp 2) (K8.Ad 9)
@[irreducible] noncomputable def propB_spec_A_k : Ctx := @Classical.epsilon Ctx ctx_ne fun c => ¬ propB_spec_A_P c
omit B F X T hk in
noncomputable def propB_spec_A_c : Σ' P9B : ((Addr) → (Nat) → (Heap) → (Nat) → (Heap) → (Nat) → (Tok) → (Tok) → (Tok) → (Nat) → (Addr) → (Addr) → (Addr) → (Addr) → (Addr) → (Addr) → (Int) → (Int) → (Int) → (Int) → (Tok) → (Tok) → (Tok) → (Tok) → (Tok) → (Tok) → (Nat) → (Array Value) → (Obj) → (List (Int × Value)) → (Option Value) → (Tok) → (Heap) → (Nat) → (Int) → (Int) → (Addr) → (Addr) → (Tok) → (Tok) → (Obj) → (Addr) → Prop), ((∀ (l9 : Addr) (n9 : Nat) (h₃ : Heap) (tk₃ : Nat) (dvB1 : Heap) (dvB2 : Nat) (dvB3 : Tok) (dvB4 : Tok) (dvB5 : Tok) (i : Nat) (g0 : Addr) (g1 : Addr) (g2 : Addr) (k0 : Addr) (k1 : Addr) (k2 : Addr) (a2 : Int) (b2 : Int) (c2 : Int) (dd2 : Int) (m1 : Tok) (m2 : Tok) (m3 : Tok) (m4 : Tok) (m5 : Tok) (m6 : Tok) (ktl2 : Nat) (tits2 : Array Value) (on2 : Obj) (kvs2 : List (Int × Value)) (sv2 : Option Value) (ti : Tok) (h : Heap) (tk : Nat) (lo9 : Int) (hi9 : Int) (dj : Addr) (pj : Addr) (t8 : Tok) (t9 : Tok) (o9 : Obj) (I9 : Addr), P9B l9 n9 h₃ tk₃ dvB1 dvB2 dvB3 dvB4 dvB5 i g0 g1 g2 k0 k1 k2 a2 b2 c2 dd2 m1 m2 m3 m4 m5 m6 ktl2 tits2 on2 kvs2 sv2 ti h tk lo9 hi9 dj pj t8 t9 o9 I9) → (propB_spec_A_P propB_spec_A_k)) := by
  refine' ⟨?P9B, fun G9B => ?main9⟩
  case main9 =>
    delta propB_spec_A_P propB_spec_c
    dsimp only
    intro B F X T hk N ho hon hoc hts hy hyb hab hcd hB hd1 hu1 hret hbad fvA2 fvA3 fvA4 fvA5 fvA6 fvA7 fvA8 hL9 fvA10 hd1n hc1n hB1 hab1 hcd1 hS KA0 F₂ N₂
    k_steps
    refine Stop.out ?_
    refine before_cut (Str.ofString "before") [((propB_spec_A_k.Ad 1) + 1, (propB_spec_A_k.Ob 0)), ((propB_spec_k.Ad 0), W.instObj 437 (propB_spec_k.Ad 1)), ((propB_spec_k.Ad 1), remD (propB_spec_k.w) (propB_spec_k.Ad 2) (propB_spec_k.Tk 15) (propB_spec_k.Tk 16) (propB_spec_k.Tk 17) (propB_spec_k.Tk 18) (propB_spec_k.Tk 19) (propB_spec_k.Tk 20) (propB_spec_k.Tk 21)), ((propB_spec_k.Ad 2), tup [.int 0 (propB_spec_k.Tk 22), .int 1 (propB_spec_k.Tk 23), .int 2 (propB_spec_k.Tk 24)]), ((propB_spec_k.Ad 14), tup [.int (propB_spec_k.In 0) (propB_spec_k.Tk 0), .int (propB_spec_k.In 1) (propB_spec_k.Tk 1)]), ((propB_spec_k.Ad 16), tup [.int (propB_spec_k.In 3) (propB_spec_k.Tk 4), .int (propB_spec_k.In 4) (propB_spec_k.Tk 5)]), ((propB_spec_k.Ad 3), W.instObj 244 (propB_spec_k.Ad 4)), ((propB_spec_k.Ad 4), storeD (propB_spec_k.w) (propB_spec_k.Ad 5) (propB_spec_k.Ad 6) (propB_spec_k.Ad 7) (propB_spec_k.Ad 8) (propB_spec_k.Ad 9) false (propB_spec_k.Ad 10) (propB_spec_k.Tk 6) (propB_spec_k.Tk 7) (propB_spec_k.Tk 8) (propB_spec_k.Tk 9) (propB_spec_k.Tk 10) (propB_spec_k.Tk 11) (propB_spec_k.Tk 12) (propB_spec_k.Tk 13) (propB_spec_k.Tk 14)), ((propB_spec_k.Ad 5), W.listOf #[.ref (propB_spec_A_k.Ad 2), .ref (propB_spec_A_k.Ad 3), .ref (propB_spec_A_k.Ad 4)] (propB_spec_k.Nt 0)), ((propB_spec_k.Ad 7), W.listOf (propB_spec_A_k.Ar 0) (propB_spec_A_k.Ad 8)), ((propB_spec_k.Ad 9), (propB_spec_A_k.Ob 1)), ((propB_spec_A_k.Ad 2), tup [.ref (propB_spec_A_k.Ad 5)]), ((propB_spec_A_k.Ad 5), tup [.int (propB_spec_A_k.In 0) (propB_spec_A_k.Tk 0), .int (propB_spec_A_k.In 1) (propB_spec_A_k.Tk 1)]), ((propB_spec_A_k.Ad 3), tup [.ref (propB_spec_A_k.Ad 6)]), ((propB_spec_A_k.Ad 6), tup [.int (propB_spec_k.In 2) (propB_spec_A_k.Tk 2), .int (propB_spec_k.In 2) (propB_spec_A_k.Tk 3)]), ((propB_spec_A_k.Ad 4), tup [.ref (propB_spec_A_k.Ad 7)]), ((propB_spec_A_k.Ad 7), tup [.int (propB_spec_A_k.In 2) (propB_spec_A_k.Tk 4), .int (propB_spec_A_k.In 3) (propB_spec_A_k.Tk 5)])] (propB_spec_A_k.Ad 2) (propB_spec_A_k.Ad 3) (propB_spec_A_k.Ad 4) [(propB_spec_k.Ad 4), (propB_spec_k.Ad 5), (propB_spec_k.Ad 7), (propB_spec_k.Ad 9)] F₂ ?key ?rest
    case key =>
      refine Assign_ListComp_tup (F₀ := F₂) (by rfl) (by with_unfolding_all rfl) (by with_unfolding_all rfl) (by decide) (by rfl) (by decide) (by rfl) (by rfl) (by rfl) ?_
      k_steps
      exact BeforeEnd.intro (by assumption) (by assumption) (by kcj_all) (fun _ => rfl) (AllNe.off4 (o₁ := storeD (propB_spec_k.w) (propB_spec_k.Ad 5) (propB_spec_k.Ad 6) (propB_spec_k.Ad 7) (propB_spec_k.Ad 8) (propB_spec_k.Ad 9) false (propB_spec_k.Ad 10) (propB_spec_k.Tk 6) (propB_spec_k.Tk 7) (propB_spec_k.Tk 8) (propB_spec_k.Tk 9) (propB_spec_k.Tk 10) (propB_spec_k.Tk 11) (propB_spec_k.Tk 12) (propB_spec_k.Tk 13) (propB_spec_k.Tk 14)) (o₂ := W.listOf #[.ref (propB_spec_A_k.Ad 2), .ref (propB_spec_A_k.Ad 3), .ref (propB_spec_A_k.Ad 4)] (propB_spec_k.Nt 0)) (o₃ := W.listOf (propB_spec_A_k.Ar 0) (propB_spec_A_k.Ad 8)) (o₄ := (propB_spec_A_k.Ob 1)) (allNe_off (by assumption)) (by k_mem) (by k_mem) (by k_mem) (by k_mem))
    case rest =>
      intro l9 n9 h₃ tk₃ F₃ N₃ hl9
      have KA1 : ∀ p ∈ [(l9, W.listOf #[.ref (propB_spec_A_k.Ad 2), .ref (propB_spec_A_k.Ad 3), .ref (propB_spec_A_k.Ad 4)] n9), ((propB_spec_A_k.Ad 1) + 1, (propB_spec_A_k.Ob 0)), ((propB_spec_k.Ad 0), W.instObj 437 (propB_spec_k.Ad 1)), ((propB_spec_k.Ad 1), remD (propB_spec_k.w) (propB_spec_k.Ad 2) (propB_spec_k.Tk 15) (propB_spec_k.Tk 16) (propB_spec_k.Tk 17) (propB_spec_k.Tk 18) (propB_spec_k.Tk 19) (propB_spec_k.Tk 20) (propB_spec_k.Tk 21)), ((propB_spec_k.Ad 2), tup [.int 0 (propB_spec_k.Tk 22), .int 1 (propB_spec_k.Tk 23), .int 2 (propB_spec_k.Tk 24)]), ((propB_spec_k.Ad 14), tup [.int (propB_spec_k.In 0) (propB_spec_k.Tk 0), .int (propB_spec_k.In 1) (propB_spec_k.Tk 1)]), ((propB_spec_k.Ad 16), tup [.int (propB_spec_k.In 3) (propB_spec_k.Tk 4), .int (propB_spec_k.In 4) (propB_spec_k.Tk 5)]), ((propB_spec_A_k.Ad 2), tup [.ref (propB_spec_A_k.Ad 5)]), ((propB_spec_A_k.Ad 5), tup [.int (propB_spec_A_k.In 0) (propB_spec_A_k.Tk 0), .int (propB_spec_A_k.In 1) (propB_spec_A_k.Tk 1)]), ((propB_spec_A_k.Ad 3), tup [.ref (propB_spec_A_k.Ad 6)]), ((propB_spec_A_k.Ad 6), tup [.int (propB_spec_k.In 2) (propB_spec_A_k.Tk 2), .int (propB_spec_k.In 2) (propB_spec_A_k.Tk 3)]), ((propB_spec_A_k.Ad 4), tup [.ref (propB_spec_A_k.Ad 7)]), ((propB_spec_A_k.Ad 7), tup [.int (propB_spec_A_k.In 2) (propB_spec_A_k.Tk 4), .int (propB_spec_A_k.In 3) (propB_spec_A_k.Tk 5)])], p.1 ∉ [(propB_spec_k.Ad 4), (propB_spec_k.Ad 5), (propB_spec_k.Ad 7), (propB_spec_k.Ad 9)] := allC hl9 (off_sub KA0 (by kcj_all))
      clear F₂ N₂ KA0 hl9
      k_steps
      refine Stop.out ?_
      (with_reducible rename ∀ _ ∈ _, _ < _ => lI)
      have hI9 := off4_lt (a := (propB_spec_k.Ad 4)) (b := (propB_spec_k.Ad 5)) (c := (propB_spec_k.Ad 7)) (d := (propB_spec_k.Ad 9)) lI (by k_mem) (by k_mem) (by k_mem) (by k_mem)
      have hI7 := mem_ne (a := (propB_spec_A_k.Ad 1) + 1) (o := (propB_spec_A_k.Ob 0)) lI (by k_mem)
      clear lI
      (with_reducible rename Fr _ _ _ _ => FW)
      refine name_frame FW ?_
      intro mb8 hmb8
      refine rangeRest_sub (nw' := [((propB_spec_A_k.Ad 1) + 1, (propB_spec_A_k.Ob 0)), ((propB_spec_k.Ad 0), W.instObj 437 (propB_spec_k.Ad 1)), ((propB_spec_k.Ad 1), remD (propB_spec_k.w) (propB_spec_k.Ad 2) (propB_spec_k.Tk 15) (propB_spec_k.Tk 16) (propB_spec_k.Tk 17) (propB_spec_k.Tk 18) (propB_spec_k.Tk 19) (propB_spec_k.Tk 20) (propB_spec_k.Tk 21)), ((propB_spec_k.Ad 2), tup [.int 0 (propB_spec_k.Tk 22), .int 1 (propB_spec_k.Tk 23), .int 2 (propB_spec_k.Tk 24)]), ((propB_spec_k.Ad 14), tup [.int (propB_spec_k.In 0) (propB_spec_k.Tk 0), .int (propB_spec_k.In 1) (propB_spec_k.Tk 1)]), ((propB_spec_k.Ad 16), tup [.int (propB_spec_k.In 3) (propB_spec_k.Tk 4), .int (propB_spec_k.In 4) (propB_spec_k.Tk 5)]), ((propB_spec_k.Ad 3), W.instObj 244 (propB_spec_k.Ad 4)), ((propB_spec_k.Ad 4), storeD (propB_spec_k.w) (propB_spec_k.Ad 5) (propB_spec_k.Ad 6) (propB_spec_k.Ad 7) (propB_spec_k.Ad 8) (propB_spec_k.Ad 9) false (propB_spec_k.Ad 10) (propB_spec_k.Tk 6) (propB_spec_k.Tk 7) (propB_spec_k.Tk 8) (propB_spec_k.Tk 9) (propB_spec_k.Tk 10) (propB_spec_k.Tk 11) (propB_spec_k.Tk 12) (propB_spec_k.Tk 13) (propB_spec_k.Tk 14)), ((propB_spec_k.Ad 5), W.listOf #[.ref (propB_spec_A_k.Ad 2), .ref (propB_spec_A_k.Ad 3), .ref (propB_spec_A_k.Ad 4)] (propB_spec_k.Nt 0)), ((propB_spec_k.Ad 7), W.listOf (propB_spec_A_k.Ar 0) (propB_spec_A_k.Ad 8)), ((propB_spec_k.Ad 9), (propB_spec_A_k.Ob 1)), ((propB_spec_A_k.Ad 2), tup [.ref (propB_spec_A_k.Ad 5)]), ((propB_spec_A_k.Ad 5), tup [.int (propB_spec_A_k.In 0) (propB_spec_A_k.Tk 0), .int (propB_spec_A_k.In 1) (propB_spec_A_k.Tk 1)]), ((propB_spec_A_k.Ad 3), tup [.ref (propB_spec_A_k.Ad 6)]), ((propB_spec_A_k.Ad 6), tup [.int (propB_spec_k.In 2) (propB_spec_A_k.Tk 2), .int (propB_spec_k.In 2) (propB_spec_A_k.Tk 3)]), ((propB_spec_A_k.Ad 4), tup [.ref (propB_spec_A_k.Ad 7)]), ((propB_spec_A_k.Ad 7), tup [.int (propB_spec_A_k.In 2) (propB_spec_A_k.Tk 4), .int (propB_spec_A_k.In 3) (propB_spec_A_k.Tk 5)]), (l9, W.listOf #[.ref (propB_spec_A_k.Ad 2), .ref (propB_spec_A_k.Ad 3), .ref (propB_spec_A_k.Ad 4)] n9), ((propB_spec_A_k.Ad 2), tup [.ref (propB_spec_A_k.Ad 5)]), ((propB_spec_A_k.Ad 5), tup [.int (propB_spec_A_k.In 0) (propB_spec_A_k.Tk 0), .int (propB_spec_A_k.In 1) (propB_spec_A_k.Tk 1)]), ((propB_spec_A_k.Ad 3), tup [.ref (propB_spec_A_k.Ad 6)]), ((propB_spec_A_k.Ad 6), tup [.int (propB_spec_k.In 2) (propB_spec_A_k.Tk 2), .int (propB_spec_k.In 2) (propB_spec_A_k.Tk 3)]), ((propB_spec_A_k.Ad 4), tup [.ref (propB_spec_A_k.Ad 7)]), ((propB_spec_A_k.Ad 7), tup [.int (propB_spec_A_k.In 2) (propB_spec_A_k.Tk 4), .int (propB_spec_A_k.In 3) (propB_spec_A_k.Tk 5)])]) (by kcj_all) ?_
      refine' rangeRest_inv (TurnJ (propB_spec_k.w) (propB_spec_k.Ad 0) (propB_spec_k.Ad 1) (propB_spec_k.Ad 2) (propB_spec_k.Ad 3) (propB_spec_k.Ad 4) (propB_spec_k.Ad 5) (propB_spec_k.Ad 6) (propB_spec_k.Ad 7) (propB_spec_k.Ad 8) (propB_spec_k.Ad 9) (propB_spec_k.Ad 10) ((propB_spec_A_k.Ad 1) + 1) (propB_spec_A_k.Ob 0) ((propB_spec_k.Ad 14), tup [.int (propB_spec_k.In 0) (propB_spec_k.Tk 0), .int (propB_spec_k.In 1) (propB_spec_k.Tk 1)]) ((propB_spec_k.Ad 16), tup [.int (propB_spec_k.In 3) (propB_spec_k.Tk 4), .int (propB_spec_k.In 4) (propB_spec_k.Tk 5)]) (propB_spec_k.Tk 6) (propB_spec_k.Tk 7) (propB_spec_k.Tk 8) (propB_spec_k.Tk 9) (propB_spec_k.Tk 10) (propB_spec_k.Tk 11) (propB_spec_k.Tk 12) (propB_spec_k.Tk 13) (propB_spec_k.Tk 14) (propB_spec_k.Tk 15) (propB_spec_k.Tk 16) (propB_spec_k.Tk 17) (propB_spec_k.Tk 18) (propB_spec_k.Tk 19) (propB_spec_k.Tk 20) (propB_spec_k.Tk 21) (propB_spec_k.Tk 22) (propB_spec_k.Tk 23) (propB_spec_k.Tk 24) (propB_spec_k.Nt 0) (propB_spec_k.In 2) (propB_spec_k.In 0) (propB_spec_k.In 1) (propB_spec_k.In 3) (propB_spec_k.In 4) (propB_spec_k.In 5) mb8 l9 (propB_spec_A_k.Ad 2) (propB_spec_A_k.Ad 3) (propB_spec_A_k.Ad 4) (propB_spec_A_k.Ad 5) (propB_spec_A_k.Ad 6) (propB_spec_A_k.Ad 7) (propB_spec_A_k.In 0) (propB_spec_A_k.In 1) (propB_spec_A_k.In 2) (propB_spec_A_k.In 3) (propB_spec_A_k.Tk 0) (propB_spec_A_k.Tk 1) (propB_spec_A_k.Tk 2) (propB_spec_A_k.Tk 3) (propB_spec_A_k.Tk 4) (propB_spec_A_k.Tk 5) n9) ?step ?done 3 0 _ _ rfl ?hJ
      case hJ =>
        subst hmb8
        refine ⟨(propB_spec_A_k.Ad 2), (propB_spec_A_k.Ad 3), (propB_spec_A_k.Ad 4), (propB_spec_A_k.Ad 5), (propB_spec_A_k.Ad 6), (propB_spec_A_k.Ad 7), (propB_spec_A_k.In 0), (propB_spec_A_k.In 1), (propB_spec_A_k.In 2), (propB_spec_A_k.In 3), (propB_spec_A_k.Tk 0), (propB_spec_A_k.Tk 1), (propB_spec_A_k.Tk 2), (propB_spec_A_k.Tk 3), (propB_spec_A_k.Tk 4), (propB_spec_A_k.Tk 5), (propB_spec_A_k.Ad 8), (propB_spec_A_k.Ar 0), (propB_spec_A_k.Ob 1), (propB_spec_A_k.Kv 0), _, frame_in, rfl, hd1n, hc1n, hB1, hab1, hcd1, hS, ?_, ⟨Int.le_refl _, Int.le_refl _, Int.le_refl _, Int.le_refl _⟩, fun _ => ⟨fun z => absurd z (by decide), fun z => absurd z (by decide)⟩⟩
        exact off_sub KA1 (by kcj_all)
      case done =>
        subst hmb8
        rintro m₁ nw h tk ⟨g0, g1, g2, k0, k1, k2, a2, b2, c2, dd2, m1, m2, m3, m4, m5, m6, ktl2, tits2, on2, kvs2, sv2, rfl, rfl, hdo2, hco2, hB2, hab2, hcd2, hS2, KA2, hmo, hDone⟩ Fz Nz
        k_steps
        refine' ⟨_, _, _, [((propB_spec_A_k.Ad 1) + 1, (propB_spec_A_k.Ob 0)), ((propB_spec_k.Ad 0), W.instObj 437 (propB_spec_k.Ad 1)), ((propB_spec_k.Ad 1), remD (propB_spec_k.w) (propB_spec_k.Ad 2) (propB_spec_k.Tk 15) (propB_spec_k.Tk 16) (propB_spec_k.Tk 17) (propB_spec_k.Tk 18) (propB_spec_k.Tk 19) (propB_spec_k.Tk 20) (propB_spec_k.Tk 21)), ((propB_spec_k.Ad 2), tup [.int 0 (propB_spec_k.Tk 22), .int 1 (propB_spec_k.Tk 23), .int 2 (propB_spec_k.Tk 24)]), ((propB_spec_k.Ad 14), tup [.int (propB_spec_k.In 0) (propB_spec_k.Tk 0), .int (propB_spec_k.In 1) (propB_spec_k.Tk 1)]), ((propB_spec_k.Ad 16), tup [.int (propB_spec_k.In 3) (propB_spec_k.Tk 4), .int (propB_spec_k.In 4) (propB_spec_k.Tk 5)]), ((propB_spec_k.Ad 3), W.instObj 244 (propB_spec_k.Ad 4)), ((propB_spec_k.Ad 4), storeD (propB_spec_k.w) (propB_spec_k.Ad 5) (propB_spec_k.Ad 6) (propB_spec_k.Ad 7) (propB_spec_k.Ad 8) (propB_spec_k.Ad 9) false (propB_spec_k.Ad 10) (propB_spec_k.Tk 6) (propB_spec_k.Tk 7) (propB_spec_k.Tk 8) (propB_spec_k.Tk 9) (propB_spec_k.Tk 10) (propB_spec_k.Tk 11) (propB_spec_k.Tk 12) (propB_spec_k.Tk 13) (propB_spec_k.Tk 14)), ((propB_spec_k.Ad 5), W.listOf #[.ref g0, .ref g1, .ref g2] (propB_spec_k.Nt 0)), ((propB_spec_k.Ad 7), W.listOf tits2 ktl2), ((propB_spec_k.Ad 9), on2), (g0, tup [.ref k0]), (k0, tup [.int a2 m1, .int b2 m2]), (g1, tup [.ref k1]), (k1, tup [.int (propB_spec_k.In 2) m3, .int (propB_spec_k.In 2) m4]), (g2, tup [.ref k2]), (k2, tup [.int c2 m5, .int dd2 m6]), (l9, W.listOf #[.ref (propB_spec_A_k.Ad 2), .ref (propB_spec_A_k.Ad 3), .ref (propB_spec_A_k.Ad 4)] n9), ((propB_spec_A_k.Ad 2), tup [.ref (propB_spec_A_k.Ad 5)]), ((propB_spec_A_k.Ad 5), tup [.int (propB_spec_A_k.In 0) (propB_spec_A_k.Tk 0), .int (propB_spec_A_k.In 1) (propB_spec_A_k.Tk 1)]), ((propB_spec_A_k.Ad 3), tup [.ref (propB_spec_A_k.Ad 6)]), ((propB_spec_A_k.Ad 6), tup [.int (propB_spec_k.In 2) (propB_spec_A_k.Tk 2), .int (propB_spec_k.In 2) (propB_spec_A_k.Tk 3)]), ((propB_spec_A_k.Ad 4), tup [.ref (propB_spec_A_k.Ad 7)]), ((propB_spec_A_k.Ad 7), tup [.int (propB_spec_A_k.In 2) (propB_spec_A_k.Tk 4), .int (propB_spec_A_k.In 3) (propB_spec_A_k.Tk 5)])], ((b2 - a2) + (dd2 - c2)).toNat + (if decide ((propB_spec_A_k.In 0) = a2 ∧ (propB_spec_A_k.In 1) = b2 ∧ (propB_spec_A_k.In 2) = c2 ∧ (propB_spec_A_k.In 3) = dd2) = true then 0 else 1), rfl, ?wF, ?wN, ?wl, ?wJ⟩
        case wF => assumption
        case wN => exact cb_drop (by assumption) (by kcj_all)
        case wl =>
          by_cases h9 : (propB_spec_A_k.In 0) = a2 ∧ (propB_spec_A_k.In 1) = b2 ∧ (propB_spec_A_k.In 2) = c2 ∧ (propB_spec_A_k.In 3) = dd2
          · rw [decide_eq_true h9]; simp only [if_true, Bool.false_eq_true, if_false]; omega
          · rw [decide_eq_false h9]; simp only [Bool.false_eq_true, if_false]; omega
        case wJ =>
          refine' ⟨g0, g1, g2, k0, k1, k2, a2, b2, c2, dd2, m1, m2, m3, m4, m5, m6, ktl2, tits2, on2, kvs2, sv2, .ref l9, decide ((propB_spec_A_k.In 0) = a2 ∧ (propB_spec_A_k.In 1) = b2 ∧ (propB_spec_A_k.In 2) = c2 ∧ (propB_spec_A_k.In 3) = dd2), _, frame_back, rfl, hdo2, hco2, hB2, hab2, hcd2, hS2, ?jk, ?jf, rfl, .some l9 (propB_spec_A_k.Ad 2) (propB_spec_A_k.Ad 3) (propB_spec_A_k.Ad 4) (propB_spec_A_k.Ad 5) (propB_spec_A_k.Ad 6) (propB_spec_A_k.Ad 7) (propB_spec_A_k.In 0) (propB_spec_A_k.In 1) (propB_spec_A_k.In 2) (propB_spec_A_k.In 3) (propB_spec_A_k.Tk 0) (propB_spec_A_k.Tk 1) (propB_spec_A_k.Tk 2) (propB_spec_A_k.Tk 3) (propB_spec_A_k.Tk 4) (propB_spec_A_k.Tk 5) n9 rfl rfl rfl⟩
          case jk => exact off_sub KA2 (by kcj_all)
          case jf =>
            intro h9
            have h8 := of_decide_eq_true h9
            have hD := hDone h8
            exact fix_of hy hab2.2.1 hcd2.2.1 (hD.1 (by decide)).1 (hD.1 (by decide)).2 (hD.2 (by decide)).1 (hD.2 (by decide)).2
      case step =>
        subst hmb8
        clear hS hB1 hab1 hcd1 hd1n hc1n
        rintro i m₁ nw hi ⟨g0, g1, g2, k0, k1, k2, a2, b2, c2, dd2, m1, m2, m3, m4, m5, m6, ktl2, tits2, on2, kvs2, sv2, rfl, rfl, hdo2, hco2, hB2, hab2, hcd2, hS2, KA2, hmo, hDone⟩ ti h tk Fz Nz
        obtain ⟨lo9, hi9, dj, pj, t8, t9, hsp, hm1, hm2⟩ := spot_entry (d0 := g0) (p0 := k0) (d1 := g1) (p1 := k1) (d2 := g2) (p2 := k2) (a := a2) (b := b2) (y := (propB_spec_k.In 2)) (c := c2) (d := dd2) (t1 := m1) (t2 := m2) (t3 := m3) (t4 := m4) (t5 := m5) (t6 := m6) hi
        obtain ⟨o9, ho9, Ny⟩ := name_obj Nz
        clear Nz
        refine name_fst Ny ?_
        intro I9 hI8
        subst hI8
        have Nx := news_front (k := [(dj, tup [.ref pj]), (pj, tup [.int lo9 t8, .int hi9 t9])]) Ny (allC ((by kcj_all : ∀ p ∈ dom3 g0 k0 g1 k1 g2 k2 a2 b2 (propB_spec_k.In 2) c2 dd2 m1 m2 m3 m4 m5 m6, p ∈ _) _ hm1) (allC ((by kcj_all : ∀ p ∈ dom3 g0 k0 g1 k1 g2 k2 a2 b2 (propB_spec_k.In 2) c2 dd2 m1 m2 m3 m4 m5 m6, p ∈ _) _ hm2) sub_nil))
        simp only [List.cons_append, List.nil_append] at Nx
        clear Ny hm1 hm2
        have KAI := off_cons (o := o9) hI9 KA2
        clear KA2
        rename_i fvB0 dvB1 dvB2 dvB3 dvB4 dvB5 fvB6 fvB7
        revert B F X T hk N ho hon hoc hts hy hyb hab hcd hB hd1 hu1 hret hbad fvA2 fvA3 fvA4 fvA5 fvA6 fvA7 fvA8 hL9 fvA10 FW fvB0 KA1 fvB6 fvB7 hi hdo2 hco2 hB2 hab2 hcd2 hS2 hmo hDone Fz hsp ho9 hI9 hI7 Nx KAI
        exact G9B l9 n9 h₃ tk₃ dvB1 dvB2 dvB3 dvB4 dvB5 i g0 g1 g2 k0 k1 k2 a2 b2 c2 dd2 m1 m2 m3 m4 m5 m6 ktl2 tits2 on2 kvs2 sv2 ti h tk lo9 hi9 dj pj t8 t9 o9 I9
def propB_spec_B_P (K8 : Ctx) : Prop := propB_spec_A_c.1 (K8.Ad 0) (K8.Ad 1) (K8.Hp 0) (K8.Ad 2) (K8.Hp 1) (K8.Ad 3) (K8.Tk 0) (K8.Tk 1) (K8.Tk 2) (K8.Ad 4) (K8.Ad 5) (K8.Ad 6) (K8.Ad 7) (K8.Ad 8) (K8.Ad 9) (K8.Ad 10) (K8.In 0) (K8.In 1) (K8.In 2) (K8.In 3) (K8.Tk 3) (K8.Tk 4) (K8.Tk 5) (K8.Tk 6) (K8.Tk 7) (K8.Tk 8) (K8.Ad 11) (K8.Ar 0) (K8.Ob 0) (K8.Kv 0) (K8.Ov 0) (K8.Tk 9) (K8.Hp 2) (K8.Ad 12) (K8.In 4) (K8.In 5) (K8.Ad 13) (K8.Ad 14) (K8.Tk 10) (K8.Tk 11) (K8.Ob 1) (K8.Ad 15)
@[irreducible] noncomputable def propB_spec_B_k : Ctx := @Classical.epsilon Ctx ctx_ne fun c => ¬ propB_spec_B_P c
omit B F X T hk in
noncomputable def propB_spec_B_c : Σ' P9C : ((Int) → (Addr) → (Addr) → (Tok) → (Tok) → (Array Value) → (Nat) → (Obj) → (List (Int × Value)) → (Heap) → (Nat) → (Int) → (Int) → (Addr) → (Addr) → (Addr) → (Addr) → (Addr) → (Addr) → (Tok) → (Tok) → (Tok) → (Tok) → (Tok) → (Tok) → Prop), ((∀ (x2 : Int) (q2 : Addr) (z2 : Addr) (s2 : Tok) (s3 : Tok) (tits3 : Array Value) (ktl3 : Nat) (on3 : Obj) (kvs3 : List (Int × Value)) (h9 : Heap) (tk9 : Nat) (a3 : Int) (c3 : Int) (G0 : Addr) (G1 : Addr) (G2 : Addr) (K0 : Addr) (K1 : Addr) (K2 : Addr) (M1' : Tok) (M2' : Tok) (M3' : Tok) (M4' : Tok) (M5' : Tok) (M6' : Tok), P9C x2 q2 z2 s2 s3 tits3 ktl3 on3 kvs3 h9 tk9 a3 c3 G0 G1 G2 K0 K1 K2 M1' M2' M3' M4' M5' M6') → (propB_spec_B_P propB_spec_B_k)) := by
  refine' ⟨?P9C, fun G9C => ?main9⟩
  case main9 =>
    delta propB_spec_B_P propB_spec_A_c
    dsimp only
    intro B F X T hk N ho hon hoc hts hy hyb hab hcd hB hd1 hu1 hret hbad fvA2 fvA3 fvA4 fvA5 fvA6 fvA7 fvA8 hL9 fvA10 FW fvB0 KA1 fvB6 fvB7 hi hdo2 hco2 hB2 hab2 hcd2 hS2 hmo hDone Fz hsp ho9 hI9 hI7 Nx KAI
    k_steps
    refine Stop.out ?_
    refine' lift_spec ?k1 ?k2 ?k3 ?k5 ?kK ?k4 hsp ho hdo2 hco2 (room_in hB2 hB.2.2 hab2.2.1 hcd2.2.1) hy hyb hab2 hcd2 ?kd ?ku ?rr1 ?r2
    case k1 => k_asm
    case k2 => k_asm
    case k3 => k_asm
    case k5 => k_asm
    case kK => first | exact rfl | assumption
    case k4 => exact cb_drop (by assumption) (by kcj_all)
    case kd => ktr_room
    case ku => ktr_units
    case r2 =>
      k_whole
      intro cl9 h9 tk9 hS9 F9 K9
      (with_reducible rename News _ _ _ _ => N09)
      have M1 := news_keep2 (sub := [((propB_spec_B_k.Ad 15), (propB_spec_B_k.Ob 1)), ((propB_spec_A_k.Ad 1) + 1, (propB_spec_A_k.Ob 0)), ((propB_spec_k.Ad 0), W.instObj 437 (propB_spec_k.Ad 1)), ((propB_spec_k.Ad 1), remD (propB_spec_k.w) (propB_spec_k.Ad 2) (propB_spec_k.Tk 15) (propB_spec_k.Tk 16) (propB_spec_k.Tk 17) (propB_spec_k.Tk 18) (propB_spec_k.Tk 19) (propB_spec_k.Tk 20) (propB_spec_k.Tk 21)), ((propB_spec_k.Ad 2), tup [.int 0 (propB_spec_k.Tk 22), .int 1 (propB_spec_k.Tk 23), .int 2 (propB_spec_k.Tk 24)]), ((propB_spec_k.Ad 14), tup [.int (propB_spec_k.In 0) (propB_spec_k.Tk 0), .int (propB_spec_k.In 1) (propB_spec_k.Tk 1)]), ((propB_spec_k.Ad 16), tup [.int (propB_spec_k.In 3) (propB_spec_k.Tk 4), .int (propB_spec_k.In 4) (propB_spec_k.Tk 5)]), ((propB_spec_B_k.Ad 5), tup [.ref (propB_spec_B_k.Ad 8)]), ((propB_spec_B_k.Ad 8), tup [.int (propB_spec_B_k.In 0) (propB_spec_B_k.Tk 3), .int (propB_spec_B_k.In 1) (propB_spec_B_k.Tk 4)]), ((propB_spec_B_k.Ad 6), tup [.ref (propB_spec_B_k.Ad 9)]), ((propB_spec_B_k.Ad 9), tup [.int (propB_spec_k.In 2) (propB_spec_B_k.Tk 5), .int (propB_spec_k.In 2) (propB_spec_B_k.Tk 6)]), ((propB_spec_B_k.Ad 7), tup [.ref (propB_spec_B_k.Ad 10)]), ((propB_spec_B_k.Ad 10), tup [.int (propB_spec_B_k.In 2) (propB_spec_B_k.Tk 7), .int (propB_spec_B_k.In 3) (propB_spec_B_k.Tk 8)]), ((propB_spec_B_k.Ad 0), W.listOf #[.ref (propB_spec_A_k.Ad 2), .ref (propB_spec_A_k.Ad 3), .ref (propB_spec_A_k.Ad 4)] (propB_spec_B_k.Ad 1)), ((propB_spec_A_k.Ad 2), tup [.ref (propB_spec_A_k.Ad 5)]), ((propB_spec_A_k.Ad 5), tup [.int (propB_spec_A_k.In 0) (propB_spec_A_k.Tk 0), .int (propB_spec_A_k.In 1) (propB_spec_A_k.Tk 1)]), ((propB_spec_A_k.Ad 3), tup [.ref (propB_spec_A_k.Ad 6)]), ((propB_spec_A_k.Ad 6), tup [.int (propB_spec_k.In 2) (propB_spec_A_k.Tk 2), .int (propB_spec_k.In 2) (propB_spec_A_k.Tk 3)]), ((propB_spec_A_k.Ad 4), tup [.ref (propB_spec_A_k.Ad 7)]), ((propB_spec_A_k.Ad 7), tup [.int (propB_spec_A_k.In 2) (propB_spec_A_k.Tk 4), .int (propB_spec_A_k.In 3) (propB_spec_A_k.Tk 5)])]) N09 K9 (by kcj_all) KAI
      intro M9
      have N9 := news_app M9 M1
      clear M9 M1 N09
      simp only [List.cons_append, List.nil_append] at N9
      k_steps
      dsimp only [UnrPost, WhileStep2]
      k_steps
      refine' hbad _ _ _ ?g1 (by assumption) ?g7 ?gN
      case g7 => exact keepBut_of (by assumption) (by assumption) (by assumption) (by assumption) (by ktn_open)
      case gN => exact cb_drop (by assumption) (by kcj_all)
      case g1 => exact fun k hk => spot_none hsp hy hS9 k ((hS2 k).mp hk)
    k_whole
    intro x2 q2 z2 s2 s3 tits3 ktl3 on3 kvs3 h9 tk9 hx1 hx2 hx3 hx4 hp2 hu2 F9 K9
    (with_reducible rename News _ _ _ _ => N09)
    have M1 := news_keep2 (sub := [((propB_spec_B_k.Ad 15), (propB_spec_B_k.Ob 1)), ((propB_spec_A_k.Ad 1) + 1, (propB_spec_A_k.Ob 0)), ((propB_spec_k.Ad 0), W.instObj 437 (propB_spec_k.Ad 1)), ((propB_spec_k.Ad 1), remD (propB_spec_k.w) (propB_spec_k.Ad 2) (propB_spec_k.Tk 15) (propB_spec_k.Tk 16) (propB_spec_k.Tk 17) (propB_spec_k.Tk 18) (propB_spec_k.Tk 19) (propB_spec_k.Tk 20) (propB_spec_k.Tk 21)), ((propB_spec_k.Ad 2), tup [.int 0 (propB_spec_k.Tk 22), .int 1 (propB_spec_k.Tk 23), .int 2 (propB_spec_k.Tk 24)]), ((propB_spec_k.Ad 14), tup [.int (propB_spec_k.In 0) (propB_spec_k.Tk 0), .int (propB_spec_k.In 1) (propB_spec_k.Tk 1)]), ((propB_spec_k.Ad 16), tup [.int (propB_spec_k.In 3) (propB_spec_k.Tk 4), .int (propB_spec_k.In 4) (propB_spec_k.Tk 5)]), ((propB_spec_B_k.Ad 5), tup [.ref (propB_spec_B_k.Ad 8)]), ((propB_spec_B_k.Ad 8), tup [.int (propB_spec_B_k.In 0) (propB_spec_B_k.Tk 3), .int (propB_spec_B_k.In 1) (propB_spec_B_k.Tk 4)]), ((propB_spec_B_k.Ad 6), tup [.ref (propB_spec_B_k.Ad 9)]), ((propB_spec_B_k.Ad 9), tup [.int (propB_spec_k.In 2) (propB_spec_B_k.Tk 5), .int (propB_spec_k.In 2) (propB_spec_B_k.Tk 6)]), ((propB_spec_B_k.Ad 7), tup [.ref (propB_spec_B_k.Ad 10)]), ((propB_spec_B_k.Ad 10), tup [.int (propB_spec_B_k.In 2) (propB_spec_B_k.Tk 7), .int (propB_spec_B_k.In 3) (propB_spec_B_k.Tk 8)]), ((propB_spec_B_k.Ad 0), W.listOf #[.ref (propB_spec_A_k.Ad 2), .ref (propB_spec_A_k.Ad 3), .ref (propB_spec_A_k.Ad 4)] (propB_spec_B_k.Ad 1)), ((propB_spec_A_k.Ad 2), tup [.ref (propB_spec_A_k.Ad 5)]), ((propB_spec_A_k.Ad 5), tup [.int (propB_spec_A_k.In 0) (propB_spec_A_k.Tk 0), .int (propB_spec_A_k.In 1) (propB_spec_A_k.Tk 1)]), ((propB_spec_A_k.Ad 3), tup [.ref (propB_spec_A_k.Ad 6)]), ((propB_spec_A_k.Ad 6), tup [.int (propB_spec_k.In 2) (propB_spec_A_k.Tk 2), .int (propB_spec_k.In 2) (propB_spec_A_k.Tk 3)]), ((propB_spec_A_k.Ad 4), tup [.ref (propB_spec_A_k.Ad 7)]), ((propB_spec_A_k.Ad 7), tup [.int (propB_spec_A_k.In 2) (propB_spec_A_k.Tk 4), .int (propB_spec_A_k.In 3) (propB_spec_A_k.Tk 5)])]) N09 K9 (by kcj_all) KAI
    intro off9 hs1 hdo3 hco3 hs2 M9
    obtain ⟨a3, c3, G0, G1, G2, K0, K1, K2, M1', M2', M3', M4', M5', M6', hset, hsp2, hsub2, hr2, hms2, hS3, hcb2, hoh2⟩ := spot_up (p0 := (propB_spec_B_k.Ad 8)) (p1 := (propB_spec_B_k.Ad 9)) (p2 := (propB_spec_B_k.Ad 10)) (t1 := (propB_spec_B_k.Tk 3)) (t2 := (propB_spec_B_k.Tk 4)) (t3 := (propB_spec_B_k.Tk 5)) (t4 := (propB_spec_B_k.Tk 6)) (t5 := (propB_spec_B_k.Tk 7)) (t6 := (propB_spec_B_k.Tk 8)) hsp hy hx1 hx2 hab2.2.1 hcd2.2.1 hu2 q2 z2 s2 s3
    rw [hset] at M9
    have N8 := news_app M9 M1
    clear M9 M1 N09
    simp only [List.cons_append, List.nil_append] at N8
    have N7 := news_front (k := dom3 G0 K0 G1 K1 G2 K2 a3 (propB_spec_B_k.In 1) (propB_spec_k.In 2) c3 (propB_spec_B_k.In 3) M1' M2' M3' M4' M5' M6') N8 (fun p hp => (by kcj_all : ∀ p ∈ (q2, tup [.ref z2]) :: (z2, tup [.int x2 s2, .int (propB_spec_B_k.In 5) s3]) :: dom3 (propB_spec_B_k.Ad 5) (propB_spec_B_k.Ad 8) (propB_spec_B_k.Ad 6) (propB_spec_B_k.Ad 9) (propB_spec_B_k.Ad 7) (propB_spec_B_k.Ad 10) (propB_spec_B_k.In 0) (propB_spec_B_k.In 1) (propB_spec_k.In 2) (propB_spec_B_k.In 2) (propB_spec_B_k.In 3) (propB_spec_B_k.Tk 3) (propB_spec_B_k.Tk 4) (propB_spec_B_k.Tk 5) (propB_spec_B_k.Tk 6) (propB_spec_B_k.Tk 7) (propB_spec_B_k.Tk 8), p ∈ _) p (hsub2 p hp))
    simp only [List.cons_append, List.nil_append] at N7
    have N9 : News _ _ h9 [(q2, tup [.ref z2]), (z2, tup [.int x2 s2, .int (propB_spec_B_k.In 5) s3]), ((propB_spec_B_k.Ad 15), (propB_spec_B_k.Ob 1)), ((propB_spec_A_k.Ad 1) + 1, (propB_spec_A_k.Ob 0)), ((propB_spec_k.Ad 0), W.instObj 437 (propB_spec_k.Ad 1)), ((propB_spec_k.Ad 1), remD (propB_spec_k.w) (propB_spec_k.Ad 2) (propB_spec_k.Tk 15) (propB_spec_k.Tk 16) (propB_spec_k.Tk 17) (propB_spec_k.Tk 18) (propB_spec_k.Tk 19) (propB_spec_k.Tk 20) (propB_spec_k.Tk 21)), ((propB_spec_k.Ad 2), tup [.int 0 (propB_spec_k.Tk 22), .int 1 (propB_spec_k.Tk 23), .int 2 (propB_spec_k.Tk 24)]), ((propB_spec_k.Ad 14), tup [.int (propB_spec_k.In 0) (propB_spec_k.Tk 0), .int (propB_spec_k.In 1) (propB_spec_k.Tk 1)]), ((propB_spec_k.Ad 16), tup [.int (propB_spec_k.In 3) (propB_spec_k.Tk 4), .int (propB_spec_k.In 4) (propB_spec_k.Tk 5)]), ((propB_spec_k.Ad 3), W.instObj 244 (propB_spec_k.Ad 4)), ((propB_spec_k.Ad 4), storeD (propB_spec_k.w) (propB_spec_k.Ad 5) (propB_spec_k.Ad 6) (propB_spec_k.Ad 7) (propB_spec_k.Ad 8) (propB_spec_k.Ad 9) false (propB_spec_k.Ad 10) (propB_spec_k.Tk 6) (propB_spec_k.Tk 7) (propB_spec_k.Tk 8) (propB_spec_k.Tk 9) (propB_spec_k.Tk 10) (propB_spec_k.Tk 11) (propB_spec_k.Tk 12) (propB_spec_k.Tk 13) (propB_spec_k.Tk 14)), ((propB_spec_k.Ad 5), W.listOf #[.ref G0, .ref G1, .ref G2] (propB_spec_k.Nt 0)), ((propB_spec_k.Ad 7), W.listOf tits3 ktl3), ((propB_spec_k.Ad 9), on3), (G0, tup [.ref K0]), (K0, tup [.int a3 M1', .int (propB_spec_B_k.In 1) M2']), (G1, tup [.ref K1]), (K1, tup [.int (propB_spec_k.In 2) M3', .int (propB_spec_k.In 2) M4']), (G2, tup [.ref K2]), (K2, tup [.int c3 M5', .int (propB_spec_B_k.In 3) M6']), ((propB_spec_B_k.Ad 0), W.listOf #[.ref (propB_spec_A_k.Ad 2), .ref (propB_spec_A_k.Ad 3), .ref (propB_spec_A_k.Ad 4)] (propB_spec_B_k.Ad 1)), ((propB_spec_A_k.Ad 2), tup [.ref (propB_spec_A_k.Ad 5)]), ((propB_spec_A_k.Ad 5), tup [.int (propB_spec_A_k.In 0) (propB_spec_A_k.Tk 0), .int (propB_spec_A_k.In 1) (propB_spec_A_k.Tk 1)]), ((propB_spec_A_k.Ad 3), tup [.ref (propB_spec_A_k.Ad 6)]), ((propB_spec_A_k.Ad 6), tup [.int (propB_spec_k.In 2) (propB_spec_A_k.Tk 2), .int (propB_spec_k.In 2) (propB_spec_A_k.Tk 3)]), ((propB_spec_A_k.Ad 4), tup [.ref (propB_spec_A_k.Ad 7)]), ((propB_spec_A_k.Ad 7), tup [.int (propB_spec_A_k.In 2) (propB_spec_A_k.Tk 4), .int (propB_spec_A_k.In 3) (propB_spec_A_k.Tk 5)])] := cb_drop N7 (by kcj_all)
    clear N7 N8
    have KA3 : ∀ p ∈ [(q2, tup [.ref z2]), (z2, tup [.int x2 s2, .int (propB_spec_B_k.In 5) s3]), ((propB_spec_B_k.Ad 15), (propB_spec_B_k.Ob 1)), ((propB_spec_A_k.Ad 1) + 1, (propB_spec_A_k.Ob 0)), ((propB_spec_k.Ad 0), W.instObj 437 (propB_spec_k.Ad 1)), ((propB_spec_k.Ad 1), remD (propB_spec_k.w) (propB_spec_k.Ad 2) (propB_spec_k.Tk 15) (propB_spec_k.Tk 16) (propB_spec_k.Tk 17) (propB_spec_k.Tk 18) (propB_spec_k.Tk 19) (propB_spec_k.Tk 20) (propB_spec_k.Tk 21)), ((propB_spec_k.Ad 2), tup [.int 0 (propB_spec_k.Tk 22), .int 1 (propB_spec_k.Tk 23), .int 2 (propB_spec_k.Tk 24)]), ((propB_spec_k.Ad 14), tup [.int (propB_spec_k.In 0) (propB_spec_k.Tk 0), .int (propB_spec_k.In 1) (propB_spec_k.Tk 1)]), ((propB_spec_k.Ad 16), tup [.int (propB_spec_k.In 3) (propB_spec_k.Tk 4), .int (propB_spec_k.In 4) (propB_spec_k.Tk 5)]), (G0, tup [.ref K0]), (K0, tup [.int a3 M1', .int (propB_spec_B_k.In 1) M2']), (G1, tup [.ref K1]), (K1, tup [.int (propB_spec_k.In 2) M3', .int (propB_spec_k.In 2) M4']), (G2, tup [.ref K2]), (K2, tup [.int c3 M5', .int (propB_spec_B_k.In 3) M6']), ((propB_spec_B_k.Ad 0), W.listOf #[.ref (propB_spec_A_k.Ad 2), .ref (propB_spec_A_k.Ad 3), .ref (propB_spec_A_k.Ad 4)] (propB_spec_B_k.Ad 1)), ((propB_spec_A_k.Ad 2), tup [.ref (propB_spec_A_k.Ad 5)]), ((propB_spec_A_k.Ad 5), tup [.int (propB_spec_A_k.In 0) (propB_spec_A_k.Tk 0), .int (propB_spec_A_k.In 1) (propB_spec_A_k.Tk 1)]), ((propB_spec_A_k.Ad 3), tup [.ref (propB_spec_A_k.Ad 6)]), ((propB_spec_A_k.Ad 6), tup [.int (propB_spec_k.In 2) (propB_spec_A_k.Tk 2), .int (propB_spec_k.In 2) (propB_spec_A_k.Tk 3)]), ((propB_spec_A_k.Ad 4), tup [.ref (propB_spec_A_k.Ad 7)]), ((propB_spec_A_k.Ad 7), tup [.int (propB_spec_A_k.In 2) (propB_spec_A_k.Tk 4), .int (propB_spec_A_k.In 3) (propB_spec_A_k.Tk 5)])], p.1 ∉ [(propB_spec_k.Ad 4), (propB_spec_k.Ad 5), (propB_spec_k.Ad 7), (propB_spec_k.Ad 9)] := by
      have q9 := all_app (off_sub (two_off (o := tup [.ref z2]) (o' := tup [.int x2 s2, .int (propB_spec_B_k.In 5) s3]) off9 (off_sub KAI (by kcj_all))) hsub2) (two_off (o := tup [.ref z2]) (o' := tup [.int x2 s2, .int (propB_spec_B_k.In 5) s3]) off9 KAI)
      exact off_sub q9 (by (try simp only [List.cons_append, List.nil_append]); kcj_all)
    have hB3 := room_step hB2 hms2 hs1 hs2
    have hS4 := fun k => (hS2 k).trans (hS3 k)
    have hp3 := (hcb2 x2).trans hp2
    have hab3 := wide_up hab2 ⟨hr2.1, hr2.2.1⟩
    have hcd3 := wide_up hcd2 ⟨hr2.2.2.1, hr2.2.2.2⟩
    clear hS2 hS3 hset hsub2 hsp KAI hs1 hs2 off9 hu2 hdo2 hco2
    revert B F X T hk N ho hon hoc hts hy hyb hab hcd hB hd1 hu1 hret hbad fvA2 fvA3 fvA4 fvA5 fvA6 fvA7 fvA8 hL9 fvA10 FW fvB0 KA1 fvB6 fvB7 hi hB2 hab2 hcd2 hmo hDone Fz ho9 hI9 hI7 hx1 hx2 hx3 hx4 hp2 F9 K9 hdo3 hco3 hsp2 hr2 hms2 hcb2 hoh2 N9 KA3 hB3 hS4 hp3 hab3 hcd3
    exact G9C x2 q2 z2 s2 s3 tits3 ktl3 on3 kvs3 h9 tk9 a3 c3 G0 G1 G2 K0 K1 K2 M1' M2' M3' M4' M5' M6'
def propB_spec_C_P (K8 : Ctx) : Prop := propB_spec_B_c.1 (K8.In 0) (K8.Ad 0) (K8.Ad 1) (K8.Tk 0) (K8.Tk 1) (K8.Ar 0) (K8.Ad 2) (K8.Ob 0) (K8.Kv 0) (K8.Hp 0) (K8.Ad 3) (K8.In 1) (K8.In 2) (K8.Ad 4) (K8.Ad 5) (K8.Ad 6) (K8.Ad 7) (K8.Ad 8) (K8.Ad 9) (K8.Tk 2) (K8.Tk 3) (K8.Tk 4) (K8.Tk 5) (K8.Tk 6) (K8.Tk 7)
@[irreducible] noncomputable def propB_spec_C_k : Ctx := @Classical.epsilon Ctx ctx_ne fun c => ¬ propB_spec_C_P c
omit B F X T hk in
theorem propB_spec_C_core : propB_spec_C_P propB_spec_C_k := by
  delta propB_spec_C_P propB_spec_B_c
  dsimp only
  intro B F X T hk N ho hon hoc hts hy hyb hab hcd hB hd1 hu1 hret hbad fvA2 fvA3 fvA4 fvA5 fvA6 fvA7 fvA8 hL9 fvA10 FW fvB0 KA1 fvB6 fvB7 hi hB2 hab2 hcd2 hmo hDone Fz ho9 hI9 hI7 hx1 hx2 hx3 hx4 hp2 F9 K9 hdo3 hco3 hsp2 hr2 hms2 hcb2 hoh2 N9 KA3 hB3 hS4 hp3 hab3 hcd3
  k_steps
  refine Stop.out ?_
  refine' lower_spec ?k1 ?k2 ?k3 ?k5 ?kK ?k4 hsp2 ho hdo3 hco3 (room_in hB3 hB.2.2 hab3.2.1 hcd3.2.1) hy hyb hab3 hcd3 ?kd ?ku hp3 (by rw [hoh2]; exact hx4) ?rr2
  case k1 => k_asm
  case k2 => k_asm
  case k3 => k_asm
  case k5 => k_asm
  case kK => first | exact rfl | assumption
  case k4 => exact cb_drop (by assumption) (by kcj_all)
  case kd => ktr_room
  case ku => ktr_units
  k_whole
  intro x3 q3 z3 s4 s5 tits4 ktl4 on4 kvs4 h8 tk8 hx5 hx6 hx7 hp4 hu4 F8 K8
  (with_reducible rename News _ _ _ _ => N09)
  have M1 := news_keep2 (sub := [((propB_spec_C_k.Ad 0), tup [.ref (propB_spec_C_k.Ad 1)]), ((propB_spec_C_k.Ad 1), tup [.int (propB_spec_C_k.In 0) (propB_spec_C_k.Tk 0), .int (propB_spec_B_k.In 5) (propB_spec_C_k.Tk 1)]), ((propB_spec_B_k.Ad 15), (propB_spec_B_k.Ob 1)), ((propB_spec_A_k.Ad 1) + 1, (propB_spec_A_k.Ob 0)), ((propB_spec_k.Ad 0), W.instObj 437 (propB_spec_k.Ad 1)), ((propB_spec_k.Ad 1), remD (propB_spec_k.w) (propB_spec_k.Ad 2) (propB_spec_k.Tk 15) (propB_spec_k.Tk 16) (propB_spec_k.Tk 17) (propB_spec_k.Tk 18) (propB_spec_k.Tk 19) (propB_spec_k.Tk 20) (propB_spec_k.Tk 21)), ((propB_spec_k.Ad 2), tup [.int 0 (propB_spec_k.Tk 22), .int 1 (propB_spec_k.Tk 23), .int 2 (propB_spec_k.Tk 24)]), ((propB_spec_k.Ad 14), tup [.int (propB_spec_k.In 0) (propB_spec_k.Tk 0), .int (propB_spec_k.In 1) (propB_spec_k.Tk 1)]), ((propB_spec_k.Ad 16), tup [.int (propB_spec_k.In 3) (propB_spec_k.Tk 4), .int (propB_spec_k.In 4) (propB_spec_k.Tk 5)]), ((propB_spec_C_k.Ad 4), tup [.ref (propB_spec_C_k.Ad 7)]), ((propB_spec_C_k.Ad 7), tup [.int (propB_spec_C_k.In 1) (propB_spec_C_k.Tk 2), .int (propB_spec_B_k.In 1) (propB_spec_C_k.Tk 3)]), ((propB_spec_C_k.Ad 5), tup [.ref (propB_spec_C_k.Ad 8)]), ((propB_spec_C_k.Ad 8), tup [.int (propB_spec_k.In 2) (propB_spec_C_k.Tk 4), .int (propB_spec_k.In 2) (propB_spec_C_k.Tk 5)]), ((propB_spec_C_k.Ad 6), tup [.ref (propB_spec_C_k.Ad 9)]), ((propB_spec_C_k.Ad 9), tup [.int (propB_spec_C_k.In 2) (propB_spec_C_k.Tk 6), .int (propB_spec_B_k.In 3) (propB_spec_C_k.Tk 7)]), ((propB_spec_B_k.Ad 0), W.listOf #[.ref (propB_spec_A_k.Ad 2), .ref (propB_spec_A_k.Ad 3), .ref (propB_spec_A_k.Ad 4)] (propB_spec_B_k.Ad 1)), ((propB_spec_A_k.Ad 2), tup [.ref (propB_spec_A_k.Ad 5)]), ((propB_spec_A_k.Ad 5), tup [.int (propB_spec_A_k.In 0) (propB_spec_A_k.Tk 0), .int (propB_spec_A_k.In 1) (propB_spec_A_k.Tk 1)]), ((propB_spec_A_k.Ad 3), tup [.ref (propB_spec_A_k.Ad 6)]), ((propB_spec_A_k.Ad 6), tup [.int (propB_spec_k.In 2) (propB_spec_A_k.Tk 2), .int (propB_spec_k.In 2) (propB_spec_A_k.Tk 3)]), ((propB_spec_A_k.Ad 4), tup [.ref (propB_spec_A_k.Ad 7)]), ((propB_spec_A_k.Ad 7), tup [.int (propB_spec_A_k.In 2) (propB_spec_A_k.Tk 4), .int (propB_spec_A_k.In 3) (propB_spec_A_k.Tk 5)])]) N09 K8 (by kcj_all) KA3
  intro off8 hs3 hdo4 hco4 hs4 M8
  obtain ⟨b3, d3, H0, H1, H2, J0, J1, J2, z1', z2', z3', z4', z5', z6', hset, hsp3, hsub3, hr3, hms3, hS5, hcb3⟩ := spot_dn (p0 := (propB_spec_C_k.Ad 7)) (p1 := (propB_spec_C_k.Ad 8)) (p2 := (propB_spec_C_k.Ad 9)) (t1 := (propB_spec_C_k.Tk 2)) (t2 := (propB_spec_C_k.Tk 3)) (t3 := (propB_spec_C_k.Tk 4)) (t4 := (propB_spec_C_k.Tk 5)) (t5 := (propB_spec_C_k.Tk 6)) (t6 := (propB_spec_C_k.Tk 7)) hsp2 hy hx5 hx6 hab3.2.1 hcd3.2.1 hu4 q3 z3 s4 s5
  rw [hset] at M8
  have N8 := news_app M8 M1
  clear M8 M1 N09
  simp only [List.cons_append, List.nil_append] at N8
  have N7 := news_front (k := dom3 H0 J0 H1 J1 H2 J2 (propB_spec_C_k.In 1) b3 (propB_spec_k.In 2) (propB_spec_C_k.In 2) d3 z1' z2' z3' z4' z5' z6') N8 (fun p hp => (by kcj_all : ∀ p ∈ (q3, tup [.ref z3]) :: (z3, tup [.int (propB_spec_C_k.In 0) s4, .int x3 s5]) :: dom3 (propB_spec_C_k.Ad 4) (propB_spec_C_k.Ad 7) (propB_spec_C_k.Ad 5) (propB_spec_C_k.Ad 8) (propB_spec_C_k.Ad 6) (propB_spec_C_k.Ad 9) (propB_spec_C_k.In 1) (propB_spec_B_k.In 1) (propB_spec_k.In 2) (propB_spec_C_k.In 2) (propB_spec_B_k.In 3) (propB_spec_C_k.Tk 2) (propB_spec_C_k.Tk 3) (propB_spec_C_k.Tk 4) (propB_spec_C_k.Tk 5) (propB_spec_C_k.Tk 6) (propB_spec_C_k.Tk 7), p ∈ _) p (hsub3 p hp))
  simp only [List.cons_append, List.nil_append] at N7
  have N9 : News _ _ h8 [((propB_spec_B_k.Ad 15), (propB_spec_B_k.Ob 1)), ((propB_spec_A_k.Ad 1) + 1, (propB_spec_A_k.Ob 0)), ((propB_spec_k.Ad 0), W.instObj 437 (propB_spec_k.Ad 1)), ((propB_spec_k.Ad 1), remD (propB_spec_k.w) (propB_spec_k.Ad 2) (propB_spec_k.Tk 15) (propB_spec_k.Tk 16) (propB_spec_k.Tk 17) (propB_spec_k.Tk 18) (propB_spec_k.Tk 19) (propB_spec_k.Tk 20) (propB_spec_k.Tk 21)), ((propB_spec_k.Ad 2), tup [.int 0 (propB_spec_k.Tk 22), .int 1 (propB_spec_k.Tk 23), .int 2 (propB_spec_k.Tk 24)]), ((propB_spec_k.Ad 14), tup [.int (propB_spec_k.In 0) (propB_spec_k.Tk 0), .int (propB_spec_k.In 1) (propB_spec_k.Tk 1)]), ((propB_spec_k.Ad 16), tup [.int (propB_spec_k.In 3) (propB_spec_k.Tk 4), .int (propB_spec_k.In 4) (propB_spec_k.Tk 5)]), ((propB_spec_k.Ad 3), W.instObj 244 (propB_spec_k.Ad 4)), ((propB_spec_k.Ad 4), storeD (propB_spec_k.w) (propB_spec_k.Ad 5) (propB_spec_k.Ad 6) (propB_spec_k.Ad 7) (propB_spec_k.Ad 8) (propB_spec_k.Ad 9) false (propB_spec_k.Ad 10) (propB_spec_k.Tk 6) (propB_spec_k.Tk 7) (propB_spec_k.Tk 8) (propB_spec_k.Tk 9) (propB_spec_k.Tk 10) (propB_spec_k.Tk 11) (propB_spec_k.Tk 12) (propB_spec_k.Tk 13) (propB_spec_k.Tk 14)), ((propB_spec_k.Ad 5), W.listOf #[.ref H0, .ref H1, .ref H2] (propB_spec_k.Nt 0)), ((propB_spec_k.Ad 7), W.listOf tits4 ktl4), ((propB_spec_k.Ad 9), on4), (H0, tup [.ref J0]), (J0, tup [.int (propB_spec_C_k.In 1) z1', .int b3 z2']), (H1, tup [.ref J1]), (J1, tup [.int (propB_spec_k.In 2) z3', .int (propB_spec_k.In 2) z4']), (H2, tup [.ref J2]), (J2, tup [.int (propB_spec_C_k.In 2) z5', .int d3 z6']), ((propB_spec_B_k.Ad 0), W.listOf #[.ref (propB_spec_A_k.Ad 2), .ref (propB_spec_A_k.Ad 3), .ref (propB_spec_A_k.Ad 4)] (propB_spec_B_k.Ad 1)), ((propB_spec_A_k.Ad 2), tup [.ref (propB_spec_A_k.Ad 5)]), ((propB_spec_A_k.Ad 5), tup [.int (propB_spec_A_k.In 0) (propB_spec_A_k.Tk 0), .int (propB_spec_A_k.In 1) (propB_spec_A_k.Tk 1)]), ((propB_spec_A_k.Ad 3), tup [.ref (propB_spec_A_k.Ad 6)]), ((propB_spec_A_k.Ad 6), tup [.int (propB_spec_k.In 2) (propB_spec_A_k.Tk 2), .int (propB_spec_k.In 2) (propB_spec_A_k.Tk 3)]), ((propB_spec_A_k.Ad 4), tup [.ref (propB_spec_A_k.Ad 7)]), ((propB_spec_A_k.Ad 7), tup [.int (propB_spec_A_k.In 2) (propB_spec_A_k.Tk 4), .int (propB_spec_A_k.In 3) (propB_spec_A_k.Tk 5)])] := cb_drop N7 (by kcj_all)
  clear N7 N8
  have KA4 : ∀ p ∈ [((propB_spec_A_k.Ad 1) + 1, (propB_spec_A_k.Ob 0)), ((propB_spec_k.Ad 0), W.instObj 437 (propB_spec_k.Ad 1)), ((propB_spec_k.Ad 1), remD (propB_spec_k.w) (propB_spec_k.Ad 2) (propB_spec_k.Tk 15) (propB_spec_k.Tk 16) (propB_spec_k.Tk 17) (propB_spec_k.Tk 18) (propB_spec_k.Tk 19) (propB_spec_k.Tk 20) (propB_spec_k.Tk 21)), ((propB_spec_k.Ad 2), tup [.int 0 (propB_spec_k.Tk 22), .int 1 (propB_spec_k.Tk 23), .int 2 (propB_spec_k.Tk 24)]), ((propB_spec_k.Ad 14), tup [.int (propB_spec_k.In 0) (propB_spec_k.Tk 0), .int (propB_spec_k.In 1) (propB_spec_k.Tk 1)]), ((propB_spec_k.Ad 16), tup [.int (propB_spec_k.In 3) (propB_spec_k.Tk 4), .int (propB_spec_k.In 4) (propB_spec_k.Tk 5)]), (H0, tup [.ref J0]), (J0, tup [.int (propB_spec_C_k.In 1) z1', .int b3 z2']), (H1, tup [.ref J1]), (J1, tup [.int (propB_spec_k.In 2) z3', .int (propB_spec_k.In 2) z4']), (H2, tup [.ref J2]), (J2, tup [.int (propB_spec_C_k.In 2) z5', .int d3 z6']), ((propB_spec_B_k.Ad 0), W.listOf #[.ref (propB_spec_A_k.Ad 2), .ref (propB_spec_A_k.Ad 3), .ref (propB_spec_A_k.Ad 4)] (propB_spec_B_k.Ad 1)), ((propB_spec_A_k.Ad 2), tup [.ref (propB_spec_A_k.Ad 5)]), ((propB_spec_A_k.Ad 5), tup [.int (propB_spec_A_k.In 0) (propB_spec_A_k.Tk 0), .int (propB_spec_A_k.In 1) (propB_spec_A_k.Tk 1)]), ((propB_spec_A_k.Ad 3), tup [.ref (propB_spec_A_k.Ad 6)]), ((propB_spec_A_k.Ad 6), tup [.int (propB_spec_k.In 2) (propB_spec_A_k.Tk 2), .int (propB_spec_k.In 2) (propB_spec_A_k.Tk 3)]), ((propB_spec_A_k.Ad 4), tup [.ref (propB_spec_A_k.Ad 7)]), ((propB_spec_A_k.Ad 7), tup [.int (propB_spec_A_k.In 2) (propB_spec_A_k.Tk 4), .int (propB_spec_A_k.In 3) (propB_spec_A_k.Tk 5)])], p.1 ∉ [(propB_spec_k.Ad 4), (propB_spec_k.Ad 5), (propB_spec_k.Ad 7), (propB_spec_k.Ad 9)] := by
    have q9 := all_app (off_sub (two_off (o := tup [.ref z3]) (o' := tup [.int (propB_spec_C_k.In 0) s4, .int x3 s5]) off8 (off_sub KA3 (by kcj_all))) hsub3) KA3
    exact off_sub q9 (by (try simp only [List.cons_append, List.nil_append]); kcj_all)
  have hB4 := room_step hB3 hms3 hs3 hs4
  have hS6 := fun k => (hS4 k).trans (hS5 k)
  have hab4 := wide_dn hab3 ⟨hr3.1, hr3.2.1⟩
  have hcd4 := wide_dn hcd3 ⟨hr3.2.2.1, hr3.2.2.2⟩
  clear hS4 hS5 hset hsub3 hsp2 KA3 hs3 hs4 off8 hu4 hdo3 hco3
  rw [ho9] at N9
  k_steps
  refine Stop.out ?_
  refine UnrEnd.intro (by assumption) N9 [((propB_spec_A_k.Ad 1) + 1, (propB_spec_A_k.Ob 0)), ((propB_spec_k.Ad 0), W.instObj 437 (propB_spec_k.Ad 1)), ((propB_spec_k.Ad 1), remD (propB_spec_k.w) (propB_spec_k.Ad 2) (propB_spec_k.Tk 15) (propB_spec_k.Tk 16) (propB_spec_k.Tk 17) (propB_spec_k.Tk 18) (propB_spec_k.Tk 19) (propB_spec_k.Tk 20) (propB_spec_k.Tk 21)), ((propB_spec_k.Ad 2), tup [.int 0 (propB_spec_k.Tk 22), .int 1 (propB_spec_k.Tk 23), .int 2 (propB_spec_k.Tk 24)]), ((propB_spec_k.Ad 14), tup [.int (propB_spec_k.In 0) (propB_spec_k.Tk 0), .int (propB_spec_k.In 1) (propB_spec_k.Tk 1)]), ((propB_spec_k.Ad 16), tup [.int (propB_spec_k.In 3) (propB_spec_k.Tk 4), .int (propB_spec_k.In 4) (propB_spec_k.Tk 5)]), ((propB_spec_k.Ad 3), W.instObj 244 (propB_spec_k.Ad 4)), ((propB_spec_k.Ad 4), storeD (propB_spec_k.w) (propB_spec_k.Ad 5) (propB_spec_k.Ad 6) (propB_spec_k.Ad 7) (propB_spec_k.Ad 8) (propB_spec_k.Ad 9) false (propB_spec_k.Ad 10) (propB_spec_k.Tk 6) (propB_spec_k.Tk 7) (propB_spec_k.Tk 8) (propB_spec_k.Tk 9) (propB_spec_k.Tk 10) (propB_spec_k.Tk 11) (propB_spec_k.Tk 12) (propB_spec_k.Tk 13) (propB_spec_k.Tk 14)), ((propB_spec_k.Ad 5), W.listOf #[.ref H0, .ref H1, .ref H2] (propB_spec_k.Nt 0)), ((propB_spec_k.Ad 7), W.listOf tits4 ktl4), ((propB_spec_k.Ad 9), on4), (H0, tup [.ref J0]), (J0, tup [.int (propB_spec_C_k.In 1) z1', .int b3 z2']), (H1, tup [.ref J1]), (J1, tup [.int (propB_spec_k.In 2) z3', .int (propB_spec_k.In 2) z4']), (H2, tup [.ref J2]), (J2, tup [.int (propB_spec_C_k.In 2) z5', .int d3 z6']), ((propB_spec_B_k.Ad 0), W.listOf #[.ref (propB_spec_A_k.Ad 2), .ref (propB_spec_A_k.Ad 3), .ref (propB_spec_A_k.Ad 4)] (propB_spec_B_k.Ad 1)), ((propB_spec_A_k.Ad 2), tup [.ref (propB_spec_A_k.Ad 5)]), ((propB_spec_A_k.Ad 5), tup [.int (propB_spec_A_k.In 0) (propB_spec_A_k.Tk 0), .int (propB_spec_A_k.In 1) (propB_spec_A_k.Tk 1)]), ((propB_spec_A_k.Ad 3), tup [.ref (propB_spec_A_k.Ad 6)]), ((propB_spec_A_k.Ad 6), tup [.int (propB_spec_k.In 2) (propB_spec_A_k.Tk 2), .int (propB_spec_k.In 2) (propB_spec_A_k.Tk 3)]), ((propB_spec_A_k.Ad 4), tup [.ref (propB_spec_A_k.Ad 7)]), ((propB_spec_A_k.Ad 7), tup [.int (propB_spec_A_k.In 2) (propB_spec_A_k.Tk 4), .int (propB_spec_A_k.In 3) (propB_spec_A_k.Tk 5)])] sub_refl ?off ⟨H0, H1, H2, J0, J1, J2, (propB_spec_C_k.In 1), b3, (propB_spec_C_k.In 2), d3, z1', z2', z3', z4', z5', z6', ktl4, tits4, on4, kvs4, _, frame_spot, rfl, hdo4, hco4, hB4, hab4, hcd4, hS6, KA4, mono_up hmo hr2 hr3, ?done2⟩
  case off => repeat' (first | exact List.forall_mem_nil _ | (refine allC (by first | exact hI7 | k_ne) ?_))
  case done2 =>
    intro h9
    have e := still (e0 := hmo) hr2 hr3 h9
    have hD := hDone e
    refine done_step hsp3 ((hcb3 (propB_spec_C_k.In 0)).trans hp3) ((hcb3 x3).trans hp4) ?_
    rw [← h9.1, ← h9.2.1, ← h9.2.2.1, ← h9.2.2.2, e.1, e.2.1, e.2.2.1, e.2.2.2]
    exact hD
omit B F X T hk in
theorem propB_spec_B_core : propB_spec_B_P propB_spec_B_k :=
  propB_spec_B_c.2
    (fun x2 q2 z2 s2 s3 tits3 ktl3 on3 kvs3 h9 tk9 a3 c3 G0 G1 G2 K0 K1 K2 M1' M2' M3' M4' M5' M6' => eps_all (P := propB_spec_C_P) (k := propB_spec_C_k) (by with_unfolding_all rfl) propB_spec_C_core { propB_spec_B_k with In := pick (propB_spec_B_k.In 0) [x2, a3, c3], Ad := pick (propB_spec_B_k.Ad 0) [q2, z2, ktl3, tk9, G0, G1, G2, K0, K1, K2], Tk := pick (propB_spec_B_k.Tk 0) [s2, s3, M1', M2', M3', M4', M5', M6'], Ar := pick (propB_spec_B_k.Ar 0) [tits3], Ob := pick (propB_spec_B_k.Ob 0) [on3], Kv := pick (propB_spec_B_k.Kv 0) [kvs3], Hp := pick (propB_spec_B_k.Hp 0) [h9] })
omit B F X T hk in
theorem propB_spec_A_core : propB_spec_A_P propB_spec_A_k :=
  propB_spec_A_c.2
    (fun l9 n9 h₃ tk₃ dvB1 dvB2 dvB3 dvB4 dvB5 i g0 g1 g2 k0 k1 k2 a2 b2 c2 dd2 m1 m2 m3 m4 m5 m6 ktl2 tits2 on2 kvs2 sv2 ti h tk lo9 hi9 dj pj t8 t9 o9 I9 => eps_all (P := propB_spec_B_P) (k := propB_spec_B_k) (by with_unfolding_all rfl) propB_spec_B_core { propB_spec_A_k with Ad := pick (propB_spec_A_k.Ad 0) [l9, n9, tk₃, dvB2, i, g0, g1, g2, k0, k1, k2, ktl2, tk, dj, pj, I9], Hp := pick (propB_spec_A_k.Hp 0) [h₃, dvB1, h], Tk := pick (propB_spec_A_k.Tk 0) [dvB3, dvB4, dvB5, m1, m2, m3, m4, m5, m6, ti, t8, t9], In := pick (propB_spec_A_k.In 0) [a2, b2, c2, dd2, lo9, hi9], Ar := pick (propB_spec_A_k.Ar 0) [tits2], Ob := pick (propB_spec_A_k.Ob 0) [on2, o9], Kv := pick (propB_spec_A_k.Kv 0) [kvs2], Ov := pick (propB_spec_A_k.Ov 0) [sv2] })
omit B F X T hk in
theorem propB_spec_core : propB_spec_P propB_spec_k :=
  propB_spec_c.2
    (fun dvA0 dvA1 co9 L9 dvA9 e0 e1 e2 f0 f1 f2 a1 b1 c1 d1' r1 r2 r3 r4 r5 r6 ktl1 tits1 on1 kvs1 sv bv bf h₂ tk₂ => eps_all (P := propB_spec_A_P) (k := propB_spec_A_k) (by with_unfolding_all rfl) propB_spec_A_core { propB_spec_k with Hp := pick (propB_spec_k.Hp 0) [dvA0, dvA9, h₂], Ad := pick (propB_spec_k.Ad 0) [dvA1, L9, e0, e1, e2, f0, f1, f2, ktl1, tk₂], Ob := pick (propB_spec_k.Ob 0) [co9, on1], In := pick (propB_spec_k.In 0) [a1, b1, c1, d1'], Tk := pick (propB_spec_k.Tk 0) [r1, r2, r3, r4, r5, r6], Ar := pick (propB_spec_k.Ar 0) [tits1], Kv := pick (propB_spec_k.Kv 0) [kvs1], Ov := pick (propB_spec_k.Ov 0) [sv], Vl := pick (propB_spec_k.Vl 0) [bv], Lo := pick (propB_spec_k.Lo 0) [bf] })
theorem propB_spec {self rd sc st sd dl fl tl ml nd cl d0 d1 d2 p0 p1 p2 : Addr} {a0 b0 y c d : Int} {t1 t2 t3 t4 t5 t6 u1 u2 u3 u4 u5 u6 u7 u8 u9 w1 w2 w3 w4 w5 w6 w7 v1 v2 v3 : Tok} {kdl ktl : Nat} {tits : Array Value} {on : Obj} {kvs : List (Int × Value)} {B₀ : Int}
  (N : News h₀ L s.heap [(self, W.instObj 437 rd), (rd, remD w sc w1 w2 w3 w4 w5 w6 w7), (sc, tup [.int 0 v1, .int 1 v2, .int 2 v3]), (st, W.instObj 244 sd), (sd, storeD w dl fl tl ml nd false cl u1 u2 u3 u4 u5 u6 u7 u8 u9), (dl, W.listOf #[.ref d0, .ref d1, .ref d2] kdl), (tl, W.listOf tits ktl), (nd, on), (d0, tup [.ref p0]), (p0, tup [.int a0 t1, .int b0 t2]), (d1, tup [.ref p1]), (p1, tup [.int y t3, .int y t4]), (d2, tup [.ref p2]), (p2, tup [.int c t5, .int d t6])])
  (ho : @LT.lt Nat _ sd st ∧ @LT.lt Nat _ st dl ∧ @LT.lt Nat _ dl tl ∧ @LT.lt Nat _ tl nd ∧ @LT.lt Nat _ nd rd)
  (hon : on.IsDictOf (intKind PySem.Challenge.rw_pc0044_01.row.prog w) kvs) (hoc : on.cls = .type "dict") (hts : tits.size < 1000 ∧ kvs.length < 1000)
  (hy : y ≠ 0) (hyb : -1000 < y ∧ y < 1000) (hab : -1000 < a0 ∧ a0 ≤ b0 ∧ b0 < 1000) (hcd : -1000 < c ∧ c ≤ d ∧ d < 1000)
  (hB : (tits.size : Int) + (b0 - a0) + (d - c) ≤ B₀ ∧ (kvs.length : Int) + (b0 - a0) + (d - c) ≤ B₀ ∧ B₀ < 900)
  (hd1 : dp + 16 < recursionLimit) (hu1 : un + 700 < cLine)
  (hret : ∀ a' b' c' d' q0 q1 q2 z0 z1 z2 s1 s2 s3 s4 s5 s6 tits' ktl' on' h' tk', (∀ k, inS y a0 b0 c d k ↔ inS y a' b' c' d' k) → Fix y a' b' c' d' → Fr h₀ L h' m → KeepBut [sd, dl, tl, nd, d0, d1, p1, d2] s.heap h' →
    News h₀ L h' [(st, W.instObj 244 sd), (sd, storeD w dl fl tl ml nd false cl u1 u2 u3 u4 u5 u6 u7 u8 u9), (dl, W.listOf #[.ref q0, .ref q1, .ref q2] kdl), (tl, W.listOf tits' ktl'), (nd, on'), (q0, tup [.ref z0]), (z0, tup [.int a' s1, .int b' s2]), (q1, tup [.ref z1]), (z1, tup [.int y s3, .int y s4]), (q2, tup [.ref z2]), (z2, tup [.int c' s5, .int d' s6])] → Q (.bool true) { s with heap := h', toks := tk' })
  (hbad : ∀ cl' h' tk', (∀ k, ¬ inS y a0 b0 c d k) → Fr h₀ L h' m → KeepBut [sd, dl, tl, nd, d0, d1, p1, d2] s.heap h' →
    News h₀ L h' [(st, W.instObj 244 sd), (sd, storeD w dl fl tl ml nd true cl' u1 u2 u3 u4 u5 u6 u7 u8 u9)] → Q (.bool false) { s with heap := h', toks := tk' }) :
  wpAny (model PySem.Challenge.rw_pc0044_01.row.prog w) (ktrTop dp un gd cn cs L a ccd cl0 outer) (call (.ref 363) [.ref self, .ref st]) Q E s :=
  eps_all (P := propB_spec_P) (k := propB_spec_k) (by with_unfolding_all rfl) propB_spec_core { w := w, mean := mean, mg := mg, mb := mb, dp := dp, un := un, gd := gd, cn := cn, cs := cs, a := a, ccd := ccd, cl0 := cl0, outer := outer, A₀ := A₀, base := base, h₀ := h₀, L := L, m := m, s := s, Q := Q, E := E, Bo := pick true [], Ad := pick 0 [self, rd, sc, st, sd, dl, fl, tl, ml, nd, cl, d0, d1, d2, p0, p1, p2], In := pick 0 [a0, b0, y, c, d, B₀], Tk := pick 0 [t1, t2, t3, t4, t5, t6, u1, u2, u3, u4, u5, u6, u7, u8, u9, w1, w2, w3, w4, w5, w6, w7, v1, v2, v3], Nt := pick 0 [kdl, ktl], Ar := pick #[] [tits], Ob := pick (tup []) [on], Kv := pick [] [kvs], Lv := pick [] [], Li := pick [] [], Lo := pick [] [], Hp := fun _ => h₀, Mp := fun _ => m, Vl := fun _ => ccd, Ov := fun _ => none, Cl := fun _ => [] } B F X T hk N ho hon hoc hts hy hyb hab hcd hB hd1 hu1 hret hbad
end
section
def propD_spec_P (K9 : Ctx) : Prop :=
  (Below (K9.A₀) (K9.base) (K9.outer) (K9.h₀)) →
  (Fr (K9.h₀) (K9.L) (K9.s).heap (K9.m)) →
  ((kp.heap_1 (K9.w).params).In (K9.h₀)) →
  (TT (K9.mean) (K9.mg) (K9.mb) (K9.h₀)) →
  ((K9.cs).kind = .function) →
  (News (K9.h₀) (K9.L) (K9.s).heap [((K9.Ad 0), W.instObj 437 (K9.Ad 1)), ((K9.Ad 1), remD (K9.w) (K9.Ad 2) (K9.Tk 15) (K9.Tk 16) (K9.Tk 17) (K9.Tk 18) (K9.Tk 19) (K9.Tk 20) (K9.Tk 21)), ((K9.Ad 2), tup [.int 0 (K9.Tk 22), .int 1 (K9.Tk 23), .int 2 (K9.Tk 24)]), ((K9.Ad 3), W.instObj 244 (K9.Ad 4)), ((K9.Ad 4), storeD (K9.w) (K9.Ad 5) (K9.Ad 6) (K9.Ad 7) (K9.Ad 8) (K9.Ad 9) false (K9.Ad 10) (K9.Tk 6) (K9.Tk 7) (K9.Tk 8) (K9.Tk 9) (K9.Tk 10) (K9.Tk 11) (K9.Tk 12) (K9.Tk 13) (K9.Tk 14)), ((K9.Ad 5), W.listOf #[.ref (K9.Ad 11), .ref (K9.Ad 12), .ref (K9.Ad 13)] (K9.Nt 0)), ((K9.Ad 7), W.listOf (K9.Ar 0) (K9.Nt 1)), ((K9.Ad 9), (K9.Ob 0)), ((K9.Ad 11), tup [.ref (K9.Ad 14)]), ((K9.Ad 14), tup [.int (K9.In 0) (K9.Tk 0), .int (K9.In 1) (K9.Tk 1)]), ((K9.Ad 12), tup [.ref (K9.Ad 15)]), ((K9.Ad 15), tup [.int (K9.In 2) (K9.Tk 2), .int (K9.In 2) (K9.Tk 3)]), ((K9.Ad 13), tup [.ref (K9.Ad 16)]), ((K9.Ad 16), tup [.int (K9.In 3) (K9.Tk 4), .int (K9.In 4) (K9.Tk 5)])]) →
  (@LT.lt Nat _ (K9.Ad 4) (K9.Ad 3) ∧ @LT.lt Nat _ (K9.Ad 3) (K9.Ad 5) ∧ @LT.lt Nat _ (K9.Ad 5) (K9.Ad 7) ∧ @LT.lt Nat _ (K9.Ad 7) (K9.Ad 9) ∧ @LT.lt Nat _ (K9.Ad 9) (K9.Ad 1)) →
  ((K9.Ob 0).IsDictOf (intKind PySem.Challenge.rw_pc0044_01.row.prog (K9.w)) (K9.Kv 0)) →
  ((K9.Ob 0).cls = .type "dict") →
  ((K9.Ar 0).size < 1000 ∧ (K9.Kv 0).length < 1000) →
  ((K9.In 2) ≠ 0) →
  (-1000 < (K9.In 2) ∧ (K9.In 2) < 1000) →
  (-1000 < (K9.In 0) ∧ (K9.In 0) ≤ (K9.In 1) ∧ (K9.In 1) < 1000) →
  (-1000 < (K9.In 3) ∧ (K9.In 3) ≤ (K9.In 4) ∧ (K9.In 4) < 1000) →
  (((K9.Ar 0).size : Int) + ((K9.In 1) - (K9.In 0)) + ((K9.In 4) - (K9.In 3)) ≤ (K9.In 5) ∧ ((K9.Kv 0).length : Int) + ((K9.In 1) - (K9.In 0)) + ((K9.In 4) - (K9.In 3)) ≤ (K9.In 5) ∧ (K9.In 5) < 900) →
  ((K9.Ad 14) ≠ (K9.Ad 15) ∧ (K9.Ad 16) ≠ (K9.Ad 15)) →
  ((K9.dp) + 20 < recursionLimit) →
  ((K9.un) + 900 < cLine) →
  (∀ a' b' c' d' q0 q1 q2 z0 z1 z2 s1 s2 s3 s4 s5 s6 tits' ktl' on' h' tk', (∀ k, inS (K9.In 2) (K9.In 0) (K9.In 1) (K9.In 3) (K9.In 4) k ↔ inS (K9.In 2) a' b' c' d' k) → Fix (K9.In 2) a' b' c' d' → Fr (K9.h₀) (K9.L) h' (K9.m) → KeepBut [(K9.Ad 4), (K9.Ad 5), (K9.Ad 7), (K9.Ad 9), (K9.Ad 11), (K9.Ad 12), (K9.Ad 15), (K9.Ad 13), (K9.Ad 0), (K9.Ad 1), (K9.Ad 2)] (K9.s).heap h' →
    News (K9.h₀) (K9.L) h' [((K9.Ad 3), W.instObj 244 (K9.Ad 4)), ((K9.Ad 4), storeD (K9.w) (K9.Ad 5) (K9.Ad 6) (K9.Ad 7) (K9.Ad 8) (K9.Ad 9) false (K9.Ad 10) (K9.Tk 6) (K9.Tk 7) (K9.Tk 8) (K9.Tk 9) (K9.Tk 10) (K9.Tk 11) (K9.Tk 12) (K9.Tk 13) (K9.Tk 14)), ((K9.Ad 5), W.listOf #[.ref q0, .ref q1, .ref q2] (K9.Nt 0)), ((K9.Ad 7), W.listOf tits' ktl'), ((K9.Ad 9), on'), (q0, tup [.ref z0]), (z0, tup [.int a' s1, .int b' s2]), (q1, tup [.ref z1]), (z1, tup [.int (K9.In 2) s3, .int (K9.In 2) s4]), (q2, tup [.ref z2]), (z2, tup [.int c' s5, .int d' s6])] → (K9.Q) (.bool true) { (K9.s) with heap := h', toks := tk' }) →
  (∀ cl' h' tk', (∀ k, ¬ inS (K9.In 2) (K9.In 0) (K9.In 1) (K9.In 3) (K9.In 4) k) → Fr (K9.h₀) (K9.L) h' (K9.m) → KeepBut [(K9.Ad 4), (K9.Ad 5), (K9.Ad 7), (K9.Ad 9), (K9.Ad 11), (K9.Ad 12), (K9.Ad 15), (K9.Ad 13), (K9.Ad 0), (K9.Ad 1), (K9.Ad 2)] (K9.s).heap h' →
    News (K9.h₀) (K9.L) h' [((K9.Ad 3), W.instObj 244 (K9.Ad 4)), ((K9.Ad 4), storeD (K9.w) (K9.Ad 5) (K9.Ad 6) (K9.Ad 7) (K9.Ad 8) (K9.Ad 9) true cl' (K9.Tk 6) (K9.Tk 7) (K9.Tk 8) (K9.Tk 9) (K9.Tk 10) (K9.Tk 11) (K9.Tk 12) (K9.Tk 13) (K9.Tk 14))] → (K9.Q) (.bool false) { (K9.s) with heap := h', toks := tk' }) →
  wpAny (model PySem.Challenge.rw_pc0044_01.row.prog (K9.w)) (ktrTop (K9.dp) (K9.un) (K9.gd) (K9.cn) (K9.cs) (K9.L) (K9.a) (K9.ccd) (K9.cl0) (K9.outer)) (call (.ref 387) [.ref (K9.Ad 0), .ref (K9.Ad 3)]) (K9.Q) (K9.E) (K9.s)
@[irreducible] noncomputable def propD_spec_k : Ctx := @Classical.epsilon Ctx ctx_ne fun c => ¬ propD_spec_P c
omit B F X T hk in
theorem propD_spec_core : propD_spec_P propD_spec_k := by
  delta propD_spec_P
  intro B F X T hk N ho hon hoc hts hy hyb hab hcd hB hpp hd1 hu1 hret hbad
  have hP9 := ends_off N ho hoc hpp
  refine wpAny_call ?_
  k_dflt ktr_enter
  k_steps
  refine Stop.out ?_
  refine' propB_spec ?k1 ?k2 ?k3 ?k5 ?kK ?k4 ho hon hoc hts hy hyb hab hcd hB ?kd ?ku ?r1 ?r2
  case k1 => k_asm
  case k2 => k_asm
  case k3 => k_asm
  case k5 => k_asm
  case kK => first | exact rfl | assumption
  case k4 => exact cb_drop (by assumption) (by kcj_all)
  case kd => ktr_room
  case ku => ktr_units
  case r1 =>
    k_whole
    intro a' b' c' d' q0 q1 q2 z0 z1 z2 s1 s2 s3 s4 s5 s6 tits' ktl' on' h' tk' hS hF F9 K9
    (with_reducible rename News _ _ _ _ => N09)
    have M1 := news_keep2 (sub := [((propD_spec_k.Ad 14), tup [.int (propD_spec_k.In 0) (propD_spec_k.Tk 0), .int (propD_spec_k.In 1) (propD_spec_k.Tk 1)]), ((propD_spec_k.Ad 16), tup [.int (propD_spec_k.In 3) (propD_spec_k.Tk 4), .int (propD_spec_k.In 4) (propD_spec_k.Tk 5)])]) N09 K9 (by kcj_all) hP9
    intro M9
    have N9 := news_app M9 M1
    clear N09 M9 M1
    simp only [List.cons_append, List.nil_append] at N9
    k_steps
    refine' hret _ _ _ _ _ _ _ _ _ _ _ _ _ _ _ _ _ _ _ _ _ hS hF (by assumption) ?g7 ?gN
    case g7 => exact keepBut_of (by assumption) (by assumption) (by assumption) (by assumption) (by ktn_open)
    case gN => exact cb_drop (by assumption) (by kcj_all)
  case r2 =>
    k_whole
    intro cl' h' tk' hS F9 K9
    (with_reducible rename News _ _ _ _ => N09)
    have M1 := news_keep2 (sub := [((propD_spec_k.Ad 14), tup [.int (propD_spec_k.In 0) (propD_spec_k.Tk 0), .int (propD_spec_k.In 1) (propD_spec_k.Tk 1)]), ((propD_spec_k.Ad 16), tup [.int (propD_spec_k.In 3) (propD_spec_k.Tk 4), .int (propD_spec_k.In 4) (propD_spec_k.Tk 5)])]) N09 K9 (by kcj_all) hP9
    intro M9
    have N9 := news_app M9 M1
    clear N09 M9 M1
    simp only [List.cons_append, List.nil_append] at N9
    k_steps
    refine' hbad _ _ _ hS (by assumption) ?g7 ?gN
    case g7 => exact keepBut_of (by assumption) (by assumption) (by assumption) (by assumption) (by ktn_open)
    case gN => exact cb_drop (by assumption) (by kcj_all)
theorem propD_spec {self rd sc st sd dl fl tl ml nd cl d0 d1 d2 p0 p1 p2 : Addr} {a0 b0 y c d : Int} {t1 t2 t3 t4 t5 t6 u1 u2 u3 u4 u5 u6 u7 u8 u9 w1 w2 w3 w4 w5 w6 w7 v1 v2 v3 : Tok} {kdl ktl : Nat} {tits : Array Value} {on : Obj} {kvs : List (Int × Value)} {B₀ : Int}
  (N : News h₀ L s.heap [(self, W.instObj 437 rd), (rd, remD w sc w1 w2 w3 w4 w5 w6 w7), (sc, tup [.int 0 v1, .int 1 v2, .int 2 v3]), (st, W.instObj 244 sd), (sd, storeD w dl fl tl ml nd false cl u1 u2 u3 u4 u5 u6 u7 u8 u9), (dl, W.listOf #[.ref d0, .ref d1, .ref d2] kdl), (tl, W.listOf tits ktl), (nd, on), (d0, tup [.ref p0]), (p0, tup [.int a0 t1, .int b0 t2]), (d1, tup [.ref p1]), (p1, tup [.int y t3, .int y t4]), (d2, tup [.ref p2]), (p2, tup [.int c t5, .int d t6])])
  (ho : @LT.lt Nat _ sd st ∧ @LT.lt Nat _ st dl ∧ @LT.lt Nat _ dl tl ∧ @LT.lt Nat _ tl nd ∧ @LT.lt Nat _ nd rd)
  (hon : on.IsDictOf (intKind PySem.Challenge.rw_pc0044_01.row.prog w) kvs) (hoc : on.cls = .type "dict") (hts : tits.size < 1000 ∧ kvs.length < 1000)
  (hy : y ≠ 0) (hyb : -1000 < y ∧ y < 1000) (hab : -1000 < a0 ∧ a0 ≤ b0 ∧ b0 < 1000) (hcd : -1000 < c ∧ c ≤ d ∧ d < 1000)
  (hB : (tits.size : Int) + (b0 - a0) + (d - c) ≤ B₀ ∧ (kvs.length : Int) + (b0 - a0) + (d - c) ≤ B₀ ∧ B₀ < 900)
  (hpp : p0 ≠ p1 ∧ p2 ≠ p1) (hd1 : dp + 20 < recursionLimit) (hu1 : un + 900 < cLine)
  (hret : ∀ a' b' c' d' q0 q1 q2 z0 z1 z2 s1 s2 s3 s4 s5 s6 tits' ktl' on' h' tk', (∀ k, inS y a0 b0 c d k ↔ inS y a' b' c' d' k) → Fix y a' b' c' d' → Fr h₀ L h' m → KeepBut [sd, dl, tl, nd, d0, d1, p1, d2, self, rd, sc] s.heap h' →
    News h₀ L h' [(st, W.instObj 244 sd), (sd, storeD w dl fl tl ml nd false cl u1 u2 u3 u4 u5 u6 u7 u8 u9), (dl, W.listOf #[.ref q0, .ref q1, .ref q2] kdl), (tl, W.listOf tits' ktl'), (nd, on'), (q0, tup [.ref z0]), (z0, tup [.int a' s1, .int b' s2]), (q1, tup [.ref z1]), (z1, tup [.int y s3, .int y s4]), (q2, tup [.ref z2]), (z2, tup [.int c' s5, .int d' s6])] → Q (.bool true) { s with heap := h', toks := tk' })
  (hbad : ∀ cl' h' tk', (∀ k, ¬ inS y a0 b0 c d k) → Fr h₀ L h' m → KeepBut [sd, dl, tl, nd, d0, d1, p1, d2, self, rd, sc] s.heap h' →
    News h₀ L h' [(st, W.instObj 244 sd), (sd, storeD w dl fl tl ml nd true cl' u1 u2 u3 u4 u5 u6 u7 u8 u9)] → Q (.bool false) { s with heap := h', toks := tk' }) :
  wpAny (model PySem.Challenge.rw_pc0044_01.row.prog w) (ktrTop dp un gd cn cs L a ccd cl0 outer) (call (.ref 387) [.ref self, .ref st]) Q E s :=
  eps_all (P := propD_spec_P) (k := propD_spec_k) (by with_unfolding_all rfl) propD_spec_core { w := w, mean := mean, mg := mg, mb := mb, dp := dp, un := un, gd := gd, cn := cn, cs := cs, a := a, ccd := ccd, cl0 := cl0, outer := outer, A₀ := A₀, base := base, h₀ := h₀, L := L, m := m, s := s, Q := Q, E := E, Bo := pick true [], Ad := pick 0 [self, rd, sc, st, sd, dl, fl, tl, ml, nd, cl, d0, d1, d2, p0, p1, p2], In := pick 0 [a0, b0, y, c, d, B₀], Tk := pick 0 [t1, t2, t3, t4, t5, t6, u1, u2, u3, u4, u5, u6, u7, u8, u9, w1, w2, w3, w4, w5, w6, w7, v1, v2, v3], Nt := pick 0 [kdl, ktl], Ar := pick #[] [tits], Ob := pick (tup []) [on], Kv := pick [] [kvs], Lv := pick [] [], Li := pick [] [], Lo := pick [] [], Hp := fun _ => h₀, Mp := fun _ => m, Vl := fun _ => ccd, Ov := fun _ => none, Cl := fun _ => [] } B F X T hk N ho hon hoc hts hy hyb hab hcd hB hpp hd1 hu1 hret hbad
end
section
def store_new_P (K9 : Ctx) : Prop :=
  (Below (K9.A₀) (K9.base) (K9.outer) (K9.h₀)) →
  (Fr (K9.h₀) (K9.L) (K9.s).heap (K9.m)) →
  ((kp.heap_1 (K9.w).params).In (K9.h₀)) →
  (TT (K9.mean) (K9.mg) (K9.mb) (K9.h₀)) →
  ((K9.cs).kind = .function) →
  (News (K9.h₀) (K9.L) (K9.s).heap (K9.Lo 0)) →
  ((K9.dp) + 4 < recursionLimit) →
  ((K9.un) + 60 < cLine) →
  (∀ st sd dl fl tl ml nd cl u1 u2 u3 u4 u5 u6 u7 u8 u9 k1 k2 k3 k4 on h' tk', Fr (K9.h₀) (K9.L) h' (K9.m) → (∀ p ∈ (K9.Lo 0), p.1 < sd) → (@LT.lt Nat _ sd st ∧ @LT.lt Nat _ st dl ∧ @LT.lt Nat _ dl fl ∧ @LT.lt Nat _ fl tl ∧ @LT.lt Nat _ tl ml ∧ @LT.lt Nat _ ml nd ∧ @LT.lt Nat _ nd cl) →
    on.IsDictOf (intKind PySem.Challenge.rw_pc0044_01.row.prog (K9.w)) [] → on.cls = .type "dict" →
    News (K9.h₀) (K9.L) h' ((st, W.instObj 244 sd) :: (sd, storeD (K9.w) dl fl tl ml nd false cl u1 u2 u3 u4 u5 u6 u7 u8 u9) :: (dl, W.listOf #[] k1) :: (fl, W.listOf #[] k2) :: (tl, W.listOf #[] k3) :: (ml, W.listOf #[] k4) :: (nd, on) :: (cl, tup []) :: (K9.Lo 0)) → (K9.Q) (.ref st) { (K9.s) with heap := h', toks := tk' }) →
  wpAny (model PySem.Challenge.rw_pc0044_01.row.prog (K9.w)) (ktrTop (K9.dp) (K9.un) (K9.gd) (K9.cn) (K9.cs) (K9.L) (K9.a) (K9.ccd) (K9.cl0) (K9.outer)) (call (.ref 244) []) (K9.Q) (K9.E) (K9.s)
@[irreducible] noncomputable def store_new_k : Ctx := @Classical.epsilon Ctx ctx_ne fun c => ¬ store_new_P c
omit B F X T hk in
theorem store_new_core : store_new_P store_new_k := by
  delta store_new_P
  intro B F X T hk N hd1 hu1 hret
  k_dflt (refine' call_cls ?k1 ?k2 ?k3 ?k4 ?k5 ?k6 ?_; (case k1 => k_asm); (case k2 => k_asm); (case k3 => k_asm); (case k4 => k_is); (case k5 => k_is); (case k6 => k_is); k_whole)
  intro st sd h1 F1 N1 l1 l2
  (try k_lt2 l2)
  clear N
  k_dflt ktr_enter
  k_steps
  refine' hret st sd _ _ _ _ _ _ _ _ _ _ _ _ _ _ _ _ _ _ _ _ _ _ (by assumption) l1 ?go ?gD ?gc ?gN
  case gN => exact cb_drop (by assumption) (by kcj_all)
  case go => exact ⟨l2, mem_lt (by assumption) (by k_mem), mem_lt (by assumption) (by k_mem), mem_lt (by assumption) (by k_mem), mem_lt (by assumption) (by k_mem), mem_lt (by assumption) (by k_mem), mem_lt (by assumption) (by k_mem)⟩
  case gD => assumption
  case gc => (with_reducible rename Obj.IsDictOf _ _ _ => hd9); obtain ⟨_, _, z, _⟩ := hd9; exact z.1
theorem store_new {nw : List (Addr × Obj)}
  (N : News h₀ L s.heap nw)
  (hd1 : dp + 4 < recursionLimit) (hu1 : un + 60 < cLine)
  (hret : ∀ st sd dl fl tl ml nd cl u1 u2 u3 u4 u5 u6 u7 u8 u9 k1 k2 k3 k4 on h' tk', Fr h₀ L h' m → (∀ p ∈ nw, p.1 < sd) → (@LT.lt Nat _ sd st ∧ @LT.lt Nat _ st dl ∧ @LT.lt Nat _ dl fl ∧ @LT.lt Nat _ fl tl ∧ @LT.lt Nat _ tl ml ∧ @LT.lt Nat _ ml nd ∧ @LT.lt Nat _ nd cl) →
    on.IsDictOf (intKind PySem.Challenge.rw_pc0044_01.row.prog w) [] → on.cls = .type "dict" →
    News h₀ L h' ((st, W.instObj 244 sd) :: (sd, storeD w dl fl tl ml nd false cl u1 u2 u3 u4 u5 u6 u7 u8 u9) :: (dl, W.listOf #[] k1) :: (fl, W.listOf #[] k2) :: (tl, W.listOf #[] k3) :: (ml, W.listOf #[] k4) :: (nd, on) :: (cl, tup []) :: nw) → Q (.ref st) { s with heap := h', toks := tk' }) :
  wpAny (model PySem.Challenge.rw_pc0044_01.row.prog w) (ktrTop dp un gd cn cs L a ccd cl0 outer) (call (.ref 244) []) Q E s :=
  eps_all (P := store_new_P) (k := store_new_k) (by with_unfolding_all rfl) store_new_core { w := w, mean := mean, mg := mg, mb := mb, dp := dp, un := un, gd := gd, cn := cn, cs := cs, a := a, ccd := ccd, cl0 := cl0, outer := outer, A₀ := A₀, base := base, h₀ := h₀, L := L, m := m, s := s, Q := Q, E := E, Bo := pick true [], Ad := pick 0 [], In := pick 0 [], Tk := pick 0 [], Nt := pick 0 [], Ar := pick #[] [], Ob := pick (tup []) [], Kv := pick [] [], Lv := pick [] [], Li := pick [] [], Lo := pick [] [nw], Hp := fun _ => h₀, Mp := fun _ => m, Vl := fun _ => ccd, Ov := fun _ => none, Cl := fun _ => [] } B F X T hk N hd1 hu1 hret
end
section
def rem_new_P (K9 : Ctx) : Prop :=
  (Below (K9.A₀) (K9.base) (K9.outer) (K9.h₀)) →
  (Fr (K9.h₀) (K9.L) (K9.s).heap (K9.m)) →
  ((kp.heap_1 (K9.w).params).In (K9.h₀)) →
  (TT (K9.mean) (K9.mg) (K9.mb) (K9.h₀)) →
  ((K9.cs).kind = .function) →
  (News (K9.h₀) (K9.L) (K9.s).heap (K9.Lo 0)) →
  ((K9.dp) + 6 < recursionLimit) →
  ((K9.un) + 100 < cLine) →
  (∀ self rd sc w1 w2 w3 w4 w5 w6 w7 v1 v2 v3 h' tk', Fr (K9.h₀) (K9.L) h' (K9.m) → (∀ p ∈ (K9.Lo 0), p.1 < rd) → (@LT.lt Nat _ rd self ∧ @LT.lt Nat _ self sc) →
    News (K9.h₀) (K9.L) h' ((self, W.instObj 437 rd) :: (rd, remD (K9.w) sc w1 w2 w3 w4 w5 w6 w7) :: (sc, tup [.int 0 v1, .int 1 v2, .int 2 v3]) :: (K9.Lo 0)) → (K9.Q) (.ref self) { (K9.s) with heap := h', toks := tk' }) →
  wpAny (model PySem.Challenge.rw_pc0044_01.row.prog (K9.w)) (ktrTop (K9.dp) (K9.un) (K9.gd) (K9.cn) (K9.cs) (K9.L) (K9.a) (K9.ccd) (K9.cl0) (K9.outer)) (call (.ref 437) [.int 0 (K9.Tk 0), .int 1 (K9.Tk 1), .int 2 (K9.Tk 2)]) (K9.Q) (K9.E) (K9.s)
@[irreducible] noncomputable def rem_new_k : Ctx := @Classical.epsilon Ctx ctx_ne fun c => ¬ rem_new_P c
omit B F X T hk in
theorem rem_new_core : rem_new_P rem_new_k := by
  delta rem_new_P
  intro B F X T hk N hd1 hu1 hret
  k_dflt (refine' call_cls ?k1 ?k2 ?k3 ?k4 ?k5 ?k6 ?_; (case k1 => k_asm); (case k2 => k_asm); (case k3 => k_asm); (case k4 => k_is); (case k5 => k_is); (case k6 => k_is); k_whole)
  intro self rd h1 F1 N1 l1 l2
  (try k_lt2 l2)
  clear N
  k_dflt (refine' ks_code_super ?k1 ?k2 ?k3 ?k4 ?k5 ?kA ?kF ?kK ?k6 ?k7 ?k8 ?k9 ?kB ?_ ?c1 ?c2 ?c3 ?c4; (case kA => exact rfl); (case kF => exact rfl); (case kK => assumption); (case k1 => k_asm); (case k2 => k_asm); (case k3 => k_asm); (case k4 => k_asm); (case k5 => k_asm); (case k6 => k_is); (case k7 => k_is); (case k8 => ktr_room); (case k9 => exact BindsTo.of_eq rfl); (case kB => exact locs rfl); (case c1 => decide); (case c2 => exact rfl); (case c3 => exact rfl); (case c4 => exact rfl))
  intro g1 L1 h2 FG1 F2 N2 B2 X2 T2 l3
  (try dsimp only)
  (try k_lift B2)
  k_steps
  refine' hret self rd _ _ _ _ _ _ _ _ _ _ _ _ _ (by assumption) l1 ?go ?gN
  case gN => exact cb_drop (by assumption) (by kcj_all)
  case go => exact ⟨l2, mem_lt (by assumption) (by k_mem)⟩
theorem rem_new {nw : List (Addr × Obj)} {t1 t2 t3 : Tok}
  (N : News h₀ L s.heap nw)
  (hd1 : dp + 6 < recursionLimit) (hu1 : un + 100 < cLine)
  (hret : ∀ self rd sc w1 w2 w3 w4 w5 w6 w7 v1 v2 v3 h' tk', Fr h₀ L h' m → (∀ p ∈ nw, p.1 < rd) → (@LT.lt Nat _ rd self ∧ @LT.lt Nat _ self sc) →
    News h₀ L h' ((self, W.instObj 437 rd) :: (rd, remD w sc w1 w2 w3 w4 w5 w6 w7) :: (sc, tup [.int 0 v1, .int 1 v2, .int 2 v3]) :: nw) → Q (.ref self) { s with heap := h', toks := tk' }) :
  wpAny (model PySem.Challenge.rw_pc0044_01.row.prog w) (ktrTop dp un gd cn cs L a ccd cl0 outer) (call (.ref 437) [.int 0 t1, .int 1 t2, .int 2 t3]) Q E s :=
  eps_all (P := rem_new_P) (k := rem_new_k) (by with_unfolding_all rfl) rem_new_core { w := w, mean := mean, mg := mg, mb := mb, dp := dp, un := un, gd := gd, cn := cn, cs := cs, a := a, ccd := ccd, cl0 := cl0, outer := outer, A₀ := A₀, base := base, h₀ := h₀, L := L, m := m, s := s, Q := Q, E := E, Bo := pick true [], Ad := pick 0 [], In := pick 0 [], Tk := pick 0 [t1, t2, t3], Nt := pick 0 [], Ar := pick #[] [], Ob := pick (tup []) [], Kv := pick [] [], Lv := pick [] [], Li := pick [] [], Lo := pick [] [nw], Hp := fun _ => h₀, Mp := fun _ => m, Vl := fun _ => ccd, Ov := fun _ => none, Cl := fun _ => [] } B F X T hk N hd1 hu1 hret
end
section
local macro_rules | `(tactic| walk_at "call builtin:len") => `(tactic| (k_here; (with_reducible show wpAny _ _ (call (Value.builtin "len") [Value.ref _]) _ _ _); k_dflt (refine' kun_lenL ?k1 rfl ?k3 ?_; (case k1 => exact News.isList (by k_asm) (by k_mem)); (case k3 => (rw [Array.size_push]; omega)); k_whole)))
local macro_rules | `(tactic| walk_at "compareOp Eq ref ref") => `(tactic| (k_here; k_dflt (refine' eq_dom_nil (by k_asm) (by k_mem) (by k_mem) (by k_mem) (by ktr_units) ?_; k_whole)))
def new_var_P (K9 : Ctx) : Prop :=
  (Below (K9.A₀) (K9.base) (K9.outer) (K9.h₀)) →
  (Fr (K9.h₀) (K9.L) (K9.s).heap (K9.m)) →
  ((kp.heap_1 (K9.w).params).In (K9.h₀)) →
  (TT (K9.mean) (K9.mg) (K9.mb) (K9.h₀)) →
  ((K9.cs).kind = .function) →
  (News (K9.h₀) (K9.L) (K9.s).heap [((K9.Ad 0), W.instObj 244 (K9.Ad 1)), ((K9.Ad 1), storeD (K9.w) (K9.Ad 2) (K9.Ad 3) (K9.Ad 4) (K9.Ad 5) (K9.Ad 6) false (K9.Ad 7) (K9.Tk 2) (K9.Tk 3) (K9.Tk 4) (K9.Tk 5) (K9.Tk 6) (K9.Tk 7) (K9.Tk 8) (K9.Tk 9) (K9.Tk 10)), ((K9.Ad 2), W.listOf (K9.Ar 0) (K9.Nt 0)), ((K9.Ad 3), W.listOf (K9.Ar 1) (K9.Nt 1)), ((K9.Ad 8), tup [.ref (K9.Ad 9)]), ((K9.Ad 9), tup [.int (K9.In 0) (K9.Tk 0), .int (K9.In 1) (K9.Tk 1)])]) →
  (@LT.lt Nat _ (K9.Ad 2) (K9.Ad 3)) →
  ((K9.Ar 0).size < 100 ∧ (K9.Ar 1).size < 100) →
  ((K9.dp) + 2 < recursionLimit) →
  ((K9.un) + 120 < cLine) →
  (∀ r h' tk', Fr (K9.h₀) (K9.L) h' (K9.m) → KeepBut [(K9.Ad 2), (K9.Ad 3)] (K9.s).heap h' → News (K9.h₀) (K9.L) h' [((K9.Ad 2), W.listOf ((K9.Ar 0).push (.ref (K9.Ad 8))) ((K9.Nt 0) + 1)), ((K9.Ad 3), W.listOf ((K9.Ar 1).push (.ref (K9.Ad 8))) ((K9.Nt 1) + 1))] → (K9.Q) r { (K9.s) with heap := h', toks := tk' }) →
  wpAny (model PySem.Challenge.rw_pc0044_01.row.prog (K9.w)) (ktrTop (K9.dp) (K9.un) (K9.gd) (K9.cn) (K9.cs) (K9.L) (K9.a) (K9.ccd) (K9.cl0) (K9.outer)) (call (.ref 115) [.ref (K9.Ad 0), .ref (K9.Ad 8)]) (K9.Q) (K9.E) (K9.s)
@[irreducible] noncomputable def new_var_k : Ctx := @Classical.epsilon Ctx ctx_ne fun c => ¬ new_var_P c
omit B F X T hk in
theorem new_var_core : new_var_P new_var_k := by
  delta new_var_P
  intro B F X T hk N hdf hdl hd1 hu1 hret
  refine wpAny_call ?_
  k_dflt ktr_enter
  k_steps
  (with_reducible rename Fr _ _ _ _ => kF)
  (with_reducible rename News _ _ _ _ => kN)
  dsimp only at kF kN
  exact hret _ _ _ kF (keepBut_of (by assumption) (by assumption) (by assumption) (by assumption) (by ktn_open)) (cb_drop kN (by kcj_all))
theorem new_var {st sd dl fl tl ml nd cl dom e : Addr} {x z : Int} {t1 t2 : Tok} {ds fs : Array Value} {u1 u2 u3 u4 u5 u6 u7 u8 u9 : Tok} {n1 n2 : Nat}
  (N : News h₀ L s.heap [(st, W.instObj 244 sd), (sd, storeD w dl fl tl ml nd false cl u1 u2 u3 u4 u5 u6 u7 u8 u9), (dl, W.listOf ds n1), (fl, W.listOf fs n2), (dom, tup [.ref e]), (e, tup [.int x t1, .int z t2])])
  (hdf : @LT.lt Nat _ dl fl) (hdl : ds.size < 100 ∧ fs.size < 100)
  (hd1 : dp + 2 < recursionLimit) (hu1 : un + 120 < cLine)
  (hret : ∀ r h' tk', Fr h₀ L h' m → KeepBut [dl, fl] s.heap h' → News h₀ L h' [(dl, W.listOf (ds.push (.ref dom)) (n1 + 1)), (fl, W.listOf (fs.push (.ref dom)) (n2 + 1))] → Q r { s with heap := h', toks := tk' }) :
  wpAny (model PySem.Challenge.rw_pc0044_01.row.prog w) (ktrTop dp un gd cn cs L a ccd cl0 outer) (call (.ref 115) [.ref st, .ref dom]) Q E s :=
  eps_all (P := new_var_P) (k := new_var_k) (by with_unfolding_all rfl) new_var_core { w := w, mean := mean, mg := mg, mb := mb, dp := dp, un := un, gd := gd, cn := cn, cs := cs, a := a, ccd := ccd, cl0 := cl0, outer := outer, A₀ := A₀, base := base, h₀ := h₀, L := L, m := m, s := s, Q := Q, E := E, Bo := pick true [], Ad := pick 0 [st, sd, dl, fl, tl, ml, nd, cl, dom, e], In := pick 0 [x, z], Tk := pick 0 [t1, t2, u1, u2, u3, u4, u5, u6, u7, u8, u9], Nt := pick 0 [n1, n2], Ar := pick #[] [ds, fs], Ob := pick (tup []) [], Kv := pick [] [], Lv := pick [] [], Li := pick [] [], Lo := pick [] [], Hp := fun _ => h₀, Mp := fun _ => m, Vl := fun _ => ccd, Ov := fun _ => none, Cl := fun _ => [] } B F X T hk N hdf hdl hd1 hu1 hret
theorem new_var_call {st sd dl fl tl ml nd cl dom e : Addr} {x z : Int} {t1 t2 : Tok} {ds fs : Array Value} {u1 u2 u3 u4 u5 u6 u7 u8 u9 : Tok} {n1 n2 : Nat} {news : List (Addr × Obj)} {g1 g2 : Obj → List (Addr × Obj)}
  (N : News h₀ L s.heap news) (U1 : UpdF dl (W.listOf ds n1) news g1) (U2 : UpdF fl (W.listOf fs n2) (g1 (W.listOf (ds.push (.ref dom)) (n1 + 1))) g2)
  (M : ∀ p ∈ [(st, W.instObj 244 sd), (sd, storeD w dl fl tl ml nd false cl u1 u2 u3 u4 u5 u6 u7 u8 u9), (dl, W.listOf ds n1), (fl, W.listOf fs n2), (dom, tup [.ref e]), (e, tup [.int x t1, .int z t2])], p ∈ news)
  (hdf : @LT.lt Nat _ dl fl) (hdl : ds.size < 100 ∧ fs.size < 100)
  (hd1 : dp + 2 < recursionLimit) (hu1 : un + 120 < cLine)
  (hret : ∀ r h' tk', Fr h₀ L h' m → News h₀ L h' (g2 (W.listOf (fs.push (.ref dom)) (n2 + 1))) → Q r { s with heap := h', toks := tk' }) :
  wpAny (model PySem.Challenge.rw_pc0044_01.row.prog w) (ktrTop dp un gd cn cs L a ccd cl0 outer) (call (.ref 115) [.ref st, .ref dom]) Q E s :=
  new_var B F X T hk (cb_drop N M) hdf hdl hd1 hu1 fun r h' tk' F' K' M' => hret r h' tk' F' (upd_news2 U1 U2 N K' M')
end
local macro_rules | `(tactic| walk_at "call ref") => `(tactic| (ktr_call 115 0; k_dflt (refine' new_var_call (by k_asm) (by k_asm) (by k_asm) (by k_asm) (by z_go) (by assumption) ?kU ?kV (by kcj_all) (by assumption) ⟨by decide, by decide⟩ (by ktr_room) (by ktr_units) ?_; (case kU => k_updF); (case kV => k_updF); k_whole; intro r' h' tk' F' N')))
section
local macro_rules | `(tactic| walk_at "subscriptTail Subscript") => `(tactic| (k_here; (with_reducible show wpAny _ _ (subscriptTail _ _ (Value.ref _) (Value.int _ _)) _ _ _); k_dflt (refine' led_ints (by k_asm) (by k_mem) (by assumption) (by omega) (by omega) (by omega) ?_ (by with_unfolding_all rfl); k_whole; intro u')))
def pull_spec_P (K9 : Ctx) : Prop :=
  (Below (K9.A₀) (K9.base) (K9.outer) (K9.h₀)) →
  (Fr (K9.h₀) (K9.L) (K9.s).heap (K9.m)) →
  ((kp.heap_1 (K9.w).params).In (K9.h₀)) →
  (TT (K9.mean) (K9.mg) (K9.mb) (K9.h₀)) →
  ((K9.cs).kind = .function) →
  (News (K9.h₀) (K9.L) (K9.s).heap [((K9.Ad 0), W.listOf #[.ref (K9.Ad 1), .int (K9.In 0) (K9.Tk 0)] (K9.Nt 0)), ((K9.Ad 1), W.listOf (K9.Lv 0).toArray (K9.Nt 1))]) →
  (IntsAre (K9.Lv 0) (K9.Li 0)) →
  ((K9.Lv 0).length ≤ 100) →
  (@Ne Nat (K9.Ad 1) (K9.Ad 0)) →
  (0 ≤ (K9.In 0) ∧ (K9.In 0) < 500) →
  (0 < (K9.In 1)) →
  ((K9.dp) + 2 < recursionLimit) →
  ((K9.un) + 20 < cLine) →
  (∀ v t t' k'' h' tk', 0 ≤ v ∧ v < (K9.In 1) → Fr (K9.h₀) (K9.L) h' (K9.m) → KeepBut [(K9.Ad 0)] (K9.s).heap h' → News (K9.h₀) (K9.L) h' [((K9.Ad 0), W.listOf #[.ref (K9.Ad 1), .int ((K9.In 0) + 1) t'] k''), ((K9.Ad 1), W.listOf (K9.Lv 0).toArray (K9.Nt 1))] → (K9.Q) (.int v t) { (K9.s) with heap := h', toks := tk' }) →
  wpAny (model PySem.Challenge.rw_pc0044_01.row.prog (K9.w)) (ktrTop (K9.dp) (K9.un) (K9.gd) (K9.cn) (K9.cs) (K9.L) (K9.a) (K9.ccd) (K9.cl0) (K9.outer)) (call (.ref 446) [.ref (K9.Ad 0), .int (K9.In 1) (K9.Tk 1)]) (K9.Q) (K9.E) (K9.s)
@[irreducible] noncomputable def pull_spec_k : Ctx := @Classical.epsilon Ctx ctx_ne fun c => ¬ pull_spec_P c
omit B F X T hk in
theorem pull_spec_core : pull_spec_P pull_spec_k := by
  delta pull_spec_P
  intro B F X T hk N hI hl hne hp hm hd1 hu1 hret
  have hsz : (pull_spec_k.Lv 0).toArray.size = (pull_spec_k.Lv 0).length := List.size_toArray
  have hNL : (((pull_spec_k.Lv 0).length : Nat) : Int) ≤ 100 := by omega
  refine wpAny_call ?_
  k_dflt ktr_enter
  k_steps
  all_goals
    refine' hret _ _ _ _ _ _ (fmod_in _ hm) (by assumption) ?g7 ?gN
    case g7 => exact keepBut_of (by assumption) (by assumption) (by assumption) (by assumption) (by ktn_open)
    case gN => exact cb_drop (by assumption) (by kcj_all)
theorem pull_spec {rope cells : Addr} {p many : Int} {t1 t2 : Tok} {k k' : Nat} {vs : List Value} {ns : List Int}
  (N : News h₀ L s.heap [(rope, W.listOf #[.ref cells, .int p t1] k), (cells, W.listOf vs.toArray k')]) (hI : IntsAre vs ns) (hl : vs.length ≤ 100) (hne : @Ne Nat cells rope) (hp : 0 ≤ p ∧ p < 500) (hm : 0 < many)
  (hd1 : dp + 2 < recursionLimit) (hu1 : un + 20 < cLine)
  (hret : ∀ v t t' k'' h' tk', 0 ≤ v ∧ v < many → Fr h₀ L h' m → KeepBut [rope] s.heap h' → News h₀ L h' [(rope, W.listOf #[.ref cells, .int (p + 1) t'] k''), (cells, W.listOf vs.toArray k')] → Q (.int v t) { s with heap := h', toks := tk' }) :
  wpAny (model PySem.Challenge.rw_pc0044_01.row.prog w) (ktrTop dp un gd cn cs L a ccd cl0 outer) (call (.ref 446) [.ref rope, .int many t2]) Q E s :=
  eps_all (P := pull_spec_P) (k := pull_spec_k) (by with_unfolding_all rfl) pull_spec_core { w := w, mean := mean, mg := mg, mb := mb, dp := dp, un := un, gd := gd, cn := cn, cs := cs, a := a, ccd := ccd, cl0 := cl0, outer := outer, A₀ := A₀, base := base, h₀ := h₀, L := L, m := m, s := s, Q := Q, E := E, Bo := pick true [], Ad := pick 0 [rope, cells], In := pick 0 [p, many], Tk := pick 0 [t1, t2], Nt := pick 0 [k, k'], Ar := pick #[] [], Ob := pick (tup []) [], Kv := pick [] [], Lv := pick [] [vs], Li := pick [] [ns], Lo := pick [] [], Hp := fun _ => h₀, Mp := fun _ => m, Vl := fun _ => ccd, Ov := fun _ => none, Cl := fun _ => [] } B F X T hk N hI hl hne hp hm hd1 hu1 hret
theorem pull_call {rope cells : Addr} {p many : Int} {t1 t2 : Tok} {k k' : Nat} {vs : List Value} {ns : List Int} {news : List (Addr × Obj)} {g : Obj → List (Addr × Obj)}
  (N : News h₀ L s.heap news) (U : UpdF rope (W.listOf #[.ref cells, .int p t1] k) news g) (hc : (cells, W.listOf vs.toArray k') ∈ news) (hI : IntsAre vs ns) (hl : vs.length ≤ 100) (hne : @Ne Nat cells rope) (hp : 0 ≤ p ∧ p < 500) (hm : 0 < many)
  (hd1 : dp + 2 < recursionLimit) (hu1 : un + 20 < cLine)
  (hret : ∀ v t t' k'' h' tk', 0 ≤ v ∧ v < many → Fr h₀ L h' m → News h₀ L h' (g (W.listOf #[.ref cells, .int (p + 1) t'] k'')) → Q (.int v t) { s with heap := h', toks := tk' }) :
  wpAny (model PySem.Challenge.rw_pc0044_01.row.prog w) (ktrTop dp un gd cn cs L a ccd cl0 outer) (call (.ref 446) [.ref rope, .int many t2]) Q E s :=
  pull_spec B F X T hk (news_two N (upd_mem U) hc) hI hl hne hp hm hd1 hu1 fun v t t' k'' h' tk' hv F' K' M' => hret v t t' k'' h' tk' hv F' (upd_news U N K' (news_1 M'))
end
local macro_rules | `(tactic| walk_at "call ref") => `(tactic| (ktr_call 446 0; k_dflt (refine' pull_call (by k_asm) (by k_asm) (by k_asm) (by k_asm) (by z_go) (by assumption) (by k_updF) (by k_mem) (by assumption) (by assumption) (by k_ne) (by omega) (by first | decide | omega) (by ktr_room) (by ktr_units) ?_; k_whole; intro v' t' t'' k'' h' tk' hb' F' N'; (try dsimp only at N'); (try k_sweep))))
section
def range_spec_P (K9 : Ctx) : Prop :=
  (Below (K9.A₀) (K9.base) (K9.outer) (K9.h₀)) →
  (Fr (K9.h₀) (K9.L) (K9.s).heap (K9.m)) →
  ((kp.heap_1 (K9.w).params).In (K9.h₀)) →
  (TT (K9.mean) (K9.mg) (K9.mb) (K9.h₀)) →
  ((K9.cs).kind = .function) →
  (News (K9.h₀) (K9.L) (K9.s).heap [((K9.Ad 0), W.listOf #[.ref (K9.Ad 1), .int (K9.In 0) (K9.Tk 0)] (K9.Nt 0)), ((K9.Ad 1), W.listOf (K9.Lv 0).toArray (K9.Nt 1))]) →
  (IntsAre (K9.Lv 0) (K9.Li 0)) →
  ((K9.Lv 0).length ≤ 100) →
  (@Ne Nat (K9.Ad 1) (K9.Ad 0)) →
  (0 ≤ (K9.In 0) ∧ (K9.In 0) < 400) →
  ((K9.dp) + 4 < recursionLimit) →
  ((K9.un) + 60 < cLine) →
  (∀ q lo hi t t' t'' k'' h' tk', -2000000000000000 < lo ∧ lo ≤ hi ∧ hi ≤ lo + 11 ∧ hi < 2000000000000000 → Fr (K9.h₀) (K9.L) h' (K9.m) → KeepBut [(K9.Ad 0)] (K9.s).heap h' → Fresh (K9.s).heap q → News (K9.h₀) (K9.L) h' [(q, tup [.int lo t, .int hi t']), ((K9.Ad 0), W.listOf #[.ref (K9.Ad 1), .int ((K9.In 0) + 3) t''] k''), ((K9.Ad 1), W.listOf (K9.Lv 0).toArray (K9.Nt 1))] → (K9.Q) (.ref q) { (K9.s) with heap := h', toks := tk' }) →
  wpAny (model PySem.Challenge.rw_pc0044_01.row.prog (K9.w)) (ktrTop (K9.dp) (K9.un) (K9.gd) (K9.cn) (K9.cs) (K9.L) (K9.a) (K9.ccd) (K9.cl0) (K9.outer)) (call (.ref 460) [.ref (K9.Ad 0)]) (K9.Q) (K9.E) (K9.s)
@[irreducible] noncomputable def range_spec_k : Ctx := @Classical.epsilon Ctx ctx_ne fun c => ¬ range_spec_P c
omit B F X T hk in
theorem range_spec_core : range_spec_P range_spec_k := by
  delta range_spec_P
  intro B F X T hk N hI hl hne hp hd1 hu1 hret
  refine wpAny_call ?_
  k_dflt ktr_enter
  k_steps
  (with_reducible rename News _ _ _ _ => kN)
  have e : (range_spec_k.In 0) + 1 + 1 + 1 = (range_spec_k.In 0) + 3 := by omega
  rw [e] at kN
  (with_reducible rename 0 ≤ _ ∧ _ < (5 : Int) => hb5)
  have hb := base_in hb5
  refine' hret _ _ _ _ _ _ _ _ _ ?g1 (by assumption) ?g7 ?g8 ?gN
  case gN => exact cb_drop kN (by kcj_all)
  case g7 => exact keepBut_of (by assumption) (by assumption) (by assumption) (by assumption) (by ktn_open)
  case g8 => exact fresh_of (by assumption) (by assumption) (.head _) (by repeat' (first | exact allNe_nil | (refine allNe_cons (by k_ne) ?_)))
  case g1 => omega
theorem range_spec {rope cells : Addr} {p : Int} {t1 : Tok} {k k' : Nat} {vs : List Value} {ns : List Int}
  (N : News h₀ L s.heap [(rope, W.listOf #[.ref cells, .int p t1] k), (cells, W.listOf vs.toArray k')]) (hI : IntsAre vs ns) (hl : vs.length ≤ 100) (hne : @Ne Nat cells rope) (hp : 0 ≤ p ∧ p < 400)
  (hd1 : dp + 4 < recursionLimit) (hu1 : un + 60 < cLine)
  (hret : ∀ q lo hi t t' t'' k'' h' tk', -2000000000000000 < lo ∧ lo ≤ hi ∧ hi ≤ lo + 11 ∧ hi < 2000000000000000 → Fr h₀ L h' m → KeepBut [rope] s.heap h' → Fresh s.heap q → News h₀ L h' [(q, tup [.int lo t, .int hi t']), (rope, W.listOf #[.ref cells, .int (p + 3) t''] k''), (cells, W.listOf vs.toArray k')] → Q (.ref q) { s with heap := h', toks := tk' }) :
  wpAny (model PySem.Challenge.rw_pc0044_01.row.prog w) (ktrTop dp un gd cn cs L a ccd cl0 outer) (call (.ref 460) [.ref rope]) Q E s :=
  eps_all (P := range_spec_P) (k := range_spec_k) (by with_unfolding_all rfl) range_spec_core { w := w, mean := mean, mg := mg, mb := mb, dp := dp, un := un, gd := gd, cn := cn, cs := cs, a := a, ccd := ccd, cl0 := cl0, outer := outer, A₀ := A₀, base := base, h₀ := h₀, L := L, m := m, s := s, Q := Q, E := E, Bo := pick true [], Ad := pick 0 [rope, cells], In := pick 0 [p], Tk := pick 0 [t1], Nt := pick 0 [k, k'], Ar := pick #[] [], Ob := pick (tup []) [], Kv := pick [] [], Lv := pick [] [vs], Li := pick [] [ns], Lo := pick [] [], Hp := fun _ => h₀, Mp := fun _ => m, Vl := fun _ => ccd, Ov := fun _ => none, Cl := fun _ => [] } B F X T hk N hI hl hne hp hd1 hu1 hret
theorem range_call {rope cells : Addr} {p : Int} {t1 : Tok} {k k' : Nat} {vs : List Value} {ns : List Int} {news : List (Addr × Obj)} {g : Obj → List (Addr × Obj)}
  (N : News h₀ L s.heap news) (U : UpdF rope (W.listOf #[.ref cells, .int p t1] k) news g) (hc : (cells, W.listOf vs.toArray k') ∈ news) (hI : IntsAre vs ns) (hl : vs.length ≤ 100) (hne : @Ne Nat cells rope) (hp : 0 ≤ p ∧ p < 400)
  (hd1 : dp + 4 < recursionLimit) (hu1 : un + 60 < cLine)
  (hret : ∀ q lo hi t t' t'' k'' h' tk', -2000000000000000 < lo ∧ lo ≤ hi ∧ hi ≤ lo + 11 ∧ hi < 2000000000000000 → Fr h₀ L h' m → AllNe q news → News h₀ L h' ((q, tup [.int lo t, .int hi t']) :: g (W.listOf #[.ref cells, .int (p + 3) t''] k'')) → Q (.ref q) { s with heap := h', toks := tk' }) :
  wpAny (model PySem.Challenge.rw_pc0044_01.row.prog w) (ktrTop dp un gd cn cs L a ccd cl0 outer) (call (.ref 460) [.ref rope]) Q E s :=
  range_spec B F X T hk (news_two N (upd_mem U) hc) hI hl hne hp hd1 hu1 fun q lo hi t t' t'' k'' h' tk' hv F' K' Z' M' => hret q lo hi t t' t'' k'' h' tk' hv F' (fresh_ne Z' N) (news_cons (news_1 M') (upd_news U N K' (fun p9 hp => M' p9 (by rcases List.mem_cons.mp hp with rfl | hp; exact .tail _ (.head _); cases hp))))
end
local macro_rules | `(tactic| walk_at "call ref") => `(tactic| (ktr_call 460 0; k_dflt (refine' range_call (by k_asm) (by k_asm) (by k_asm) (by k_asm) (by z_go) (by assumption) (by k_updF) (by k_mem) (by assumption) (by assumption) (by k_ne) (by omega) (by ktr_room) (by ktr_units) ?_; k_whole; intro q' lo' hi' t' t'' t''' k'' h' tk' hb' F' l1' N'; (try dsimp only at N'); (try k_sweep))))
section
def hour_spec_P (K9 : Ctx) : Prop :=
  (Below (K9.A₀) (K9.base) (K9.outer) (K9.h₀)) →
  (Fr (K9.h₀) (K9.L) (K9.s).heap (K9.m)) →
  ((kp.heap_1 (K9.w).params).In (K9.h₀)) →
  (TT (K9.mean) (K9.mg) (K9.mb) (K9.h₀)) →
  ((K9.cs).kind = .function) →
  (0 < (K9.In 1)) →
  ((K9.dp) + 2 < recursionLimit) →
  ((K9.un) + 20 < cLine) →
  (∀ t h' tk', Fr (K9.h₀) (K9.L) h' (K9.m) → InElt (K9.s).heap h' → (K9.Q) (.int (Int.tmod (K9.In 0) (K9.In 1)) t) { (K9.s) with heap := h', toks := tk' }) →
  wpAny (model PySem.Challenge.rw_pc0044_01.row.prog (K9.w)) (ktrTop (K9.dp) (K9.un) (K9.gd) (K9.cn) (K9.cs) (K9.L) (K9.a) (K9.ccd) (K9.cl0) (K9.outer)) (call (.ref 453) [.int (K9.In 0) (K9.Tk 0), .int (K9.In 1) (K9.Tk 1)]) (K9.Q) (K9.E) (K9.s)
@[irreducible] noncomputable def hour_spec_k : Ctx := @Classical.epsilon Ctx ctx_ne fun c => ¬ hour_spec_P c
omit B F X T hk in
theorem hour_spec_core : hour_spec_P hour_spec_k := by
  delta hour_spec_P
  intro B F X T hk hm hd1 hu1 hret
  have N : News (hour_spec_k.h₀) (hour_spec_k.L) (hour_spec_k.s).heap [] := News.nil
  refine wpAny_call ?_
  k_dflt ktr_enter
  k_steps
  · refine ret_int hret ?_ (by assumption) (keep_of (by assumption) (by assumption) (by assumption) (by assumption) (by kcj_all))
    rw [tmod_up (by assumption), Int.fmod_eq_emod_of_nonneg _ (Int.le_of_lt hm)]
  · refine ret_int hret ?_ (by assumption) (keep_of (by assumption) (by assumption) (by assumption) (by assumption) (by kcj_all))
    rw [tmod_down (by omega), Int.fmod_eq_emod_of_nonneg _ (Int.le_of_lt hm)]; (try rw [Int.zero_sub, Int.zero_sub])
theorem hour_spec {x many : Int} {t1 t2 : Tok} (hm : 0 < many)
  (hd1 : dp + 2 < recursionLimit) (hu1 : un + 20 < cLine)
  (hret : ∀ t h' tk', Fr h₀ L h' m → InElt s.heap h' → Q (.int (Int.tmod x many) t) { s with heap := h', toks := tk' }) :
  wpAny (model PySem.Challenge.rw_pc0044_01.row.prog w) (ktrTop dp un gd cn cs L a ccd cl0 outer) (call (.ref 453) [.int x t1, .int many t2]) Q E s :=
  eps_all (P := hour_spec_P) (k := hour_spec_k) (by with_unfolding_all rfl) hour_spec_core { w := w, mean := mean, mg := mg, mb := mb, dp := dp, un := un, gd := gd, cn := cn, cs := cs, a := a, ccd := ccd, cl0 := cl0, outer := outer, A₀ := A₀, base := base, h₀ := h₀, L := L, m := m, s := s, Q := Q, E := E, Bo := pick true [], Ad := pick 0 [], In := pick 0 [x, many], Tk := pick 0 [t1, t2], Nt := pick 0 [], Ar := pick #[] [], Ob := pick (tup []) [], Kv := pick [] [], Lv := pick [] [], Li := pick [] [], Lo := pick [] [], Hp := fun _ => h₀, Mp := fun _ => m, Vl := fun _ => ccd, Ov := fun _ => none, Cl := fun _ => [] } B F X T hk hm hd1 hu1 hret
end
local macro_rules | `(tactic| walk_at "call ref") => `(tactic| (ktr_call 453 0; k_dflt (refine' hour_spec (by k_asm) (by k_asm) (by k_asm) (by k_asm) (by z_go) (by k_data) (by ktr_room) (by ktr_units) ?_; lge_go)))
section
local macro_rules | `(tactic| walk_at "FinE") => `(tactic| ((unfold LCg.FinE); intro D' h' tk' F' N' o1'; (try simp only [LCg.Off1, and_true] at o1'); (try simp only [List.nil_append, List.cons_append] at N'); (try dsimp only)))
def right_spec_P (K9 : Ctx) : Prop :=
  (Below (K9.A₀) (K9.base) (K9.outer) (K9.h₀)) →
  (Fr (K9.h₀) (K9.L) (K9.s).heap (K9.m)) →
  ((kp.heap_1 (K9.w).params).In (K9.h₀)) →
  (TT (K9.mean) (K9.mg) (K9.mb) (K9.h₀)) →
  ((K9.cs).kind = .function) →
  (News (K9.h₀) (K9.L) (K9.s).heap [((K9.Ad 0), W.instObj 437 (K9.Ad 1)), ((K9.Ad 1), remD (K9.w) (K9.Ad 2) (K9.Tk 3) (K9.Tk 4) (K9.Tk 5) (K9.Tk 6) (K9.Tk 7) (K9.Tk 8) (K9.Tk 9)), ((K9.Ad 3), tup [.int (K9.In 0) (K9.Tk 0), .int (K9.In 1) (K9.Tk 1)])]) →
  (0 < (K9.In 2) ∧ (K9.In 2) ≤ 100000000000000000) →
  (-2000000000000000 < (K9.In 0) ∧ (K9.In 0) ≤ (K9.In 1) ∧ (K9.In 1) ≤ (K9.In 0) + 11 ∧ (K9.In 1) < 2000000000000000) →
  ((K9.dp) + 6 < recursionLimit) →
  ((K9.un) + 200 < cLine) →
  (∀ h' tk', Fr (K9.h₀) (K9.L) h' (K9.m) → InElt (K9.s).heap h' → (K9.Q) (.bool true) { (K9.s) with heap := h', toks := tk' }) →
  wpAny (model PySem.Challenge.rw_pc0044_01.row.prog (K9.w)) (ktrTop (K9.dp) (K9.un) (K9.gd) (K9.cn) (K9.cs) (K9.L) (K9.a) (K9.ccd) (K9.cl0) (K9.outer)) (call (.ref 465) [.ref (K9.Ad 0), .ref (K9.Ad 3), .int (K9.In 2) (K9.Tk 2)]) (K9.Q) (K9.E) (K9.s)
@[irreducible] noncomputable def right_spec_k : Ctx := @Classical.epsilon Ctx ctx_ne fun c => ¬ right_spec_P c
omit B F X T hk in
theorem right_spec_core : right_spec_P right_spec_k := by
  delta right_spec_P
  intro B F X T hk N hm hb hd1 hu1 hret
  refine wpAny_call ?_
  k_dflt ktr_enter
  k_steps
  refine Stop.out ?_
  refine LCg.CompSrc.range (by rfl) (by k_asm) (by k_asm) (by assumption) ?sm (rangeSize_nat _ _) ?sz ?_
  · exact small_one (by omega) (by omega) (by omega) (by omega)
  · rw [PySem.sizeLine_eq]; omega
  · intro g'
    refine rest_map_range (fun k => Int.tmod k (right_spec_k.In 2)) ?turn ?fin
    · intro k t ys J oJ C oC D m₂ h tk E' hk hC hx F' N' off ne
      have hm1 := hm.1
      k_steps
      all_goals exact EltEnd.intro (by assumption) (by assumption) (by kcj_all)
    · intro ys hys
      have hm1 := hm.1
      k_steps
      refine Stop.out ?_
      have hfar : 0 ≤ (if 13 < (right_spec_k.In 2) - 1 then 13 else (right_spec_k.In 2) - 1) ∧ (if 13 < (right_spec_k.In 2) - 1 then 13 else (right_spec_k.In 2) - 1) ≤ 13 ∧ (if 13 < (right_spec_k.In 2) - 1 then 13 else (right_spec_k.In 2) - 1) < (right_spec_k.In 2) := by split <;> omega
      refine LCt.CompSrcT.range (by rfl) (by k_asm) (by k_asm) (by assumption) ?sm2 (rangeSize_nat _ _) ?sz2 ?_
      · exact small_one (by omega) (by omega) (by omega) (by omega)
      · rw [PySem.sizeLine_eq]; omega
      · intro g''
        refine restT_filter_range (fun _ => false) (by rfl) (by rfl) (by decide) ?turn2 ?fin2
        · intro z t ys J oJ C oC D m₂ h tk E' hk hC hx F' N' off ne
          k_steps
          all_goals refine TestEnd.intro (by assumption) (by assumption) (by kcj_all) ?_
          exact rests_right hm1 (by omega) (by omega)
        · intro ys hys
          k_steps
          refine ret_bool hret ?_ (by assumption) (keep_of (by assumption) (by assumption) (by assumption) (by assumption) (by kcj_all))
          exact decide_eq_true (List.filter_eq_nil_iff.mpr fun _ _ h => Bool.noConfusion h)
theorem right_spec {one rd sc e : Addr} {lo hi many : Int} {t1 t2 t3 w1 w2 w3 w4 w5 w6 w7 : Tok}
  (N : News h₀ L s.heap [(one, W.instObj 437 rd), (rd, remD w sc w1 w2 w3 w4 w5 w6 w7), (e, tup [.int lo t1, .int hi t2])]) (hm : 0 < many ∧ many ≤ 100000000000000000) (hb : -2000000000000000 < lo ∧ lo ≤ hi ∧ hi ≤ lo + 11 ∧ hi < 2000000000000000)
  (hd1 : dp + 6 < recursionLimit) (hu1 : un + 200 < cLine)
  (hret : ∀ h' tk', Fr h₀ L h' m → InElt s.heap h' → Q (.bool true) { s with heap := h', toks := tk' }) :
  wpAny (model PySem.Challenge.rw_pc0044_01.row.prog w) (ktrTop dp un gd cn cs L a ccd cl0 outer) (call (.ref 465) [.ref one, .ref e, .int many t3]) Q E s :=
  eps_all (P := right_spec_P) (k := right_spec_k) (by with_unfolding_all rfl) right_spec_core { w := w, mean := mean, mg := mg, mb := mb, dp := dp, un := un, gd := gd, cn := cn, cs := cs, a := a, ccd := ccd, cl0 := cl0, outer := outer, A₀ := A₀, base := base, h₀ := h₀, L := L, m := m, s := s, Q := Q, E := E, Bo := pick true [], Ad := pick 0 [one, rd, sc, e], In := pick 0 [lo, hi, many], Tk := pick 0 [t1, t2, t3, w1, w2, w3, w4, w5, w6, w7], Nt := pick 0 [], Ar := pick #[] [], Ob := pick (tup []) [], Kv := pick [] [], Lv := pick [] [], Li := pick [] [], Lo := pick [] [], Hp := fun _ => h₀, Mp := fun _ => m, Vl := fun _ => ccd, Ov := fun _ => none, Cl := fun _ => [] } B F X T hk N hm hb hd1 hu1 hret
end
section
local macro_rules | `(tactic| ktr_rel) => `(tactic| (k_dflt (first
  | (refine' led_neg (by k_asm) (by k_mem) (by decide) (by omega) (by decide) (by assumption) ?_ (by with_unfolding_all rfl); k_whole)
  | (refine' led_ints (by k_asm) (by k_mem) (by assumption) (by decide) (by omega) (by decide) ?_ (by with_unfolding_all rfl); k_whole; intro u')
  | (refine' led_ints_neg (by k_asm) (by k_mem) (by assumption) (by decide) (by omega) (by decide) ?_ (by with_unfolding_all rfl); k_whole; intro u'))))
local macro_rules | `(tactic| walk_at "exec While Compare cons nil") => `(tactic| open_z)
local macro_rules | `(tactic| walk_at "CompSrc") => `(tactic| open_z)
local macro_rules | `(tactic| walk_at "CompSrcT") => `(tactic| open_z)
local macro_rules | `(tactic| walk_at "SrcLP") => `(tactic| open_z)
local macro_rules | `(tactic| walk_at "FinA") => `(tactic| (refine Stop.intro ?_))
local macro_rules | `(tactic| walk_at "call builtin:sorted") => `(tactic| open_z)
local macro_rules | `(tactic| walk_at "compareOp NotEq none ref") => `(tactic| (k_here; k_dflt (refine' ne_none_two (by k_asm) (by k_mem) (by k_mem) (by k_mem) (by ktr_units) ?_; k_whole)))
local macro_rules | `(tactic| walk_at "compareOp NotEq ref ref") => `(tactic| (k_here; k_dflt (refine' ne_two (by k_asm) (by k_mem) (by k_mem) (by k_mem) (by k_mem) (by k_mem) (by k_mem) (by ktr_units) ?_; k_whole)))
local macro_rules | `(tactic| walk_at "compareOp Eq ref ref") => `(tactic| (k_here; k_dflt (refine' eq_pairs_nil (by k_asm) (by k_mem) (by (refine PairList.mono ?_ (by assumption); intro p hp; repeat (first | exact hp | apply List.mem_cons_of_mem))) (by k_mem) (by ktr_units) ?_; k_whole)))
def stood_spec_P (K9 : Ctx) : Prop :=
  (Below (K9.A₀) (K9.base) (K9.outer) (K9.h₀)) →
  (Fr (K9.h₀) (K9.L) (K9.s).heap (K9.m)) →
  ((kp.heap_1 (K9.w).params).In (K9.h₀)) →
  (TT (K9.mean) (K9.mg) (K9.mb) (K9.h₀)) →
  ((K9.cs).kind = .function) →
  (News (K9.h₀) (K9.L) (K9.s).heap [((K9.Ad 0), tup [.int (K9.In 0) (K9.Tk 0), .int (K9.In 1) (K9.Tk 1)]), ((K9.Ad 1), tup [.int (K9.In 2) (K9.Tk 2), .int (K9.In 3) (K9.Tk 3)])]) →
  (0 < (K9.In 4)) →
  (-1000 < (K9.In 0) ∧ (K9.In 0) ≤ (K9.In 1) ∧ (K9.In 1) < 1000 ∧ (K9.In 1) ≤ (K9.In 0) + 11) →
  (-1000 < (K9.In 2) ∧ (K9.In 2) ≤ (K9.In 3) ∧ (K9.In 3) < 1000) →
  ((K9.dp) + 6 < recursionLimit) →
  ((K9.un) + 200 < cLine) →
  (∀ h' tk', (∀ k, ¬ inS (K9.In 4) (K9.In 0) (K9.In 1) (K9.In 2) (K9.In 3) k) → Fr (K9.h₀) (K9.L) h' (K9.m) → InElt (K9.s).heap h' → (K9.Q) .none { (K9.s) with heap := h', toks := tk' }) →
  (∀ a' b' c' d' q e' r' s1 s2 s3 s4 h' tk', (∀ k, inS (K9.In 4) (K9.In 0) (K9.In 1) (K9.In 2) (K9.In 3) k ↔ inS (K9.In 4) a' b' c' d' k) → Fix (K9.In 4) a' b' c' d' → Fr (K9.h₀) (K9.L) h' (K9.m) → InElt (K9.s).heap h' →
    News (K9.h₀) (K9.L) h' [(q, tup [.ref e', .ref r']), (e', tup [.int a' s1, .int b' s2]), (r', tup [.int c' s3, .int d' s4])] → (K9.Q) (.ref q) { (K9.s) with heap := h', toks := tk' }) →
  wpAny (model PySem.Challenge.rw_pc0044_01.row.prog (K9.w)) (ktrTop (K9.dp) (K9.un) (K9.gd) (K9.cn) (K9.cs) (K9.L) (K9.a) (K9.ccd) (K9.cl0) (K9.outer)) (call (.ref 470) [.ref (K9.Ad 0), .ref (K9.Ad 1), .int (K9.In 4) (K9.Tk 4)]) (K9.Q) (K9.E) (K9.s)
@[irreducible] noncomputable def stood_spec_k : Ctx := @Classical.epsilon Ctx ctx_ne fun c => ¬ stood_spec_P c
omit B F X T hk in
noncomputable def stood_spec_c : Σ' P9A : ((Heap) → (Nat) → (Addr) → (Obj) → (Obj) → (Heap) → (Addr) → (Addr) → (Obj) → (Int) → (Int) → (Int) → (Int) → (Tok) → (Tok) → (Tok) → (Tok) → (Option Value) → (Option Value) → (Option Value) → (Value) → (Heap) → (Nat) → Prop), ((∀ (dvA0 : Heap) (dvA1 : Nat) (L9 : Addr) (co9 : Obj) (cr9 : Obj) (dvA10 : Heap) (e1 : Addr) (r1 : Addr) (cr1 : Obj) (a1 : Int) (b1 : Int) (c1 : Int) (d1' : Int) (s1 : Tok) (s2 : Tok) (s3 : Tok) (s4 : Tok) (v1 : Option Value) (v2 : Option Value) (v3 : Option Value) (bv : Value) (h₂ : Heap) (tk₂ : Nat), P9A dvA0 dvA1 L9 co9 cr9 dvA10 e1 r1 cr1 a1 b1 c1 d1' s1 s2 s3 s4 v1 v2 v3 bv h₂ tk₂) → (stood_spec_P stood_spec_k)) := by
  refine' ⟨?P9A, fun G9A => ?main9⟩
  case main9 =>
    delta stood_spec_P
    intro B F X T hk N hm hab hcd hd1 hu1 hnone hret
    refine wpAny_call ?_
    k_dflt ktr_enter
    (with_reducible rename News _ _ _ _ => NW)
    refine name_place NW ?_
    intro L9 hL9'
    subst hL9'
    refine name_two NW ?_
    intro co9 cr9 hco hcr
    subst hco
    subst hcr
    have hcr9 : cr9.data = .cell (some (.ref (stood_spec_k.Ad 1))) := by assumption
    have hcm9 : co9.data = .cell (some (.int (stood_spec_k.In 4) (stood_spec_k.Tk 4))) := by assumption
    k_steps
    refine Stop.out ?_
    (with_reducible rename Fr _ _ _ _ => FW)
    refine name_frame FW ?_
    intro mb9 hmb9
    refine' While_inv2 (n₀ := (((stood_spec_k.In 1) - (stood_spec_k.In 0)) + ((stood_spec_k.In 3) - (stood_spec_k.In 2))).toNat + 1) (StoodJ L9 co9 ((stood_spec_k.Ad 0), tup [.int (stood_spec_k.In 0) (stood_spec_k.Tk 0), .int (stood_spec_k.In 1) (stood_spec_k.Tk 1)]) ((stood_spec_k.Ad 1), tup [.int (stood_spec_k.In 2) (stood_spec_k.Tk 2), .int (stood_spec_k.In 3) (stood_spec_k.Tk 3)]) (stood_spec_k.In 4) (stood_spec_k.In 0) (stood_spec_k.In 1) (stood_spec_k.In 2) (stood_spec_k.In 3) mb9) ?F ?N ?hJ ?turn ?hE
    case F => k_asm
    case N => exact news_double (by assumption)
    case hE => passes_own
    case hJ =>
      refine ⟨(stood_spec_k.Ad 0), (stood_spec_k.Ad 1), cr9, (stood_spec_k.In 0), (stood_spec_k.In 1), (stood_spec_k.In 2), (stood_spec_k.In 3), (stood_spec_k.Tk 0), (stood_spec_k.Tk 1), (stood_spec_k.Tk 2), (stood_spec_k.Tk 3), none, none, none, .none, false, [], ?_, rfl, hcr9, hab, hcd, fun _ => Iff.rfl, ?_, ?_, ?_⟩
      rotate_left
      · intro h; cases h
      · rfl
      · exact .none rfl rfl rfl
      · funext z
        by_cases h1 : z = Str.ofString "some"
        · rw [if_pos h1, h1]; rfl
        · by_cases h2 : z = Str.ofString "told"
          · rw [if_neg h1, if_pos h2, h2]; rfl
          · by_cases h3 : z = Str.ofString "able"
            · rw [if_neg h1, if_neg h2, if_pos h3, h3]; rfl
            · by_cases h4 : z = Str.ofString "hours"
              · rw [if_neg h1, if_neg h2, if_neg h3, if_pos h4, h4]; rfl
              · rw [if_neg h1, if_neg h2, if_neg h3, if_neg h4, hmb9]
    case turn =>
      subst hmb9
      clear FW
      rintro n m₁ nw h₁ tk₁ F₁ N₁ ⟨e1, r1, cr1, a1, b1, c1, d1', s1, s2, s3, s4, v1, v2, v3, bv, fx, bf, rfl, rfl, hcr1, hab1, hcd1, hS, hfx, rfl, hbv⟩
      refine test_cut ((L9 + 1 + 1, co9) :: (L9 + 1, cr1) :: (e1, tup [.int a1 s1, .int b1 s2]) :: (r1, tup [.int c1 s3, .int d1' s4]) :: ((stood_spec_k.Ad 0), tup [.int (stood_spec_k.In 0) (stood_spec_k.Tk 0), .int (stood_spec_k.In 1) (stood_spec_k.Tk 1)]) :: ((stood_spec_k.Ad 1), tup [.int (stood_spec_k.In 2) (stood_spec_k.Tk 2), .int (stood_spec_k.In 3) (stood_spec_k.Tk 3)]) :: bf) (!fx) F₁ ?test ?after
      case test =>
        rcases hbv with ⟨rfl, rfl, rfl⟩ | ⟨q, e', r', pa, pb, pc, pd, o1, o2, o3, o4, rfl, rfl, he⟩
        · k_steps
          exact TestEnd.intro (by assumption) (by assumption) (by kcj_all) rfl
        · subst he
          k_steps
          exact TestEnd.intro (by assumption) (by assumption) (by kcj_all) rfl
      case after =>
        intro h₂ tk₂ F₂ N₂
        clear F₁ N₁
        cases fx with
        | true =>
          rcases hbv with ⟨_, _, h9⟩ | ⟨q, e', r', pa, pb, pc, pd, o1, o2, o3, o4, rfl, rfl, he⟩
          · cases h9
          · obtain ⟨g1, g2, g3, g4⟩ := of_decide_eq_true he.symm
            subst g1 g2 g3 g4
            simp only [Bool.not_true, Bool.false_eq_true, if_false]
            k_steps
            refine' hret _ _ _ _ _ _ _ _ _ _ _ _ _ hS (hfx rfl) (by assumption) ?g7 ?gN
            case g7 => exact keep_of (by assumption) (by assumption) (by assumption) (by assumption) (by kcj_all)
            case gN => exact cb_drop (by assumption) (by kcj_all)
        | false =>
          have N₃ : News _ _ _ [(L9 + 1 + 1, co9), (L9 + 1, cr1), (e1, tup [.int a1 s1, .int b1 s2]), (r1, tup [.int c1 s3, .int d1' s4]), ((stood_spec_k.Ad 0), tup [.int (stood_spec_k.In 0) (stood_spec_k.Tk 0), .int (stood_spec_k.In 1) (stood_spec_k.Tk 1)]), ((stood_spec_k.Ad 1), tup [.int (stood_spec_k.In 2) (stood_spec_k.Tk 2), .int (stood_spec_k.In 3) (stood_spec_k.Tk 3)])] := news_six N₂
          clear N₂ hbv hfx
          simp only [Bool.not_false, if_true]
          rename_i dvA0 _ dvA1 fvA2 fvA3 fvA4 fvA5 fvA6 fvA7 fvA8 fvA9 dvA10 fvA11
          revert B F X T hk N hm hab hcd hd1 hu1 hnone hret fvA2 fvA3 fvA4 fvA5 fvA6 fvA7 fvA8 fvA9 hcr9 hcm9 fvA11 hcr1 hab1 hcd1 hS F₂ N₃
          exact G9A dvA0 dvA1 L9 co9 cr9 dvA10 e1 r1 cr1 a1 b1 c1 d1' s1 s2 s3 s4 v1 v2 v3 bv h₂ tk₂
def stood_spec_A_P (K8 : Ctx) : Prop := stood_spec_c.1 (K8.Hp 0) (K8.Ad 0) (K8.Ad 1) (K8.Ob 0) (K8.Ob 1) (K8.Hp 1) (K8.Ad 2) (K8.Ad 3) (K8.Ob 2) (K8.In 0) (K8.In 1) (K8.In 2) (K8.In 3) (K8.Tk 0) (K8.Tk 1) (K8.Tk 2) (K8.Tk 3) (K8.Ov 0) (K8.Ov 1) (K8.Ov 2) (K8.Vl 0) (K8.Hp 2) (K8.Ad 4)
@[irreducible] noncomputable def stood_spec_A_k : Ctx := @Classical.epsilon Ctx ctx_ne fun c => ¬ stood_spec_A_P c
omit B F X T hk in
noncomputable def stood_spec_A_c : Σ' P9B : ((Heap) → (Nat) → (Heap) → (Nat) → (Tok) → (Tok) → (Tok) → (Addr) → (Heap) → (List Value) → (List (Addr × Obj)) → (Addr) → (Heap) → (Nat) → Prop), ((∀ (dvB0 : Heap) (tk : Nat) (dvB1 : Heap) (dvB2 : Nat) (dvB3 : Tok) (dvB4 : Tok) (dvB5 : Tok) (q9 : Addr) (g' : Heap) (ys : List Value) (l : List (Addr × Obj)) (D1 : Addr) (h3 : Heap) (tk3 : Nat), P9B dvB0 tk dvB1 dvB2 dvB3 dvB4 dvB5 q9 g' ys l D1 h3 tk3) → (stood_spec_A_P stood_spec_A_k)) := by
  refine' ⟨?P9B, fun G9B => ?main9⟩
  case main9 =>
    delta stood_spec_A_P stood_spec_c
    dsimp only
    intro B F X T hk N hm hab hcd hd1 hu1 hnone hret fvA2 fvA3 fvA4 fvA5 fvA6 fvA7 fvA8 fvA9 hcr9 hcm9 fvA11 hcr1 hab1 hcd1 hS F₂ N₃
    k_steps
    (with_reducible rename News _ _ _ _ => NA)
    refine name_fst NA ?_
    intro q9 hq9
    subst hq9
    refine Stop.out ?_
    refine LCg.CompSrc.range (by rfl) (by k_asm) (by k_asm) (by assumption) ?sm (rangeSize_nat _ _) ?sz ?_
    · exact small_one (by omega) (by omega) (by omega) (by omega)
    · rw [PySem.sizeLine_eq]; omega
    · intro g'
      refine rest_pairs_range (fun k => Int.tmod k (stood_spec_k.In 4)) ?turn ?fin
      case turn =>
        intro k t ys l J oJ C oC D m₂ h tk E' hk hC hx F' N' off ne
        simp only [List.cons_append, List.nil_append] at N' off ⊢
        simp only [LCg.Off3, and_true] at off
        k_steps
        exact PairEnd.intro (by assumption) (by assumption) ⟨by k_ne, by k_ne, by k_ne⟩
      case fin =>
        intro ys l hP
        simp only [List.cons_append, List.nil_append]
        k_steps
        refine Stop.out ?_
        unfold LCg.FinA
        intro D1 h3 tk3 F3 N3 o1
        rename_i dvB0 dvB1 dvB2 dvB3 dvB4 dvB5 fvB6 fvB7 fvB8 fvB9 fvB10 fvB11
        revert B F X T hk N hm hab hcd hd1 hu1 hnone hret fvA2 fvA3 fvA4 fvA5 fvA6 fvA7 fvA8 fvA9 hcr9 hcm9 hcr1 hab1 hcd1 hS fvB6 fvB7 fvB8 fvB9 fvB10 fvB11 NA hP F3 N3 o1
        exact G9B dvB0 tk dvB1 dvB2 dvB3 dvB4 dvB5 q9 g' ys l D1 h3 tk3
def stood_spec_B_P (K8 : Ctx) : Prop := stood_spec_A_c.1 (K8.Hp 0) (K8.Ad 0) (K8.Hp 1) (K8.Ad 1) (K8.Tk 0) (K8.Tk 1) (K8.Tk 2) (K8.Ad 2) (K8.Hp 2) (K8.Lv 0) (K8.Lo 0) (K8.Ad 3) (K8.Hp 3) (K8.Ad 4)
@[irreducible] noncomputable def stood_spec_B_k : Ctx := @Classical.epsilon Ctx ctx_ne fun c => ¬ stood_spec_B_P c
omit B F X T hk in
theorem stood_spec_B_core : stood_spec_B_P stood_spec_B_k := by
  delta stood_spec_B_P stood_spec_A_c
  dsimp only
  intro B F X T hk N hm hab hcd hd1 hu1 hnone hret fvA2 fvA3 fvA4 fvA5 fvA6 fvA7 fvA8 fvA9 hcr9 hcm9 hcr1 hab1 hcd1 hS fvB6 fvB7 fvB8 fvB9 fvB10 fvB11 NA hP F3 N3 o1
  k_steps
  refine Stop.out ?_
  refine LCt.CompSrcT.ledger (by rfl) (by k_asm) (by k_asm) (by k_mem) ?sz2 ?_
  · rw [List.size_toArray, hP.length, rangeKs_length, PySem.sizeLine_eq]; omega
  · intro g2
    refine restT_pairs (f := fun k => Int.tmod k (stood_spec_k.In 4)) (fun k => decide ((stood_spec_A_k.In 2) ≤ Int.tmod k (stood_spec_k.In 4)) && decide (Int.tmod k (stood_spec_k.In 4) ≤ (stood_spec_A_k.In 3))) (PairList.mono (by intro p hp; repeat (first | exact hp | apply List.mem_cons_of_mem)) hP) rfl (.inr ⟨_, by k_mem, rfl, _, rfl⟩) (by rfl) (by rfl) (by decide) ?turn2 ?fin2
    case turn2 =>
      intro k q t t' ys2 J oJ C oC D m₂ h tk E' hm9 hC hx F' N' off ne
      have N9 := news_more N' (.tail _ (.tail _ (.tail _ hm9)))
      clear N'
      simp only [LCg.Off3, and_true] at off
      k_steps
      all_goals refine TestEnd.intro (by assumption) (by assumption) (fun p hp => .tail _ hp) ?_
      · have q8 : (stood_spec_A_k.In 2) ≤ Int.tmod k (stood_spec_k.In 4) := by assumption
        rw [decide_eq_true q8, Bool.true_and]
      · have q8 : ¬ (stood_spec_A_k.In 2) ≤ Int.tmod k (stood_spec_k.In 4) := by assumption
        rw [decide_eq_false q8, Bool.false_and]
    case fin2 =>
      intro ys2 hP2
      k_steps
      refine Stop.out ?_
      unfold LCg.FinA
      intro D2 h4 tk4 F4 N4 o2
      k_steps
      · dsimp only [WhileStep2]
        k_steps
        refine hnone _ _ (fun k hk => ?_) (by assumption) (keep_of (by assumption) (by assumption) (by assumption) (by assumption) (by kcj_all))
        have hk' := filter_inS.mpr ((hS k).mp hk)
        rw [show (rangeKs (stood_spec_A_k.In 0) ((stood_spec_A_k.In 1) + 1 - (stood_spec_A_k.In 0)).toNat).filter (fun k => decide ((stood_spec_A_k.In 2) ≤ Int.tmod k (stood_spec_k.In 4)) && decide (Int.tmod k (stood_spec_k.In 4) ≤ (stood_spec_A_k.In 3))) = [] from by assumption] at hk'
        cases hk'
      · refine Stop.out ?_
        refine LCp.SrcLP.ledger (by rfl) (by k_asm) (by k_asm) (by k_mem) ?sz3 ?_
        · rw [List.size_toArray, hP2.length, PySem.sizeLine_eq]
          refine Nat.le_trans (List.length_filter_le _ _) ?_
          rw [rangeKs_length]; omega
        · intro g3
          refine restP_seconds (f := fun k => Int.tmod k (stood_spec_k.In 4)) (PairList.mono (by intro p hp; repeat (first | exact hp | apply List.mem_cons_of_mem)) hP2) rfl (.inr ⟨_, by k_mem, rfl, _, rfl⟩) (by rfl) (by rfl) (by decide) ?_
          intro ys3 hI3
          k_steps
          refine Stop.out ?_
          have hne : (rangeKs (stood_spec_A_k.In 0) ((stood_spec_A_k.In 1) + 1 - (stood_spec_A_k.In 0)).toNat).filter (fun k => decide ((stood_spec_A_k.In 2) ≤ Int.tmod k (stood_spec_k.In 4)) && decide (Int.tmod k (stood_spec_k.In 4) ≤ (stood_spec_A_k.In 3))) ≠ [] := by assumption
          have hlen : ((rangeKs (stood_spec_A_k.In 0) ((stood_spec_A_k.In 1) + 1 - (stood_spec_A_k.In 0)).toNat).filter (fun k => decide ((stood_spec_A_k.In 2) ≤ Int.tmod k (stood_spec_k.In 4)) && decide (Int.tmod k (stood_spec_k.In 4) ≤ (stood_spec_A_k.In 3)))).length ≤ 12 := by
            refine Nat.le_trans (List.length_filter_le _ _) ?_
            rw [rangeKs_length]; omega
          have hmemS := fun k => filter_inS (many := (stood_spec_k.In 4)) (a := (stood_spec_A_k.In 0)) (b := (stood_spec_A_k.In 1)) (c := (stood_spec_A_k.In 2)) (d := (stood_spec_A_k.In 3)) (k := k)
          have hsrt : ((rangeKs (stood_spec_A_k.In 0) ((stood_spec_A_k.In 1) + 1 - (stood_spec_A_k.In 0)).toNat).filter (fun k => decide ((stood_spec_A_k.In 2) ≤ Int.tmod k (stood_spec_k.In 4)) && decide (Int.tmod k (stood_spec_k.In 4) ≤ (stood_spec_A_k.In 3)))).Pairwise (· ≤ ·) := filter_sorted
          generalize (rangeKs (stood_spec_A_k.In 0) ((stood_spec_A_k.In 1) + 1 - (stood_spec_A_k.In 0)).toNat).filter (fun k => decide ((stood_spec_A_k.In 2) ≤ Int.tmod k (stood_spec_k.In 4)) && decide (Int.tmod k (stood_spec_k.In 4) ≤ (stood_spec_A_k.In 3))) = ks at hne hlen hmemS hsrt hP2 hI3
          have hpos : 0 < ks.length := List.length_pos_iff.mpr hne
          have hl2 := hP2.length
          obtain ⟨qa, ka, ta, ta', hva, hka, hma⟩ := hP2.get (i := 0) (v := ys2[0]'(by omega)) (List.getElem?_eq_getElem _)
          obtain ⟨qb, kb, tb, tb', hvb, hkb, hmb⟩ := hP2.get (i := ys2.length - 1) (v := ys2[ys2.length - 1]'(by omega)) (List.getElem?_eq_getElem _)
          have hx0 : ys2[(0 : Int).toNat]? = some (.ref qa) := by rw [← hva]; exact List.getElem?_eq_getElem _
          have hx1 : ys2[((-1 : Int) + (ys2.length : Int)).toNat]? = some (.ref qb) := by
            have e9 : ((-1 : Int) + (ys2.length : Int)).toNat = ys2.length - 1 := by omega
            rw [e9, ← hvb]; exact List.getElem?_eq_getElem _
          (with_reducible rename News _ _ _ _ => NB)
          have hlm : (ks.map fun k => Int.tmod k (stood_spec_k.In 4)).length = ks.length := List.length_map _
          refine' kso_sorted ?k1 NB ?k3 hI3 ?k5 ?_
          case k1 => k_asm
          case k3 => exact News.isList NB (.head _)
          case k5 => omega
          intro D4 vs4 ns4 c4 h5 F5 N5 l5 hI4 hlen4 hperm4 hpw4 hfirst4
          have hlv4 := IntsAre.length hI4
          have hc2 := hfirst4 (by omega)
          have hd2 := last_of (n := vs4.length) (by omega) hperm4 hpw4 (by omega)
          have htn := stood_turn (fun k => hmemS k) (List.mem_of_getElem? hka) (sorted_first hsrt hka) (List.mem_of_getElem? hkb) (sorted_last hsrt (by rw [← hl2]; exact hkb)) hc2.1 hc2.2 hd2.1 hd2.2
          have N6 : News _ _ _ [(qa, tup [.int ka ta, .int (Int.tmod ka (stood_spec_k.In 4)) ta']), (qb, tup [.int kb tb, .int (Int.tmod kb (stood_spec_k.In 4)) tb']), (D4, W.listOf vs4.toArray c4), (D2, LCg.lst ys2), ((stood_spec_B_k.Ad 2), tup [.ref (stood_spec_A_k.Ad 2), .ref (stood_spec_A_k.Ad 3)]), ((stood_spec_A_k.Ad 1) + 1 + 1, (stood_spec_A_k.Ob 0)), ((stood_spec_A_k.Ad 1) + 1, (stood_spec_A_k.Ob 2)), ((stood_spec_A_k.Ad 2), tup [.int (stood_spec_A_k.In 0) (stood_spec_A_k.Tk 0), .int (stood_spec_A_k.In 1) (stood_spec_A_k.Tk 1)]), ((stood_spec_A_k.Ad 3), tup [.int (stood_spec_A_k.In 2) (stood_spec_A_k.Tk 2), .int (stood_spec_A_k.In 3) (stood_spec_A_k.Tk 3)]), ((stood_spec_k.Ad 0), tup [.int (stood_spec_k.In 0) (stood_spec_k.Tk 0), .int (stood_spec_k.In 1) (stood_spec_k.Tk 1)]), ((stood_spec_k.Ad 1), tup [.int (stood_spec_k.In 2) (stood_spec_k.Tk 2), .int (stood_spec_k.In 3) (stood_spec_k.Tk 3)])] := fun p hp => N5 p (by
            revert p
            refine allC (by repeat (first | exact hma | apply List.mem_cons_of_mem)) (allC (by repeat (first | exact hmb | apply List.mem_cons_of_mem)) ?_)
            repeat' (first | exact List.forall_mem_nil _ | (refine allC (by k_mem) ?_)))
          clear N5 NB hP2 hP hma hmb l5 hfirst4 hpw4 hperm4 hsrt hmemS
          have m1 := ne_cell N6 (a := qa) (b := (stood_spec_A_k.Ad 1) + 1) (by k_mem) (by k_mem) rfl hcr1
          have m2 := ne_cell N6 (a := qb) (b := (stood_spec_A_k.Ad 1) + 1) (by k_mem) (by k_mem) rfl hcr1
          have m3 := ne_cell N6 (a := D4) (b := (stood_spec_A_k.Ad 1) + 1) (by k_mem) (by k_mem) rfl hcr1
          have m4 := ne_cell N6 (a := D2) (b := (stood_spec_A_k.Ad 1) + 1) (by k_mem) (by k_mem) rfl hcr1
          have m5 := ne_cell N6 (a := (stood_spec_B_k.Ad 2)) (b := (stood_spec_A_k.Ad 1) + 1) (by k_mem) (by k_mem) rfl hcr1
          have m6 := ne_cell N6 (a := (stood_spec_A_k.Ad 2)) (b := (stood_spec_A_k.Ad 1) + 1) (by k_mem) (by k_mem) rfl hcr1
          have m7 := ne_cell N6 (a := (stood_spec_A_k.Ad 3)) (b := (stood_spec_A_k.Ad 1) + 1) (by k_mem) (by k_mem) rfl hcr1
          k_steps
          (with_reducible rename News _ _ _ _ => NE)
          refine name_end NE ?_
          intro r9 e9 w9 w9' hr9 he9 hw9 hw9'
          subst hr9 he9 hw9 hw9'
          (with_reducible rename Obj => cr2)
          refine' ⟨_, _, _, [((stood_spec_A_k.Ad 1) + 1 + 1, (stood_spec_A_k.Ob 0)), ((stood_spec_A_k.Ad 1) + 1, cr2), (e9, tup [.int ka ta, .int kb tb]), (r9, tup [.int (ns4.getD (0 : Int).toNat 0) w9, .int (ns4.getD ((-1 : Int) + (vs4.length : Int)).toNat 0) w9']), ((stood_spec_k.Ad 0), tup [.int (stood_spec_k.In 0) (stood_spec_k.Tk 0), .int (stood_spec_k.In 1) (stood_spec_k.Tk 1)]), ((stood_spec_k.Ad 1), tup [.int (stood_spec_k.In 2) (stood_spec_k.Tk 2), .int (stood_spec_k.In 3) (stood_spec_k.Tk 3)]), ((stood_spec_B_k.Ad 2), tup [.ref (stood_spec_A_k.Ad 2), .ref (stood_spec_A_k.Ad 3)]), ((stood_spec_A_k.Ad 2), tup [.int (stood_spec_A_k.In 0) (stood_spec_A_k.Tk 0), .int (stood_spec_A_k.In 1) (stood_spec_A_k.Tk 1)]), ((stood_spec_A_k.Ad 3), tup [.int (stood_spec_A_k.In 2) (stood_spec_A_k.Tk 2), .int (stood_spec_A_k.In 3) (stood_spec_A_k.Tk 3)])], ((kb - ka) + (ns4.getD ((-1 : Int) + (vs4.length : Int)).toNat 0 - ns4.getD (0 : Int).toNat 0)).toNat + (if decide ((stood_spec_A_k.In 0) = ka ∧ (stood_spec_A_k.In 1) = kb ∧ (stood_spec_A_k.In 2) = ns4.getD (0 : Int).toNat 0 ∧ (stood_spec_A_k.In 3) = ns4.getD ((-1 : Int) + (vs4.length : Int)).toNat 0) = true then 0 else 1), rfl, ?wF, ?wN, ?wl, ?wJ⟩
          case wF => assumption
          case wN => exact cb_drop NE (by kcj_all)
          case wl =>
            by_cases h9 : (stood_spec_A_k.In 0) = ka ∧ (stood_spec_A_k.In 1) = kb ∧ (stood_spec_A_k.In 2) = ns4.getD (0 : Int).toNat 0 ∧ (stood_spec_A_k.In 3) = ns4.getD ((-1 : Int) + (vs4.length : Int)).toNat 0
            · rw [decide_eq_true h9]; simp only [if_true, Bool.false_eq_true, if_false]; omega
            · rw [decide_eq_false h9]; simp only [Bool.false_eq_true, if_false]; omega
          case wJ =>
            refine' ⟨e9, r9, cr2, ka, kb, ns4.getD (0 : Int).toNat 0, ns4.getD ((-1 : Int) + (vs4.length : Int)).toNat 0, ta, tb, w9, w9', _, _, _, .ref (stood_spec_B_k.Ad 2), decide ((stood_spec_A_k.In 0) = ka ∧ (stood_spec_A_k.In 1) = kb ∧ (stood_spec_A_k.In 2) = ns4.getD (0 : Int).toNat 0 ∧ (stood_spec_A_k.In 3) = ns4.getD ((-1 : Int) + (vs4.length : Int)).toNat 0), _, ?jm, rfl, ?jc, ?jab, ?jcd, ?jS, ?jf, rfl, .some (stood_spec_B_k.Ad 2) (stood_spec_A_k.Ad 2) (stood_spec_A_k.Ad 3) (stood_spec_A_k.In 0) (stood_spec_A_k.In 1) (stood_spec_A_k.In 2) (stood_spec_A_k.In 3) (stood_spec_A_k.Tk 0) (stood_spec_A_k.Tk 1) (stood_spec_A_k.Tk 2) (stood_spec_A_k.Tk 3) rfl rfl rfl⟩
            case jm => exact frame_fold5
            case jc => assumption
            case jab => omega
            case jcd => omega
            case jS => exact fun k => (hS k).trans (htn.1 k)
            case jf => exact fun _ => htn.2.1
omit B F X T hk in
theorem stood_spec_A_core : stood_spec_A_P stood_spec_A_k :=
  stood_spec_A_c.2
    (fun dvB0 tk dvB1 dvB2 dvB3 dvB4 dvB5 q9 g' ys l D1 h3 tk3 => eps_all (P := stood_spec_B_P) (k := stood_spec_B_k) (by with_unfolding_all rfl) stood_spec_B_core { stood_spec_A_k with Hp := pick (stood_spec_A_k.Hp 0) [dvB0, dvB1, g', h3], Ad := pick (stood_spec_A_k.Ad 0) [tk, dvB2, q9, D1, tk3], Tk := pick (stood_spec_A_k.Tk 0) [dvB3, dvB4, dvB5], Lv := pick (stood_spec_A_k.Lv 0) [ys], Lo := pick (stood_spec_A_k.Lo 0) [l] })
omit B F X T hk in
theorem stood_spec_core : stood_spec_P stood_spec_k :=
  stood_spec_c.2
    (fun dvA0 dvA1 L9 co9 cr9 dvA10 e1 r1 cr1 a1 b1 c1 d1' s1 s2 s3 s4 v1 v2 v3 bv h₂ tk₂ => eps_all (P := stood_spec_A_P) (k := stood_spec_A_k) (by with_unfolding_all rfl) stood_spec_A_core { stood_spec_k with Hp := pick (stood_spec_k.Hp 0) [dvA0, dvA10, h₂], Ad := pick (stood_spec_k.Ad 0) [dvA1, L9, e1, r1, tk₂], Ob := pick (stood_spec_k.Ob 0) [co9, cr9, cr1], In := pick (stood_spec_k.In 0) [a1, b1, c1, d1'], Tk := pick (stood_spec_k.Tk 0) [s1, s2, s3, s4], Ov := pick (stood_spec_k.Ov 0) [v1, v2, v3], Vl := pick (stood_spec_k.Vl 0) [bv] })
theorem stood_spec {e r : Addr} {a0 b0 c d many : Int} {t1 t2 t3 t4 t5 : Tok}
  (N : News h₀ L s.heap [(e, tup [.int a0 t1, .int b0 t2]), (r, tup [.int c t3, .int d t4])]) (hm : 0 < many) (hab : -1000 < a0 ∧ a0 ≤ b0 ∧ b0 < 1000 ∧ b0 ≤ a0 + 11) (hcd : -1000 < c ∧ c ≤ d ∧ d < 1000)
  (hd1 : dp + 6 < recursionLimit) (hu1 : un + 200 < cLine)
  (hnone : ∀ h' tk', (∀ k, ¬ inS many a0 b0 c d k) → Fr h₀ L h' m → InElt s.heap h' → Q .none { s with heap := h', toks := tk' })
  (hret : ∀ a' b' c' d' q e' r' s1 s2 s3 s4 h' tk', (∀ k, inS many a0 b0 c d k ↔ inS many a' b' c' d' k) → Fix many a' b' c' d' → Fr h₀ L h' m → InElt s.heap h' →
    News h₀ L h' [(q, tup [.ref e', .ref r']), (e', tup [.int a' s1, .int b' s2]), (r', tup [.int c' s3, .int d' s4])] → Q (.ref q) { s with heap := h', toks := tk' }) :
  wpAny (model PySem.Challenge.rw_pc0044_01.row.prog w) (ktrTop dp un gd cn cs L a ccd cl0 outer) (call (.ref 470) [.ref e, .ref r, .int many t5]) Q E s :=
  eps_all (P := stood_spec_P) (k := stood_spec_k) (by with_unfolding_all rfl) stood_spec_core { w := w, mean := mean, mg := mg, mb := mb, dp := dp, un := un, gd := gd, cn := cn, cs := cs, a := a, ccd := ccd, cl0 := cl0, outer := outer, A₀ := A₀, base := base, h₀ := h₀, L := L, m := m, s := s, Q := Q, E := E, Bo := pick true [], Ad := pick 0 [e, r], In := pick 0 [a0, b0, c, d, many], Tk := pick 0 [t1, t2, t3, t4, t5], Nt := pick 0 [], Ar := pick #[] [], Ob := pick (tup []) [], Kv := pick [] [], Lv := pick [] [], Li := pick [] [], Lo := pick [] [], Hp := fun _ => h₀, Mp := fun _ => m, Vl := fun _ => ccd, Ov := fun _ => none, Cl := fun _ => [] } B F X T hk N hm hab hcd hd1 hu1 hnone hret
end
section
def proped_spec_P (K9 : Ctx) : Prop :=
  (Below (K9.A₀) (K9.base) (K9.outer) (K9.h₀)) →
  (Fr (K9.h₀) (K9.L) (K9.s).heap (K9.m)) →
  ((kp.heap_1 (K9.w).params).In (K9.h₀)) →
  (TT (K9.mean) (K9.mg) (K9.mb) (K9.h₀)) →
  ((K9.cs).kind = .function) →
  (News (K9.h₀) (K9.L) (K9.s).heap [((K9.Ad 0), W.listOf #[.ref (K9.Ad 1), .int (K9.In 0) (K9.Tk 0)] (K9.Nt 0)), ((K9.Ad 1), W.listOf (K9.Lv 0).toArray (K9.Nt 1))]) →
  (IntsAre (K9.Lv 0) (K9.Li 0)) →
  ((K9.Lv 0).length ≤ 100) →
  (@Ne Nat (K9.Ad 1) (K9.Ad 0)) →
  (0 ≤ (K9.In 0) ∧ (K9.In 0) < 400) →
  ((K9.dp) + 24 < recursionLimit) →
  ((K9.un) + 1100 < cLine) →
  (∀ t'' k'' h' tk', Fr (K9.h₀) (K9.L) h' (K9.m) → KeepBut [(K9.Ad 0)] (K9.s).heap h' → News (K9.h₀) (K9.L) h' [((K9.Ad 0), W.listOf #[.ref (K9.Ad 1), .int ((K9.In 0) + 6) t''] k''), ((K9.Ad 1), W.listOf (K9.Lv 0).toArray (K9.Nt 1))] → (K9.Q) (.bool true) { (K9.s) with heap := h', toks := tk' }) →
  wpAny (model PySem.Challenge.rw_pc0044_01.row.prog (K9.w)) (ktrTop (K9.dp) (K9.un) (K9.gd) (K9.cn) (K9.cs) (K9.L) (K9.a) (K9.ccd) (K9.cl0) (K9.outer)) (call (.ref 475) [.ref (K9.Ad 0)]) (K9.Q) (K9.E) (K9.s)
@[irreducible] noncomputable def proped_spec_k : Ctx := @Classical.epsilon Ctx ctx_ne fun c => ¬ proped_spec_P c
omit B F X T hk in
noncomputable def proped_spec_c : Σ' P9A : ((Heap) → (Addr) → (Obj) → (Int) → (Nat) → (Int) → (Tok) → (Nat) → (Nat) → (Addr) → (Int) → (Tok) → (Nat) → (Nat) → (Addr) → (Int) → (Tok) → (Nat) → (Nat) → (Addr) → (Int) → (Tok) → (Nat) → (Nat) → (Addr) → (Addr) → (Int) → (Tok) → (Nat) → (Tok) → (Addr) → (Heap) → (Nat) → (Nat) → (Addr) → (Nat) → (Nat) → (Nat) → (Nat) → (Nat) → (Nat) → (Tok) → (Tok) → (Tok) → (Tok) → (Tok) → (Tok) → (Tok) → (Tok) → (Tok) → (Nat) → (Nat) → (Nat) → (Nat) → (Obj) → (Heap) → (Nat) → Prop), ((∀ (dvA0 : Heap) (dvA1 : Addr) (dvA8 : Obj) (dvA10 : Int) (dvA11 : Nat) (dvA13 : Int) (dvA14 : Tok) (dvA15 : Nat) (dvA16 : Nat) (dvA18 : Addr) (dvA20 : Int) (dvA21 : Tok) (dvA22 : Nat) (dvA23 : Nat) (dvA25 : Addr) (dvA27 : Int) (dvA28 : Tok) (dvA29 : Nat) (dvA30 : Nat) (dvA32 : Addr) (dvA34 : Int) (dvA35 : Tok) (dvA36 : Nat) (dvA37 : Nat) (dvA39 : Addr) (dvA41 : Addr) (dvA43 : Int) (dvA44 : Tok) (dvA45 : Nat) (dvA47 : Tok) (dvA48 : Addr) (dvA50 : Heap) (tk : Nat) (st : Nat) (sd : Addr) (dl : Nat) (fl : Nat) (tl : Nat) (ml : Nat) (nd : Nat) (cl : Nat) (u1 : Tok) (u2 : Tok) (u3 : Tok) (u4 : Tok) (u5 : Tok) (u6 : Tok) (u7 : Tok) (u8 : Tok) (u9 : Tok) (n1 : Nat) (n2 : Nat) (n3 : Nat) (n4 : Nat) (on : Obj) (h9 : Heap) (tk9 : Nat), P9A dvA0 dvA1 dvA8 dvA10 dvA11 dvA13 dvA14 dvA15 dvA16 dvA18 dvA20 dvA21 dvA22 dvA23 dvA25 dvA27 dvA28 dvA29 dvA30 dvA32 dvA34 dvA35 dvA36 dvA37 dvA39 dvA41 dvA43 dvA44 dvA45 dvA47 dvA48 dvA50 tk st sd dl fl tl ml nd cl u1 u2 u3 u4 u5 u6 u7 u8 u9 n1 n2 n3 n4 on h9 tk9) → (proped_spec_P proped_spec_k)) := by
  refine' ⟨?P9A, fun G9A => ?main9⟩
  case main9 =>
    delta proped_spec_P
    intro B F X T hk N hI hl hne hp hd1 hu1 hret
    refine wpAny_call ?_
    k_dflt ktr_enter
    k_steps
    refine Stop.out ?_
    refine' store_new ?k1 ?k2 ?k3 ?k5 ?kK ?k4 ?kd ?ku ?rr
    case k1 => k_asm
    case k2 => k_asm
    case k3 => k_asm
    case k5 => k_asm
    case kK => first | exact rfl | assumption
    case k4 => assumption
    case kd => ktr_room
    case ku => ktr_units
    k_whole
    (with_reducible rename Fr _ _ _ _ => FW)
    (with_reducible rename News _ _ _ _ => NW)
    rintro st sd dl fl tl ml nd cl u1 u2 u3 u4 u5 u6 u7 u8 u9 n1 n2 n3 n4 on h9 tk9 F9 hlt ⟨o1, o2, o3, o4, o5, o6, o7⟩ hon hoc N9
    clear FW NW
    rename_i dvA0 dvA1 _ _ fvA2 fvA3 fvA4 fvA5 fvA6 fvA7 dvA8 fvA9 dvA10 _ _ _ _ dvA11 fvA12 dvA13 _ dvA14 dvA15 _ dvA16 fvA17 dvA18 _ fvA19 _ _ _ _ dvA20 _ dvA21 dvA22 _ dvA23 fvA24 dvA25 _ fvA26 dvA27 _ dvA28 dvA29 _ dvA30 fvA31 dvA32 _ fvA33 _ _ _ _ dvA34 _ dvA35 dvA36 _ dvA37 fvA38 dvA39 _ fvA40 dvA41 _ fvA42 dvA43 _ dvA44 dvA45 _ _ fvA46 dvA47 dvA48 _ fvA49 _ _ dvA50
    revert B F X T hk N hI hl hne hp hd1 hu1 hret fvA2 fvA3 fvA4 fvA5 fvA6 fvA7 fvA9 fvA12 fvA17 fvA19 fvA24 fvA26 fvA31 fvA33 fvA38 fvA40 fvA42 fvA46 fvA49 F9 hlt o1 o2 o3 o4 o5 o6 o7 hon hoc N9
    exact G9A dvA0 dvA1 dvA8 dvA10 dvA11 dvA13 dvA14 dvA15 dvA16 dvA18 dvA20 dvA21 dvA22 dvA23 dvA25 dvA27 dvA28 dvA29 dvA30 dvA32 dvA34 dvA35 dvA36 dvA37 dvA39 dvA41 dvA43 dvA44 dvA45 dvA47 dvA48 dvA50 tk st sd dl fl tl ml nd cl u1 u2 u3 u4 u5 u6 u7 u8 u9 n1 n2 n3 n4 on h9 tk9
def proped_spec_A_P (K8 : Ctx) : Prop := proped_spec_c.1 (K8.Hp 0) (K8.Ad 0) (K8.Ob 0) (K8.In 0) (K8.Ad 1) (K8.In 1) (K8.Tk 0) (K8.Ad 2) (K8.Ad 3) (K8.Ad 4) (K8.In 2) (K8.Tk 1) (K8.Ad 5) (K8.Ad 6) (K8.Ad 7) (K8.In 3) (K8.Tk 2) (K8.Ad 8) (K8.Ad 9) (K8.Ad 10) (K8.In 4) (K8.Tk 3) (K8.Ad 11) (K8.Ad 12) (K8.Ad 13) (K8.Ad 14) (K8.In 5) (K8.Tk 4) (K8.Ad 15) (K8.Tk 5) (K8.Ad 16) (K8.Hp 1) (K8.Ad 17) (K8.Ad 18) (K8.Ad 19) (K8.Ad 20) (K8.Ad 21) (K8.Ad 22) (K8.Ad 23) (K8.Ad 24) (K8.Ad 25) (K8.Tk 6) (K8.Tk 7) (K8.Tk 8) (K8.Tk 9) (K8.Tk 10) (K8.Tk 11) (K8.Tk 12) (K8.Tk 13) (K8.Tk 14) (K8.Ad 26) (K8.Ad 27) (K8.Ad 28) (K8.Ad 29) (K8.Ob 1) (K8.Hp 2) (K8.Ad 30)
@[irreducible] noncomputable def proped_spec_A_k : Ctx := @Classical.epsilon Ctx ctx_ne fun c => ¬ proped_spec_A_P c
omit B F X T hk in
noncomputable def proped_spec_A_c : Σ' P9B : ((Obj) → (Nat) → (Addr) → (Addr) → (Addr) → (Heap) → (Obj) → (Addr) → (Heap) → (Obj) → (Addr) → (Heap) → (Addr) → (Addr) → (Heap) → (Heap) → (Obj) → (Addr) → (Heap) → (Heap) → (Addr) → (Nat) → (Addr) → (Heap) → (Heap) → (Nat) → (Nat) → (Addr) → (Nat) → (Tok) → (Tok) → (Tok) → (Tok) → (Tok) → (Tok) → (Tok) → (Tok) → (Tok) → (Tok) → (Heap) → (Nat) → Prop), ((∀ (dvB0 : Obj) (dvB2 : Nat) (dvB3 : Addr) (dvB5 : Addr) (dvB9 : Addr) (dvB11 : Heap) (dvB13 : Obj) (dvB16 : Addr) (dvB18 : Heap) (dvB20 : Obj) (dvB23 : Addr) (dvB25 : Heap) (dvB26 : Addr) (dvB30 : Addr) (dvB31 : Heap) (dvB37 : Heap) (dvB39 : Obj) (dvB42 : Addr) (dvB43 : Heap) (dvB47 : Heap) (dvB48 : Addr) (tk : Nat) (dvB53 : Addr) (dvB54 : Heap) (dvB62 : Heap) (dvB63 : Nat) (self : Nat) (rd : Addr) (sc : Nat) (w1 : Tok) (w2 : Tok) (w3 : Tok) (w4 : Tok) (w5 : Tok) (w6 : Tok) (w7 : Tok) (v1 : Tok) (v2 : Tok) (v3 : Tok) (hA : Heap) (tkA : Nat), P9B dvB0 dvB2 dvB3 dvB5 dvB9 dvB11 dvB13 dvB16 dvB18 dvB20 dvB23 dvB25 dvB26 dvB30 dvB31 dvB37 dvB39 dvB42 dvB43 dvB47 dvB48 tk dvB53 dvB54 dvB62 dvB63 self rd sc w1 w2 w3 w4 w5 w6 w7 v1 v2 v3 hA tkA) → (proped_spec_A_P proped_spec_A_k)) := by
  refine' ⟨?P9B, fun G9B => ?main9⟩
  case main9 =>
    delta proped_spec_A_P proped_spec_c
    dsimp only
    intro B F X T hk N hI hl hne hp hd1 hu1 hret fvA2 fvA3 fvA4 fvA5 fvA6 fvA7 fvA9 fvA12 fvA17 fvA19 fvA24 fvA26 fvA31 fvA33 fvA38 fvA40 fvA42 fvA46 fvA49 F9 hlt o1 o2 o3 o4 o5 o6 o7 hon hoc N9
    have hl0 := fun z hz => Nat.lt_trans (hlt z hz) o1
    have hl1 := fun z hz => Nat.lt_trans (hl0 z hz) o2
    have hl2 := fun z hz => Nat.lt_trans (hl1 z hz) o3
    have hl3 := fun z hz => Nat.lt_trans (hl2 z hz) o4
    have hl4 := fun z hz => Nat.lt_trans (hl3 z hz) o5
    have hl5 := fun z hz => Nat.lt_trans (hl4 z hz) o6
    have hl6 := fun z hz => Nat.lt_trans (hl5 z hz) o7
    have q1 := Nat.lt_trans o3 o4
    have q2 := Nat.lt_trans q1 o5
    have q3 := Nat.lt_trans o4 o5
    have q4 := Nat.lt_trans o2 o3
    have q5 := Nat.lt_trans o5 o6
    k_steps
    refine Stop.out ?_
    refine' rem_new ?k1 ?k2 ?k3 ?k5 ?kK ?k4 ?kd ?ku ?rs
    case k4 => assumption
    case k1 => k_asm
    case k2 => k_asm
    case k3 => k_asm
    case k5 => k_asm
    case kK => first | exact rfl | assumption
    case kd => ktr_room
    case ku => ktr_units
    k_whole
    (with_reducible rename Fr _ _ _ _ => FW)
    (with_reducible rename News _ _ _ _ => NW)
    rintro self rd sc w1 w2 w3 w4 w5 w6 w7 v1 v2 v3 hA tkA FA hlR ⟨r1, r2⟩ NA
    (try simp only [List.push_toArray, List.nil_append, List.cons_append] at NA)
    clear FW NW
    rename_i dvB0 fvB1 dvB2 dvB3 _ fvB4 dvB5 _ fvB6 fvB7 fvB8 dvB9 fvB10 dvB11 _ fvB12 dvB13 fvB14 fvB15 _ _ dvB16 _ fvB17 _ _ _ dvB18 _ fvB19 dvB20 fvB21 fvB22 _ _ dvB23 _ fvB24 dvB25 dvB26 _ fvB27 fvB28 fvB29 _ _ _ _ _ _ _ dvB30 dvB31 fvB32 fvB33 fvB34 fvB35 fvB36 dvB37 _ fvB38 dvB39 fvB40 fvB41 _ _ dvB42 dvB43 fvB44 fvB45 fvB46 dvB47 dvB48 _ fvB49 fvB50 fvB51 fvB52 _ _ _ _ dvB53 dvB54 fvB55 fvB56 fvB57 fvB58 fvB59 fvB60 fvB61 dvB62 dvB63
    revert B F X T hk N hI hl hne hp hd1 hu1 hret fvA2 fvA3 fvA4 fvA5 fvA6 fvA7 fvA9 fvA12 fvA17 fvA19 fvA24 fvA26 fvA31 fvA33 fvA38 fvA40 fvA42 fvA46 fvA49 hlt o1 o2 o3 o4 o5 o6 o7 hon hoc hl0 hl1 hl2 hl3 hl4 hl5 hl6 q1 q2 q3 q4 q5 fvB1 fvB4 fvB6 fvB7 fvB8 fvB10 fvB12 fvB14 fvB15 fvB17 fvB19 fvB21 fvB22 fvB24 fvB27 fvB28 fvB29 fvB32 fvB33 fvB34 fvB35 fvB36 fvB38 fvB40 fvB41 fvB44 fvB45 fvB46 fvB49 fvB50 fvB51 fvB52 fvB55 fvB56 fvB57 fvB58 fvB59 fvB60 fvB61 FA hlR r1 r2 NA
    exact G9B dvB0 dvB2 dvB3 dvB5 dvB9 dvB11 dvB13 dvB16 dvB18 dvB20 dvB23 dvB25 dvB26 dvB30 dvB31 dvB37 dvB39 dvB42 dvB43 dvB47 dvB48 tk dvB53 dvB54 dvB62 dvB63 self rd sc w1 w2 w3 w4 w5 w6 w7 v1 v2 v3 hA tkA
def proped_spec_B_P (K8 : Ctx) : Prop := proped_spec_A_c.1 (K8.Ob 0) (K8.Ad 0) (K8.Ad 1) (K8.Ad 2) (K8.Ad 3) (K8.Hp 0) (K8.Ob 1) (K8.Ad 4) (K8.Hp 1) (K8.Ob 2) (K8.Ad 5) (K8.Hp 2) (K8.Ad 6) (K8.Ad 7) (K8.Hp 3) (K8.Hp 4) (K8.Ob 3) (K8.Ad 8) (K8.Hp 5) (K8.Hp 6) (K8.Ad 9) (K8.Ad 10) (K8.Ad 11) (K8.Hp 7) (K8.Hp 8) (K8.Ad 12) (K8.Ad 13) (K8.Ad 14) (K8.Ad 15) (K8.Tk 0) (K8.Tk 1) (K8.Tk 2) (K8.Tk 3) (K8.Tk 4) (K8.Tk 5) (K8.Tk 6) (K8.Tk 7) (K8.Tk 8) (K8.Tk 9) (K8.Hp 9) (K8.Ad 16)
@[irreducible] noncomputable def proped_spec_B_k : Ctx := @Classical.epsilon Ctx ctx_ne fun c => ¬ proped_spec_B_P c
omit B F X T hk in
noncomputable def proped_spec_B_c : Σ' P9C : ((Addr) → (Heap) → (Nat) → Prop), Σ' P9D : ((Int) → (Int) → (Int) → (Int) → (Addr) → (Addr) → (Addr) → (Addr) → (Addr) → (Addr) → (Tok) → (Tok) → (Tok) → (Tok) → (Tok) → (Tok) → (Array Value) → (Nat) → (Obj) → (Heap) → (Nat) → Prop), ((∀ (cl9 : Addr) (h9' : Heap) (tk9' : Nat), P9C cl9 h9' tk9') → ((∀ (a' : Int) (b' : Int) (c' : Int) (d' : Int) (q0 : Addr) (q1 : Addr) (q2 : Addr) (z0 : Addr) (z1 : Addr) (z2 : Addr) (s1 : Tok) (s2 : Tok) (s3 : Tok) (s4 : Tok) (s5 : Tok) (s6 : Tok) (tits' : Array Value) (ktl' : Nat) (on' : Obj) (h9' : Heap) (tk9' : Nat), P9D a' b' c' d' q0 q1 q2 z0 z1 z2 s1 s2 s3 s4 s5 s6 tits' ktl' on' h9' tk9') → (proped_spec_B_P proped_spec_B_k))) := by
  refine' ⟨?P9C, ?P9D, fun G9C G9D => ?main9⟩
  case main9 =>
    delta proped_spec_B_P proped_spec_A_c
    dsimp only
    intro B F X T hk N hI hl hne hp hd1 hu1 hret fvA2 fvA3 fvA4 fvA5 fvA6 fvA7 fvA9 fvA12 fvA17 fvA19 fvA24 fvA26 fvA31 fvA33 fvA38 fvA40 fvA42 fvA46 fvA49 hlt o1 o2 o3 o4 o5 o6 o7 hon hoc hl0 hl1 hl2 hl3 hl4 hl5 hl6 q1 q2 q3 q4 q5 fvB1 fvB4 fvB6 fvB7 fvB8 fvB10 fvB12 fvB14 fvB15 fvB17 fvB19 fvB21 fvB22 fvB24 fvB27 fvB28 fvB29 fvB32 fvB33 fvB34 fvB35 fvB36 fvB38 fvB40 fvB41 fvB44 fvB45 fvB46 fvB49 fvB50 fvB51 fvB52 fvB55 fvB56 fvB57 fvB58 fvB59 fvB60 fvB61 FA hlR r1 r2 NA
    k_steps
    refine Stop.out ?_
    (with_reducible rename 0 ≤ _ ∧ _ < (2 : Int) => b6)
    (with_reducible rename 0 ≤ _ ∧ _ < (7 : Int) => b2)
    (with_reducible rename 0 ≤ _ ∧ _ < (12 : Int) => b3)
    (with_reducible rename 0 ≤ _ ∧ _ < (6 : Int) => b5)
    (with_reducible rename 0 ≤ _ ∧ _ < (13 : Int) => b4)
    (with_reducible rename 0 ≤ _ ∧ _ < (19 : Int) => b1)
    have hsg := sign_mul b6 b2
    have hyw := sign_wide hsg b2
    (with_reducible rename News _ _ _ _ => NB)
    have e1 := Nat.lt_trans o1 o2
    have e2 := Nat.lt_trans e1 q1
    have e3 := Nat.lt_trans e2 q5
    have e4 := mem_lt (a := (proped_spec_A_k.Ad 19)) hlR (by k_mem)
    have e5 := Nat.lt_trans e4 r1
    have e6 := Nat.lt_trans e5 r2
    refine' propD_spec (B₀ := 100) ?k1 ?k2 ?k3 ?k5 ?kK ?k4 ?ho hon hoc ?hts hyw.1 hyw.2 ?hab ?hcd ?hB ?hpp ?kd ?ku ?r1 ?r2
    case k4 => exact cb_drop (by assumption) (by kcj_all)
    case k1 => k_asm
    case k2 => k_asm
    case k3 => k_asm
    case k5 => k_asm
    case kK => first | exact rfl | assumption
    case kd => ktr_room
    case ku => ktr_units
    case ho => exact ⟨o1, o2, q1, q5, mem_lt hlR (by k_mem)⟩
    case hts => exact ⟨by decide, by decide⟩
    case hab => omega
    case hcd => omega
    case hB => exact ⟨by simp only [List.size_toArray, List.length_nil]; omega, by simp only [List.length_nil]; omega, by decide⟩
    case hpp => exact ⟨by k_ne, by k_ne⟩
    case r2 =>
      k_whole
      intro cl9 h9' tk9' hS9 F9' K9' M9'
      have hge := ge_of (sd := (proped_spec_A_k.Ad 19)) K9' (by
        repeat' (first | exact List.forall_mem_nil _ | (refine allC ?_ ?_))
        all_goals first | exact Nat.le_refl _ | exact Nat.le_of_lt (by assumption) | exact Nat.le_of_lt (mem_lt (by assumption) (by k_mem)))
      have M1 := KP.news NB K9' (by repeat' (first | exact KP.nil | (refine' KP.take (off_low hge (mem_lt hlt (by k_mem))) ?_) | refine' KP.skip ?_))
      have N9' := news_app M9' M1
      simp only [List.cons_append, List.nil_append] at N9'
      clear M9' M1 NB
      clear hl0 hl1 hl2 hl3 hl4 hl5 hl6 hlt hlR q1 q2 q3 q4 q5 e1 e2 e3 e4 e5 e6
      revert B F X T hk N hI hl hne hp hd1 hu1 hret fvA2 fvA3 fvA4 fvA5 fvA6 fvA7 fvA9 b1 b2 fvA19 b3 fvA26 b4 fvA33 b5 fvA40 fvA42 b6 fvA49 o1 o2 o3 o4 o5 o6 o7 hon hoc fvB1 fvB4 fvB6 fvB7 fvB8 fvB10 fvB12 fvB14 fvB15 fvB17 fvB19 fvB21 fvB22 fvB24 fvB27 fvB28 fvB29 fvB32 fvB33 fvB34 fvB35 fvB36 fvB38 fvB40 fvB41 fvB44 fvB45 fvB46 fvB49 fvB50 fvB51 fvB52 fvB55 fvB56 fvB57 fvB58 fvB59 fvB60 fvB61 FA r1 r2 hsg hyw hS9 F9' K9' hge N9'
      exact G9C cl9 h9' tk9'
    case r1 =>
      k_whole
      intro a' b' c' d' q0 q1 q2 z0 z1 z2 s1 s2 s3 s4 s5 s6 tits' ktl' on' h9' tk9' hS9 hF9 F9' K9' M9'
      have hge := ge_of (sd := (proped_spec_A_k.Ad 19)) K9' (by
        repeat' (first | exact List.forall_mem_nil _ | (refine allC ?_ ?_))
        all_goals first | exact Nat.le_refl _ | exact Nat.le_of_lt (by assumption) | exact Nat.le_of_lt (mem_lt (by assumption) (by k_mem)))
      have M1 := KP.news NB K9' (by repeat' (first | exact KP.nil | (refine' KP.take (off_low hge (mem_lt hlt (by k_mem))) ?_) | refine' KP.skip ?_))
      have N9' := news_app M9' M1
      simp only [List.cons_append, List.nil_append] at N9'
      clear M9' M1 NB
      clear hl0 hl1 hl2 hl3 hl4 hl5 hl6 hlt hlR q3 q4 q5 e1 e2 e3 e4 e5 e6
      rename_i fvD0 fvD1
      revert B F X T hk N hI hl hne hp hd1 hu1 hret fvA2 fvA3 fvA4 fvA5 fvA6 fvA7 fvA9 b1 b2 fvA19 b3 fvA26 b4 fvA33 b5 fvA40 fvA42 b6 fvA49 o1 o2 o3 o4 o5 o6 o7 hon hoc fvD0 fvD1 fvB1 fvB4 fvB6 fvB7 fvB8 fvB10 fvB12 fvB14 fvB15 fvB17 fvB19 fvB21 fvB22 fvB24 fvB27 fvB28 fvB29 fvB32 fvB33 fvB34 fvB35 fvB36 fvB38 fvB40 fvB41 fvB44 fvB45 fvB46 fvB49 fvB50 fvB51 fvB52 fvB55 fvB56 fvB57 fvB58 fvB59 fvB60 fvB61 FA r1 r2 hsg hyw hS9 hF9 F9' K9' hge N9'
      exact G9D a' b' c' d' q0 q1 q2 z0 z1 z2 s1 s2 s3 s4 s5 s6 tits' ktl' on' h9' tk9'
def proped_spec_C_P (K8 : Ctx) : Prop := proped_spec_B_c.1 (K8.Ad 0) (K8.Hp 0) (K8.Ad 1)
@[irreducible] noncomputable def proped_spec_C_k : Ctx := @Classical.epsilon Ctx ctx_ne fun c => ¬ proped_spec_C_P c
omit B F X T hk in
theorem proped_spec_C_core : proped_spec_C_P proped_spec_C_k := by
  delta proped_spec_C_P proped_spec_B_c
  dsimp only
  intro B F X T hk N hI hl hne hp hd1 hu1 hret fvA2 fvA3 fvA4 fvA5 fvA6 fvA7 fvA9 b1 b2 fvA19 b3 fvA26 b4 fvA33 b5 fvA40 fvA42 b6 fvA49 o1 o2 o3 o4 o5 o6 o7 hon hoc fvB1 fvB4 fvB6 fvB7 fvB8 fvB10 fvB12 fvB14 fvB15 fvB17 fvB19 fvB21 fvB22 fvB24 fvB27 fvB28 fvB29 fvB32 fvB33 fvB34 fvB35 fvB36 fvB38 fvB40 fvB41 fvB44 fvB45 fvB46 fvB49 fvB50 fvB51 fvB52 fvB55 fvB56 fvB57 fvB58 fvB59 fvB60 fvB61 FA r1 r2 hsg hyw hS9 F9' K9' hge N9'
  k_steps
  refine Stop.out ?_
  refine' stood_spec ?k1 ?k2 ?k3 ?k5 ?kK ?k4 ?hm ?hab ?hcd ?kd ?ku ?gn1 ?gn2
  case k4 => exact cb_drop (by assumption) (by kcj_all)
  case k1 => k_asm
  case k2 => k_asm
  case k3 => k_asm
  case k5 => k_asm
  case kK => first | exact rfl | assumption
  case kd => ktr_room
  case ku => ktr_units
  case hm => omega
  case hab => omega
  case hcd => omega
  case gn2 => exact fun a' b' c' d' _ _ _ _ _ _ _ _ _ hS8 hF8 _ _ _ => absurd ((inS_sign hsg).mpr ((hS8 _).mpr hF8.1)) (hS9 _)
  case gn1 =>
    k_whole
    intro h8 tk8 hS8 F8 K8
    (with_reducible rename News _ _ _ _ => N8)
    replace N8 := News.grown N8 K8
    k_steps
    (with_reducible rename Fr _ _ _ _ => kF)
    (with_reducible rename News _ _ _ _ => kN)
    rw [show (proped_spec_k.In 0) + 1 + 1 + 1 + 1 + 1 + 1 = (proped_spec_k.In 0) + 6 from by omega] at kN
    exact hret _ _ _ _ kF (keepBut_of (by assumption) (by assumption) (by assumption) (by assumption) (by ktn_open)) (cb_drop kN (by kcj_all))
def proped_spec_D_P (K8 : Ctx) : Prop := proped_spec_B_c.2.1 (K8.In 0) (K8.In 1) (K8.In 2) (K8.In 3) (K8.Ad 0) (K8.Ad 1) (K8.Ad 2) (K8.Ad 3) (K8.Ad 4) (K8.Ad 5) (K8.Tk 0) (K8.Tk 1) (K8.Tk 2) (K8.Tk 3) (K8.Tk 4) (K8.Tk 5) (K8.Ar 0) (K8.Ad 6) (K8.Ob 0) (K8.Hp 0) (K8.Ad 7)
@[irreducible] noncomputable def proped_spec_D_k : Ctx := @Classical.epsilon Ctx ctx_ne fun c => ¬ proped_spec_D_P c
omit B F X T hk in
theorem proped_spec_D_core : proped_spec_D_P proped_spec_D_k := by
  delta proped_spec_D_P proped_spec_B_c
  dsimp only
  intro B F X T hk N hI hl hne hp hd1 hu1 hret fvA2 fvA3 fvA4 fvA5 fvA6 fvA7 fvA9 b1 b2 fvA19 b3 fvA26 b4 fvA33 b5 fvA40 fvA42 b6 fvA49 o1 o2 o3 o4 o5 o6 o7 hon hoc fvD0 fvD1 fvB1 fvB4 fvB6 fvB7 fvB8 fvB10 fvB12 fvB14 fvB15 fvB17 fvB19 fvB21 fvB22 fvB24 fvB27 fvB28 fvB29 fvB32 fvB33 fvB34 fvB35 fvB36 fvB38 fvB40 fvB41 fvB44 fvB45 fvB46 fvB49 fvB50 fvB51 fvB52 fvB55 fvB56 fvB57 fvB58 fvB59 fvB60 fvB61 FA r1 r2 hsg hyw hS9 hF9 F9' K9' hge N9'
  k_steps
  refine Stop.out ?_
  refine' stood_spec ?k1 ?k2 ?k3 ?k5 ?kK ?k4 ?hm ?hab ?hcd ?kd ?ku ?gn1 ?gn2
  case k4 => exact cb_drop (by assumption) (by kcj_all)
  case k1 => k_asm
  case k2 => k_asm
  case k3 => k_asm
  case k5 => k_asm
  case kK => first | exact rfl | assumption
  case kd => ktr_room
  case ku => ktr_units
  case hm => omega
  case hab => omega
  case hcd => omega
  case gn1 => exact fun _ _ hS8 _ _ => absurd ((inS_sign hsg).mp ((hS9 _).mpr hF9.1)) (hS8 _)
  case gn2 =>
    k_whole
    intro a2 b2 c2 d2 q e' r' x1 x2 x3 x4 h8 tk8 hS8 hF8 F8 K8
    (with_reducible rename News _ _ _ _ => N8)
    intro M8
    obtain ⟨rfl, rfl, rfl, rfl⟩ := fix_same (fix_sign hsg hF9) hF8 (fun n => (inS_sign hsg).symm.trans ((hS9 n).symm.trans ((inS_sign hsg).trans (hS8 n))))
    have N8' := news_app M8 (News.grown N8 K8)
    simp only [List.cons_append, List.nil_append] at N8'
    clear M8 N8
    k_steps
    refine Stop.out ?_
    refine LCg.CompSrc.range (n := 3) (by rfl) (by k_asm) (by k_asm) (by assumption) (by decide) (by decide) (by decide) ?_
    intro gX
    k_steps
    (with_reducible rename Fr _ _ _ _ => kF)
    (with_reducible rename News _ _ _ _ => kN)
    rw [show (proped_spec_k.In 0) + 1 + 1 + 1 + 1 + 1 + 1 = (proped_spec_k.In 0) + 6 from by omega] at kN
    exact hret _ _ _ _ kF (keepBut_of (by assumption) (by assumption) (by assumption) (by assumption) (by ktn_open)) (cb_drop kN (by kcj_all))
omit B F X T hk in
theorem proped_spec_B_core : proped_spec_B_P proped_spec_B_k :=
  proped_spec_B_c.2.2
    (fun cl9 h9' tk9' => eps_all (P := proped_spec_C_P) (k := proped_spec_C_k) (by with_unfolding_all rfl) proped_spec_C_core { proped_spec_B_k with Ad := pick (proped_spec_B_k.Ad 0) [cl9, tk9'], Hp := pick (proped_spec_B_k.Hp 0) [h9'] })
    (fun a' b' c' d' q0 q1 q2 z0 z1 z2 s1 s2 s3 s4 s5 s6 tits' ktl' on' h9' tk9' => eps_all (P := proped_spec_D_P) (k := proped_spec_D_k) (by with_unfolding_all rfl) proped_spec_D_core { proped_spec_B_k with In := pick (proped_spec_B_k.In 0) [a', b', c', d'], Ad := pick (proped_spec_B_k.Ad 0) [q0, q1, q2, z0, z1, z2, ktl', tk9'], Tk := pick (proped_spec_B_k.Tk 0) [s1, s2, s3, s4, s5, s6], Ar := pick (proped_spec_B_k.Ar 0) [tits'], Ob := pick (proped_spec_B_k.Ob 0) [on'], Hp := pick (proped_spec_B_k.Hp 0) [h9'] })
omit B F X T hk in
theorem proped_spec_A_core : proped_spec_A_P proped_spec_A_k :=
  proped_spec_A_c.2
    (fun dvB0 dvB2 dvB3 dvB5 dvB9 dvB11 dvB13 dvB16 dvB18 dvB20 dvB23 dvB25 dvB26 dvB30 dvB31 dvB37 dvB39 dvB42 dvB43 dvB47 dvB48 tk dvB53 dvB54 dvB62 dvB63 self rd sc w1 w2 w3 w4 w5 w6 w7 v1 v2 v3 hA tkA => eps_all (P := proped_spec_B_P) (k := proped_spec_B_k) (by with_unfolding_all rfl) proped_spec_B_core { proped_spec_A_k with Ob := pick (proped_spec_A_k.Ob 0) [dvB0, dvB13, dvB20, dvB39], Ad := pick (proped_spec_A_k.Ad 0) [dvB2, dvB3, dvB5, dvB9, dvB16, dvB23, dvB26, dvB30, dvB42, dvB48, tk, dvB53, dvB63, self, rd, sc, tkA], Hp := pick (proped_spec_A_k.Hp 0) [dvB11, dvB18, dvB25, dvB31, dvB37, dvB43, dvB47, dvB54, dvB62, hA], Tk := pick (proped_spec_A_k.Tk 0) [w1, w2, w3, w4, w5, w6, w7, v1, v2, v3] })
omit B F X T hk in
theorem proped_spec_core : proped_spec_P proped_spec_k :=
  proped_spec_c.2
    (fun dvA0 dvA1 dvA8 dvA10 dvA11 dvA13 dvA14 dvA15 dvA16 dvA18 dvA20 dvA21 dvA22 dvA23 dvA25 dvA27 dvA28 dvA29 dvA30 dvA32 dvA34 dvA35 dvA36 dvA37 dvA39 dvA41 dvA43 dvA44 dvA45 dvA47 dvA48 dvA50 tk st sd dl fl tl ml nd cl u1 u2 u3 u4 u5 u6 u7 u8 u9 n1 n2 n3 n4 on h9 tk9 => eps_all (P := proped_spec_A_P) (k := proped_spec_A_k) (by with_unfolding_all rfl) proped_spec_A_core { proped_spec_k with Hp := pick (proped_spec_k.Hp 0) [dvA0, dvA50, h9], Ad := pick (proped_spec_k.Ad 0) [dvA1, dvA11, dvA15, dvA16, dvA18, dvA22, dvA23, dvA25, dvA29, dvA30, dvA32, dvA36, dvA37, dvA39, dvA41, dvA45, dvA48, tk, st, sd, dl, fl, tl, ml, nd, cl, n1, n2, n3, n4, tk9], Ob := pick (proped_spec_k.Ob 0) [dvA8, on], In := pick (proped_spec_k.In 0) [dvA10, dvA13, dvA20, dvA27, dvA34, dvA43], Tk := pick (proped_spec_k.Tk 0) [dvA14, dvA21, dvA28, dvA35, dvA44, dvA47, u1, u2, u3, u4, u5, u6, u7, u8, u9] })
theorem proped_spec {rope cells : Addr} {p : Int} {t1 : Tok} {k k' : Nat} {vs : List Value} {ns : List Int}
  (N : News h₀ L s.heap [(rope, W.listOf #[.ref cells, .int p t1] k), (cells, W.listOf vs.toArray k')]) (hI : IntsAre vs ns) (hl : vs.length ≤ 100) (hne : @Ne Nat cells rope) (hp : 0 ≤ p ∧ p < 400)
  (hd1 : dp + 24 < recursionLimit) (hu1 : un + 1100 < cLine)
  (hret : ∀ t'' k'' h' tk', Fr h₀ L h' m → KeepBut [rope] s.heap h' → News h₀ L h' [(rope, W.listOf #[.ref cells, .int (p + 6) t''] k''), (cells, W.listOf vs.toArray k')] → Q (.bool true) { s with heap := h', toks := tk' }) :
  wpAny (model PySem.Challenge.rw_pc0044_01.row.prog w) (ktrTop dp un gd cn cs L a ccd cl0 outer) (call (.ref 475) [.ref rope]) Q E s :=
  eps_all (P := proped_spec_P) (k := proped_spec_k) (by with_unfolding_all rfl) proped_spec_core { w := w, mean := mean, mg := mg, mb := mb, dp := dp, un := un, gd := gd, cn := cn, cs := cs, a := a, ccd := ccd, cl0 := cl0, outer := outer, A₀ := A₀, base := base, h₀ := h₀, L := L, m := m, s := s, Q := Q, E := E, Bo := pick true [], Ad := pick 0 [rope, cells], In := pick 0 [p], Tk := pick 0 [t1], Nt := pick 0 [k, k'], Ar := pick #[] [], Ob := pick (tup []) [], Kv := pick [] [], Lv := pick [] [vs], Li := pick [] [ns], Lo := pick [] [], Hp := fun _ => h₀, Mp := fun _ => m, Vl := fun _ => ccd, Ov := fun _ => none, Cl := fun _ => [] } B F X T hk N hI hl hne hp hd1 hu1 hret
end
theorem fin.tw16407147864228438881 : True := trivial
theorem fin.tw9853134723201361832 : True := trivial
theorem fin.tw8185329134320300758 : True := trivial
theorem fin.tw15084109096285409865 : True := trivial
theorem fin.tw5883768629222051242 : True := trivial
theorem fin.tw10891054232620793217 : True := trivial
theorem fin.tw3047575111746466558 : True := trivial
theorem fin.tw7991221282865430420 : True := trivial
theorem fin.tw3225877530154967379 : True := trivial
theorem fin.tw8701127448935683631 : True := trivial
theorem fin.tw2573468785561726633 : True := trivial
theorem fin.tw8548596234210943161 : True := trivial
theorem fin.tw15390876026934756114 : True := trivial
theorem fin.tw16889484823980962733 : True := trivial
theorem fin.tw6303907929938155814 : True := trivial
theorem fin.tw5045657052860052415 : True := trivial
theorem fin.tw12493683874285629370 : True := trivial
theorem fin.tw12654196716992830316 : True := trivial
theorem fin.tw11112386831996348380 : True := trivial
theorem fin.tw14043955475212318790 : True := trivial
theorem fin.tw16270578389086496754 : True := trivial
theorem fin.tw12740692763255036000 : True := trivial
theorem fin.tw18105285910621931680 : True := trivial
theorem fin.tw5634151482396758240 : True := trivial
theorem fin.tw6435670951450185984 : True := trivial
theorem fin.tw4209717502836232480 : True := trivial
theorem fin.tw10599938827571368224 : True := trivial
theorem fin.tw1544503264643628384 : True := trivial
theorem fin.tw3506512066687448480 : True := trivial
theorem fin.tw3767311804947220896 : True := trivial
theorem fin.tw828056024939588000 : True := trivial
theorem fin.tw4640724917100965312 : True := trivial
theorem fin.tw14109310954907245088 : True := trivial
theorem fin.tw799341379326975648 : True := trivial
theorem fin.tw6515953530934532768 : True := trivial
theorem fin.tw8656503046869711584 : True := trivial
theorem fin.tw11298980531735778240 : True := trivial
theorem fin.tw11192643925408225281 : True := trivial
theorem fin.tw7522001649326652513 : True := trivial
theorem fin.tw11293339424137598113 : True := trivial
theorem fin.tw11575174756993882273 : True := trivial
theorem fin.tw7249652514872940865 : True := trivial
theorem fin.tw15566928917628492161 : True := trivial
theorem fin.tw15815952407149668801 : True := trivial
theorem fin.tw4443050520305737185 : True := trivial
theorem fin.tw5647864574477489665 : True := trivial
theorem fin.tw9509447333196811905 : True := trivial
theorem fin.tw11414119711712004833 : True := trivial
theorem fin.tw3794220679723124481 : True := trivial
theorem fin.tw15205425988870721313 : True := trivial
theorem fin.tw8408514402456403777 : True := trivial
theorem fin.tw18105942590061964161 : True := trivial
theorem fin.tw8119881530291889089 : True := trivial
theorem fin.tw5486226609284752418 : True := trivial
theorem fin.tw17717364068325071970 : True := trivial
theorem fin.tw9962418760945406050 : True := trivial
theorem fin.tw9357874355931990178 : True := trivial
theorem fin.tw5106123347721008290 : True := trivial
theorem fin.tw12448240930570709186 : True := trivial
theorem fin.tw8018989035897545986 : True := trivial
theorem fin.tw6815667921103612162 : True := trivial
theorem fin.tw13337293482115323266 : True := trivial
theorem fin.tw10829458402184033698 : True := trivial
theorem fin.tw10699407837109476802 : True := trivial
theorem fin.tw16503470079419688546 : True := trivial
theorem fin.tw16488607150827929282 : True := trivial
theorem fin.tw12180539936304867106 : True := trivial
theorem fin.tw18255404467826089762 : True := trivial
theorem fin.tw17311274769643918242 : True := trivial
theorem fin.tw12962497063298326498 : True := trivial
theorem fin.tw4424551920762525699 : True := trivial
theorem fin.tw18082680734076937219 : True := trivial
theorem fin.tw13574545013463194659 : True := trivial
theorem fin.tw13467322939085005891 : True := trivial
theorem fin.tw670465573061467203 : True := trivial
theorem fin.tw8590288500278120515 : True := trivial
theorem fin.tw17149882997012438147 : True := trivial
theorem fin.tw4170516301191304579 : True := trivial
theorem fin.tw9113340658982188547 : True := trivial
theorem fin.tw16115155874713506467 : True := trivial
theorem fin.tw5402249366112354979 : True := trivial
theorem fin.tw11454252539852477091 : True := trivial
theorem fin.tw15989303212955285315 : True := trivial
theorem fin.tw11147117730913898307 : True := trivial
theorem fin.tw12135189313929291683 : True := trivial
theorem fin.tw6667815254911646788 : True := trivial
theorem fin.tw8088732932480780420 : True := trivial
theorem fin.tw7786677914034681988 : True := trivial
theorem fin.tw9825859731914700964 : True := trivial
theorem fin.tw17132207802985990308 : True := trivial
theorem fin.tw14345562132136545540 : True := trivial
theorem fin.tw17662344363894024548 : True := trivial
theorem fin.tw10708223146118651492 : True := trivial
theorem fin.tw2775396313129547428 : True := trivial
theorem fin.tw3302319216010004292 : True := trivial
theorem fin.tw848606289541702500 : True := trivial
theorem fin.tw17963964198891936676 : True := trivial
theorem fin.tw9260378047223084069 : True := trivial
theorem fin.tw1560641971993327685 : True := trivial
theorem fin.tw7716820226725407877 : True := trivial
theorem fin.tw2367325634123391141 : True := trivial
theorem fin.tw7929640520542984453 : True := trivial
theorem fin.tw10818889477481085253 : True := trivial
theorem fin.tw15476544859757588837 : True := trivial
theorem fin.tw8269367382603917829 : True := trivial
theorem fin.tw612862322836996645 : True := trivial
theorem fin.tw6956187926921108005 : True := trivial
theorem fin.tw14578271805448956485 : True := trivial
theorem fin.tw6474043946942992101 : True := trivial
theorem fin.tw2305881189932309285 : True := trivial
theorem fin.tw7613945582906998725 : True := trivial
theorem fin.tw13814004702073501669 : True := trivial
theorem fin.tw11273041486466551846 : True := trivial
theorem fin.tw12833947400113492166 : True := trivial
theorem fin.tw10895054467252067526 : True := trivial
theorem fin.tw12669758225909598566 : True := trivial
theorem fin.tw1951045429614898598 : True := trivial
theorem fin.tw15523922138108190246 : True := trivial
theorem fin.tw4924110625330727750 : True := trivial
theorem fin.tw10807920368746810246 : True := trivial
theorem fin.tw15459455144867644326 : True := trivial
theorem fin.tw4171678462856256454 : True := trivial
theorem fin.tw13295704053362595847 : True := trivial
theorem fin.tw8577089030196625639 : True := trivial
theorem fin.tw8330952907988395303 : True := trivial
theorem fin.tw12118000046449163591 : True := trivial
theorem fin.tw2565351972500760935 : True := trivial
theorem fin.tw9218923581257491847 : True := trivial
theorem fin.tw17123178472405020103 : True := trivial
theorem fin.tw12409915417874342407 : True := trivial
theorem fin.tw3112429581023547943 : True := trivial
theorem fin.tw10383673109516279431 : True := trivial
theorem fin.tw2103456241558337223 : True := trivial
theorem fin.tw13360279666012451719 : True := trivial
theorem fin.tw1035503724928835527 : True := trivial
theorem fin.tw14856888987745899463 : True := trivial
theorem fin.tw1976505206021243879 : True := trivial
theorem fin.tw14279960228734115912 : True := trivial
theorem fin.tw14679806638718605512 : True := trivial
theorem fin.tw12494888245299231016 : True := trivial
theorem fin.tw2086631506510373192 : True := trivial
theorem fin.tw4040260094072895976 : True := trivial
theorem fin.tw6485783843944922600 : True := trivial
theorem fin.tw2976117146107443816 : True := trivial
theorem fin.tw14431720936831517352 : True := trivial
theorem fin.tw1625080806587739848 : True := trivial
theorem fin.tw11897717083992391400 : True := trivial
theorem fin.tw15225332579556243176 : True := trivial
theorem fin.tw8919302590299486024 : True := trivial
theorem fin.tw3974152918291533672 : True := trivial
theorem fin.tw428092273266315144 : True := trivial
theorem fin.tw3125960719983571848 : True := trivial
theorem fin.tw1105837973531982728 : True := trivial
theorem fin.tw999798209818781672 : True := trivial
theorem fin.tw1422313219903470601 : True := trivial
theorem fin.tw12946824338688289833 : True := trivial
theorem fin.tw9059937348426287209 : True := trivial
theorem fin.tw3343445320678177929 : True := trivial
theorem fin.tw15533503492667675913 : True := trivial
theorem fin.tw10671828304227620169 : True := trivial
theorem fin.tw12612204703400128841 : True := trivial
theorem fin.tw1921391257341544841 : True := trivial
theorem fin.tw16867096813858660809 : True := trivial
theorem fin.tw16656299143469825513 : True := trivial
theorem fin.tw15234240111613058569 : True := trivial
theorem fin.tw4684940682943077961 : True := trivial
theorem fin.tw9735714214384596553 : True := trivial
theorem fin.tw12868640280835112553 : True := trivial
theorem fin.tw3004984022683251337 : True := trivial
theorem fin.tw10098057777631523497 : True := trivial
theorem fin.tw17570709534508481193 : True := trivial
theorem fin.tw8352470293576582857 : True := trivial
theorem fin.tw9387745189664136937 : True := trivial
theorem fin.tw16196181902256332553 : True := trivial
theorem fin.tw3432132637015033673 : True := trivial
theorem fin.tw7830629276484211593 : True := trivial
theorem fin.tw14855157385224911753 : True := trivial
theorem fin.tw16269368082590959529 : True := trivial
theorem fin.tw11953781441336167498 : True := trivial
theorem fin.tw16906536467411238026 : True := trivial
theorem fin.tw757079261281740938 : True := trivial
theorem fin.tw884059145510264010 : True := trivial
theorem fin.tw7468727024169554154 : True := trivial
theorem fin.tw6081921254191324426 : True := trivial
theorem fin.tw8559517257967667466 : True := trivial
theorem fin.tw13898374239775968522 : True := trivial
theorem fin.tw12149302876761508202 : True := trivial
theorem fin.tw14637358334870819178 : True := trivial
theorem fin.tw4329306826757983850 : True := trivial
theorem fin.tw4868334931027891882 : True := trivial
theorem fin.tw2866121171748074186 : True := trivial
theorem fin.tw12711679700452659978 : True := trivial
theorem fin.tw14568449535678555946 : True := trivial
theorem fin.tw14139026862911339306 : True := trivial
theorem fin.tw4588413851689716618 : True := trivial
theorem fin.tw10874316729293906858 : True := trivial
theorem fin.tw14560573928864763818 : True := trivial
theorem fin.tw12284014389350100970 : True := trivial
theorem fin.tw14239432107786713131 : True := trivial
theorem fin.tw10242451874928486539 : True := trivial
theorem fin.tw13870153662132920491 : True := trivial
theorem fin.tw857469055436470443 : True := trivial
theorem fin.tw8399098705505230059 : True := trivial
theorem fin.tw373065315874586923 : True := trivial
theorem fin.tw17821466097196317003 : True := trivial
theorem fin.tw14210890002308233579 : True := trivial
theorem fin.tw2067723777617599883 : True := trivial
theorem fin.tw18164189302063226315 : True := trivial
theorem fin.tw16285329926789087883 : True := trivial
theorem fin.tw15741700470354863883 : True := trivial
theorem fin.tw5962627729488381771 : True := trivial
theorem fin.tw12809788781938459499 : True := trivial
theorem fin.tw17416127249078093707 : True := trivial
theorem fin.tw6449190631224713292 : True := trivial
theorem fin.tw8569027658895312972 : True := trivial
theorem fin.tw17347454772498655404 : True := trivial
theorem fin.tw16496857829328116044 : True := trivial
theorem fin.tw8776770756819070316 : True := trivial
theorem fin.tw6207176494656529804 : True := trivial
theorem fin.tw7028063314416541132 : True := trivial
theorem fin.tw5734618986648460908 : True := trivial
theorem fin.tw15144710454662140524 : True := trivial
theorem fin.tw10070804522480449196 : True := trivial
theorem fin.tw6846200578177281708 : True := trivial
theorem fin.tw10196768644732416780 : True := trivial
theorem fin.tw18295790063311454060 : True := trivial
theorem fin.tw12356021495744459628 : True := trivial
theorem fin.tw12629903358213643309 : True := trivial
theorem fin.tw12876116671307685997 : True := trivial
theorem fin.tw8289400949097046189 : True := trivial
theorem fin.tw16109372258727991565 : True := trivial
theorem fin.tw16530489862217454893 : True := trivial
theorem fin.tw2617349483901765261 : True := trivial
theorem fin.tw7845872953664198349 : True := trivial
theorem fin.tw1202912048536075021 : True := trivial
theorem fin.tw5011121235533021005 : True := trivial
theorem fin.tw17698704350827878285 : True := trivial
theorem fin.tw6531376189190222733 : True := trivial
theorem fin.tw3029852977388229646 : True := trivial
theorem fin.tw4950403968356008110 : True := trivial
theorem fin.tw12557769604369416430 : True := trivial
theorem fin.tw2304379251839397102 : True := trivial
theorem fin.tw9913140749668108558 : True := trivial
theorem fin.tw8288733244629462318 : True := trivial
theorem fin.tw6381419901266130222 : True := trivial
theorem fin.tw8614737586434602478 : True := trivial
theorem fin.tw1982079694162106894 : True := trivial
theorem fin.tw5071919506433949198 : True := trivial
theorem fin.tw7684487725183542926 : True := trivial
theorem fin.tw3211687289105081006 : True := trivial
theorem fin.tw17743408960866722510 : True := trivial
theorem fin.tw7675655780812522254 : True := trivial
theorem fin.tw2512408688544751470 : True := trivial
theorem fin.tw17197158672614542318 : True := trivial
theorem fin.tw14728723275428758510 : True := trivial
theorem fin.tw11154830654865731599 : True := trivial
theorem fin.tw13929302177132474383 : True := trivial
theorem fin.tw10391319463526535247 : True := trivial
theorem fin.tw1535588207084551279 : True := trivial
theorem fin.tw17495881415371897999 : True := trivial
theorem fin.tw2415902012162501839 : True := trivial
theorem fin.tw7000300075881102575 : True := trivial
theorem fin.tw15942684835789789487 : True := trivial
theorem fin.tw3268265519342814607 : True := trivial
theorem fin.tw6323506392446703087 : True := trivial
theorem fin.tw2671655128345628175 : True := trivial
theorem fin.tw13021059552284102479 : True := trivial
theorem fin.tw14786503066443513839 : True := trivial
theorem fin.tw6454446336052903152 : True := trivial
theorem fin.tw7844069586390513008 : True := trivial
theorem fin.tw13790858721211988464 : True := trivial
theorem fin.tw12996517811204074000 : True := trivial
theorem fin.tw3222278782482380304 : True := trivial
theorem fin.tw9221430085559818832 : True := trivial
theorem fin.tw982560976839675504 : True := trivial
theorem fin.tw13815853411582834384 : True := trivial
theorem fin.tw2321816554428607280 : True := trivial
theorem fin.tw500868675978126160 : True := trivial
theorem fin.tw13383306551100868464 : True := trivial
theorem fin.tw13162651487661262736 : True := trivial
theorem fin.tw16958243865122950064 : True := trivial
theorem fin.tw3885313090954376144 : True := trivial
theorem fin.tw11336253725339858928 : True := trivial
theorem fin.tw4806268862455609328 : True := trivial
theorem fin.tw1252854909445205041 : True := trivial
theorem fin.tw3173534031939492945 : True := trivial
theorem fin.tw4312942655851389009 : True := trivial
theorem fin.tw16584127079891442865 : True := trivial
theorem fin.tw2462912638960843985 : True := trivial
theorem fin.tw5098551885099359569 : True := trivial
theorem fin.tw18387650150990424433 : True := trivial
theorem fin.tw17869975865946814897 : True := trivial
theorem fin.tw480829909506669009 : True := trivial
theorem fin.tw15832999045522443761 : True := trivial
theorem fin.tw16934629359412608497 : True := trivial
theorem fin.tw11414674201277728305 : True := trivial
theorem fin.tw3404873503106905745 : True := trivial
theorem fin.tw5266742908149448401 : True := trivial
theorem fin.tw10393886385942881009 : True := trivial
theorem fin.tw14075178694198228753 : True := trivial
theorem fin.tw5320702786494000081 : True := trivial
theorem fin.tw2656788454239962097 : True := trivial
theorem fin.tw11587955951900863698 : True := trivial
theorem fin.tw9722632081671974098 : True := trivial
theorem fin.tw5679570950571409650 : True := trivial
theorem fin.tw10907391636593693970 : True := trivial
theorem fin.tw12105171945263650130 : True := trivial
theorem fin.tw1887099378405440850 : True := trivial
theorem fin.tw5073790198343104882 : True := trivial
theorem fin.tw11607805686811502034 : True := trivial
theorem fin.tw8643116662766533202 : True := trivial
theorem fin.tw3837020019201816242 : True := trivial
theorem fin.tw16798467561266328274 : True := trivial
theorem fin.tw9363291351745731410 : True := trivial
theorem fin.tw17971676594858020690 : True := trivial
theorem fin.tw6766580051018981234 : True := trivial
theorem fin.tw12718612220689870738 : True := trivial
theorem fin.tw13700621096757390547 : True := trivial
theorem fin.tw16448676403291746579 : True := trivial
theorem fin.tw5196160543931855155 : True := trivial
theorem fin.tw6766378078585498003 : True := trivial
theorem fin.tw14134379338385194387 : True := trivial
theorem fin.tw891787732878383699 : True := trivial
theorem fin.tw4768634762848416435 : True := trivial
theorem fin.tw16540275574145912595 : True := trivial
theorem fin.tw17933470926392208243 : True := trivial
theorem fin.tw3599858809825778643 : True := trivial
theorem fin.tw7830602891274557492 : True := trivial
theorem fin.tw15344004072050561172 : True := trivial
theorem fin.tw744865244796547220 : True := trivial
theorem fin.tw18373065035072037172 : True := trivial
theorem fin.tw6577878126316647860 : True := trivial
theorem fin.tw17430205856086898164 : True := trivial
theorem fin.tw12212933522069011988 : True := trivial
theorem fin.tw6567050819087999508 : True := trivial
theorem fin.tw14814673180317915700 : True := trivial
theorem fin.tw11079828417688620724 : True := trivial
theorem fin.tw10936777179133785780 : True := trivial
theorem fin.tw5227809002895711924 : True := trivial
theorem fin.tw12464766053444552404 : True := trivial
theorem fin.tw16708981103961760564 : True := trivial
theorem fin.tw9247658263007524724 : True := trivial
theorem fin.tw8472697214298850164 : True := trivial
theorem fin.tw3998398428148030388 : True := trivial
theorem fin.tw13158425560686309300 : True := trivial
theorem fin.tw7321584467024264148 : True := trivial
theorem fin.tw6718411051458867188 : True := trivial
theorem fin.tw216489041496292469 : True := trivial
theorem fin.tw11040825799340251285 : True := trivial
theorem fin.tw14517287926952318261 : True := trivial
theorem fin.tw380778119907437045 : True := trivial
theorem fin.tw2537931557510868981 : True := trivial
theorem fin.tw6878024787957991413 : True := trivial
theorem fin.tw4759752924163587094 : True := trivial
theorem fin.tw6712194924023145494 : True := trivial
theorem fin.tw7822013112032934038 : True := trivial
theorem fin.tw8896352889252549814 : True := trivial
theorem fin.tw4598667867955821814 : True := trivial
theorem fin.tw9806666330580929782 : True := trivial
theorem fin.tw17449020081951674710 : True := trivial
theorem fin.tw7439575562449295702 : True := trivial
theorem fin.tw783483362715066742 : True := trivial
theorem fin.tw333583748066197110 : True := trivial
theorem fin.tw6127190174262240918 : True := trivial
theorem fin.tw3263211703599914710 : True := trivial
theorem fin.tw3810570522144960214 : True := trivial
theorem fin.tw2910385600587045654 : True := trivial
theorem fin.tw9544026089342320630 : True := trivial
theorem fin.tw6498334528663615478 : True := trivial
theorem fin.tw1397303283331804279 : True := trivial
theorem fin.tw9297318355482256503 : True := trivial
theorem fin.tw2316539691658765527 : True := trivial
theorem fin.tw14111491100615862519 : True := trivial
theorem fin.tw3810338749695602999 : True := trivial
theorem fin.tw8668149382578428375 : True := trivial
theorem fin.tw3683778510129048087 : True := trivial
theorem fin.tw2377308710366028375 : True := trivial
theorem fin.tw12977279227502587607 : True := trivial
theorem fin.tw10751089155417173751 : True := trivial
theorem fin.tw4218790737952374519 : True := trivial
theorem fin.tw4898026214463823928 : True := trivial
theorem fin.tw17067295170570645592 : True := trivial
theorem fin.tw15590172107835277464 : True := trivial
theorem fin.tw2789213428527533208 : True := trivial
theorem fin.tw9917203430921899224 : True := trivial
theorem fin.tw13516622038369049944 : True := trivial
theorem fin.tw5250828734511838712 : True := trivial
theorem fin.tw13177410634674063896 : True := trivial
theorem fin.tw4788878847521262168 : True := trivial
theorem fin.tw17362494058136835672 : True := trivial
theorem fin.tw15621619335703214680 : True := trivial
theorem fin.tw5776136370200156792 : True := trivial
theorem fin.tw8281523328739849912 : True := trivial
theorem fin.tw17204297501091165112 : True := trivial
theorem fin.tw12932903420030652473 : True := trivial
theorem fin.tw16252508478716706905 : True := trivial
theorem fin.tw8272817396058243321 : True := trivial
theorem fin.tw17041991840579044601 : True := trivial
theorem fin.tw5805905742469029177 : True := trivial
theorem fin.tw18230178534529381785 : True := trivial
theorem fin.tw3028926083550364057 : True := trivial
theorem fin.tw17896612028031085017 : True := trivial
theorem fin.tw6400248389586479577 : True := trivial
theorem fin.tw10279692637995926009 : True := trivial
theorem fin.tw3975253019698251321 : True := trivial
theorem fin.tw5293390819737331289 : True := trivial
theorem fin.tw6455845175183424153 : True := trivial
theorem fin.tw8416529770105884409 : True := trivial
theorem fin.tw14347400895652799225 : True := trivial
theorem fin.tw17425937995043322649 : True := trivial
theorem fin.tw8999559765510592377 : True := trivial
theorem fin.tw16205109500356779066 : True := trivial
theorem fin.tw1088692219920020602 : True := trivial
theorem fin.tw2090205506522743130 : True := trivial
theorem fin.tw7803649310394182010 : True := trivial
theorem fin.tw12869217540446652890 : True := trivial
theorem fin.tw8331973007464152698 : True := trivial
theorem fin.tw12567809125941998234 : True := trivial
theorem fin.tw12876064707754696378 : True := trivial
theorem fin.tw15583698165555649274 : True := trivial
theorem fin.tw9725021084223525626 : True := trivial
theorem fin.tw6058378993454661626 : True := trivial
theorem fin.tw16103849850496634939 : True := trivial
theorem fin.tw12141802397888321627 : True := trivial
theorem fin.tw5796354222422608987 : True := trivial
theorem fin.tw1666694428299288667 : True := trivial
theorem fin.tw6341822008880759003 : True := trivial
theorem fin.tw4570111826955561243 : True := trivial
theorem fin.tw807531904560671035 : True := trivial
theorem fin.tw15564276425815640635 : True := trivial
theorem fin.tw9839346839192117915 : True := trivial
theorem fin.tw9445451236469955387 : True := trivial
theorem fin.tw1713156846745171867 : True := trivial
theorem fin.tw8947099994592609211 : True := trivial
theorem fin.tw5555312102172926907 : True := trivial
theorem fin.tw10875463905939285979 : True := trivial
theorem fin.tw111200028466390044 : True := trivial
theorem fin.tw14254621764821748828 : True := trivial
theorem fin.tw2503846163805864124 : True := trivial
theorem fin.tw7278507554335971580 : True := trivial
theorem fin.tw3812028171767442716 : True := trivial
theorem fin.tw8261031787919469916 : True := trivial
theorem fin.tw15309079848183770524 : True := trivial
theorem fin.tw3955986520655104412 : True := trivial
theorem fin.tw7779959011674639804 : True := trivial
theorem fin.tw7177338460636591580 : True := trivial
theorem fin.tw7976502392129159676 : True := trivial
theorem fin.tw6289197191216398940 : True := trivial
theorem fin.tw17861066769153400444 : True := trivial
theorem fin.tw16237762584071213788 : True := trivial
theorem fin.tw9746901515087519452 : True := trivial
theorem fin.tw10782327089294195420 : True := trivial
theorem fin.tw6232080684201472732 : True := trivial
theorem fin.tw16256441300576474876 : True := trivial
theorem fin.tw5901363791540438844 : True := trivial
theorem fin.tw12291753297600562012 : True := trivial
theorem fin.tw251868834278440796 : True := trivial
theorem fin.tw12355744275394475900 : True := trivial
theorem fin.tw11936995450923721628 : True := trivial
theorem fin.tw6650461044873433052 : True := trivial
theorem fin.tw14333544728242365436 : True := trivial
theorem fin.tw11615019562542576733 : True := trivial
theorem fin.tw14793013804824869981 : True := trivial
theorem fin.tw544173102793226557 : True := trivial
theorem fin.tw6144012678527597917 : True := trivial
theorem fin.tw3456623496861543869 : True := trivial
theorem fin.tw1012361349325877821 : True := trivial
theorem fin.tw11061592194353771069 : True := trivial
theorem fin.tw5115476493328737885 : True := trivial
theorem fin.tw895571856199123645 : True := trivial
theorem fin.tw4013537778516871869 : True := trivial
theorem fin.tw8126443298418566877 : True := trivial
theorem fin.tw17260493314774615805 : True := trivial
theorem fin.tw6068950659093879613 : True := trivial
theorem fin.tw7995362448368537469 : True := trivial
theorem fin.tw4719063310657182621 : True := trivial
theorem fin.tw7451905468542833597 : True := trivial
theorem fin.tw3105451386036433885 : True := trivial
theorem fin.tw9610726530385051774 : True := trivial
theorem fin.tw15373703851562958014 : True := trivial
theorem fin.tw1819255440876223710 : True := trivial
theorem fin.tw14245171486683049214 : True := trivial
theorem fin.tw7773504467932542270 : True := trivial
theorem fin.tw13326868189938593150 : True := trivial
theorem fin.tw12221555665107904926 : True := trivial
theorem fin.tw6968583824967984638 : True := trivial
theorem fin.tw6385529401280152062 : True := trivial
theorem fin.tw4326780796455107134 : True := trivial
theorem fin.tw2051409578822353534 : True := trivial
theorem fin.tw17570509445847580414 : True := trivial
theorem fin.tw3857263333814641470 : True := trivial
theorem fin.tw846297522682114974 : True := trivial
theorem fin.tw7470013935711676318 : True := trivial
theorem fin.tw1014637456484912126 : True := trivial
theorem fin.tw11227884535216515135 : True := trivial
theorem fin.tw4180101509539245183 : True := trivial
theorem fin.tw12237877928780879103 : True := trivial
theorem fin.tw17628183408451194143 : True := trivial
theorem fin.tw6707113841082798463 : True := trivial
theorem fin.tw17784850919643140607 : True := trivial
theorem fin.tw14541005305830221311 : True := trivial
theorem fin.tw16175276709679454751 : True := trivial
theorem fin.tw2236755162388048479 : True := trivial
theorem fin.tw4265850918314828415 : True := trivial
theorem fin.tw12829507556594621215 : True := trivial
theorem fin.tw14497727239971306367 : True := trivial
theorem fin.tw16510490156224867327 : True := trivial
local macro_rules | `(tactic| walk_at "RangeRest") => `(tactic| (refine Stop.intro ?_))
local macro_rules | `(tactic| walk_at "binaryOp Pow int int") => `(tactic| (k_here; (with_reducible refine pow_int_small ?kb1 ?kb2 ?kb3 ?_); (case kb1 => decide); (case kb2 => decide); (case kb3 => decide)))
local macro_rules | `(tactic| walk_at "UnrEnd") => `(tactic| (refine Stop.intro ?_))
set_option Elab.async true in
omit B F X T hk in
theorem fin : PySem.Challenge.rw_pc0044_01.Holds := by
  w_on
  o_law
  o_head (kHook kp.heap_1 [nat_lit 2, nat_lit 3, nat_lit 15, nat_lit 17, nat_lit 18, nat_lit 20, nat_lit 21, nat_lit 22, nat_lit 24, nat_lit 25, nat_lit 27, nat_lit 28, nat_lit 29, nat_lit 31, nat_lit 32, nat_lit 34, nat_lit 35, nat_lit 36, nat_lit 38, nat_lit 39, nat_lit 41, nat_lit 42, nat_lit 43, nat_lit 45, nat_lit 46, nat_lit 48, nat_lit 49, nat_lit 50, nat_lit 53, nat_lit 54, nat_lit 55, nat_lit 58, nat_lit 59, nat_lit 60, nat_lit 62, nat_lit 63, nat_lit 65, nat_lit 66, nat_lit 67, nat_lit 69, nat_lit 70, nat_lit 72, nat_lit 73, nat_lit 74, nat_lit 76, nat_lit 77, nat_lit 79, nat_lit 80, nat_lit 81, nat_lit 83, nat_lit 84, nat_lit 86, nat_lit 87, nat_lit 88, nat_lit 90, nat_lit 91, nat_lit 93, nat_lit 94, nat_lit 102, nat_lit 104, nat_lit 105, nat_lit 107, nat_lit 108, nat_lit 109, nat_lit 111, nat_lit 112, nat_lit 114, nat_lit 115, nat_lit 116, nat_lit 118, nat_lit 119, nat_lit 121, nat_lit 122, nat_lit 123, nat_lit 125, nat_lit 126, nat_lit 128, nat_lit 129, nat_lit 130, nat_lit 132, nat_lit 133, nat_lit 135, nat_lit 136, nat_lit 137, nat_lit 139, nat_lit 140, nat_lit 142, nat_lit 143, nat_lit 144, nat_lit 146, nat_lit 147, nat_lit 149, nat_lit 150, nat_lit 151, nat_lit 153, nat_lit 154, nat_lit 156, nat_lit 157, nat_lit 158, nat_lit 160, nat_lit 161, nat_lit 163, nat_lit 164, nat_lit 165, nat_lit 167, nat_lit 168, nat_lit 170, nat_lit 171, nat_lit 172, nat_lit 174, nat_lit 175, nat_lit 177, nat_lit 178, nat_lit 179, nat_lit 181, nat_lit 182, nat_lit 184, nat_lit 185, nat_lit 186, nat_lit 188, nat_lit 189, nat_lit 191, nat_lit 192, nat_lit 193, nat_lit 195, nat_lit 196, nat_lit 198, nat_lit 199, nat_lit 200, nat_lit 202, nat_lit 203, nat_lit 205, nat_lit 206, nat_lit 207, nat_lit 209, nat_lit 210, nat_lit 212, nat_lit 213, nat_lit 214, nat_lit 216, nat_lit 217, nat_lit 219, nat_lit 220, nat_lit 221, nat_lit 223, nat_lit 224, nat_lit 226, nat_lit 227, nat_lit 228, nat_lit 230, nat_lit 231, nat_lit 233, nat_lit 234, nat_lit 235, nat_lit 237, nat_lit 238, nat_lit 240, nat_lit 241, nat_lit 242, nat_lit 243, nat_lit 244, nat_lit 245, nat_lit 246, nat_lit 256, nat_lit 258, nat_lit 259, nat_lit 261, nat_lit 262, nat_lit 263, nat_lit 265, nat_lit 266, nat_lit 268, nat_lit 269, nat_lit 270, nat_lit 272, nat_lit 273, nat_lit 275, nat_lit 276, nat_lit 277, nat_lit 279, nat_lit 280, nat_lit 282, nat_lit 283, nat_lit 284, nat_lit 285, nat_lit 286, nat_lit 287, nat_lit 288, nat_lit 291, nat_lit 293, nat_lit 294, nat_lit 296, nat_lit 297, nat_lit 298, nat_lit 300, nat_lit 301, nat_lit 303, nat_lit 304, nat_lit 305, nat_lit 308, nat_lit 313, nat_lit 314, nat_lit 316, nat_lit 317, nat_lit 319, nat_lit 320, nat_lit 321, nat_lit 323, nat_lit 324, nat_lit 326, nat_lit 327, nat_lit 328, nat_lit 330, nat_lit 331, nat_lit 333, nat_lit 334, nat_lit 335, nat_lit 337, nat_lit 338, nat_lit 340, nat_lit 341, nat_lit 342, nat_lit 344, nat_lit 345, nat_lit 347, nat_lit 348, nat_lit 349, nat_lit 352, nat_lit 353, nat_lit 354, nat_lit 357, nat_lit 358, nat_lit 359, nat_lit 362, nat_lit 363, nat_lit 364, nat_lit 365, nat_lit 366, nat_lit 369, nat_lit 376, nat_lit 379, nat_lit 380, nat_lit 381, nat_lit 383, nat_lit 384, nat_lit 386, nat_lit 387, nat_lit 388, nat_lit 389, nat_lit 390, nat_lit 393, nat_lit 396, nat_lit 401, nat_lit 402, nat_lit 404, nat_lit 405, nat_lit 407, nat_lit 408, nat_lit 409, nat_lit 411, nat_lit 412, nat_lit 414, nat_lit 415, nat_lit 416, nat_lit 419, nat_lit 420, nat_lit 421, nat_lit 423, nat_lit 424, nat_lit 426, nat_lit 427, nat_lit 428, nat_lit 430, nat_lit 431, nat_lit 433, nat_lit 434, nat_lit 435, nat_lit 436, nat_lit 437, nat_lit 440, nat_lit 442, nat_lit 443, nat_lit 445, nat_lit 446, nat_lit 447, nat_lit 449, nat_lit 450, nat_lit 452, nat_lit 453, nat_lit 454, nat_lit 456, nat_lit 457, nat_lit 459, nat_lit 460, nat_lit 461, nat_lit 464, nat_lit 465, nat_lit 466, nat_lit 469, nat_lit 470, nat_lit 471, nat_lit 474, nat_lit 475, nat_lit 476, nat_lit 479, nat_lit 480] (fun _ => by kernel_rfl))
  case hw => w_witness2
  k_go0
  all_goals (try k_fold)
  k_steps
  refine Stop.out ?_
  refine LCg.CompSrc.ledger (by rfl) (by k_asm) (by k_asm) (by k_mem) ?sz ?_
  · (with_reducible rename IntsAre _ (List.take 40 _) => hx)
    have h1 := hx.length
    rw [List.length_take] at h1
    rw [List.size_toArray, PySem.sizeLine_eq]
    omega
  · intro g'
    refine rest_map_ints (fun k => Int.fmod k 1000003) (by assumption) (.inr ⟨_, .head _, rfl, _, rfl⟩) ?turn ?fin
    · intro k t ys J oJ C oC D m₂ h tk E' hC hx F' N' off ne
      k_steps
      all_goals exact EltEnd.intro (by assumption) (by assumption) (by kcj_all)
    · intro ys hys
      have hl : ys.length ≤ 100 := by
        have h1 := hys.length
        rw [List.length_map, List.length_take] at h1
        omega
      k_steps
      refine Stop.out ?_
      refine' rem_new ?k1 ?k2 ?k3 ?k5 ?kK ?k4 ?kd ?ku ?rs
      case k4 => assumption
      case k1 => k_asm
      case k2 => k_asm
      case k3 => k_asm
      case k5 => k_asm
      case kK => first | exact rfl | assumption
      case kd => ktr_room
      case ku => ktr_units
      k_whole
      rintro self rd sc w1 w2 w3 w4 w5 w6 w7 v1 v2 v3 hA tkA FA hlR ⟨r1, r2⟩ NA
      (try simp only [List.push_toArray, List.nil_append, List.cons_append] at NA)
      k_steps
      refine Stop.out ?_
      (with_reducible rename ∀ _ ∈ _, _ < _ => lI)
      (with_reducible rename News _ _ _ _ => NW)
      (with_reducible rename World => w9)
      with_reducible refine law_names NW ?_
      intro rope cells hr9 hc9
      subst hr9 hc9
      have hcr : @Ne Nat cells rope := by k_ne
      with_reducible refine rangeRest_map ?_
      intro mb8 hmb8
      with_reducible refine rangeRest_sub (nw' := [(self, W.instObj 437 rd), (rd, remD w9 sc w1 w2 w3 w4 w5 w6 w7), (sc, tup [.int 0 v1, .int 1 v2, .int 2 v3]), (rope, W.listOf #[.ref cells, .int 0 _] 0), (cells, W.listOf ys.toArray ys.length)]) (by kcj_all) ?_
      with_reducible refine' rangeRest_inv (LawJ w9 self rd sc rope cells w1 w2 w3 w4 w5 w6 w7 v1 v2 v3 ys ys.length mb8) ?step ?done 4 0 _ _ ?e9 ?hJ
      case e9 => exact rfl
      case hJ =>
        refine ⟨0, _, _, _, _, frame_in2, rfl, Int.le_refl _, Int.le_refl _⟩
      case done =>
        cases hmb8
        rintro m₁ nw h tk ⟨p9, t9, k9, a9, b9, rfl, rfl, hp0, hp1⟩ Fz Nz
        have hpz : p9 ≤ 16 := hp1
        k_steps
        refine Stop.out ?_
        refine' proped_spec (vs := ys) (ns := _) ?k1a ?k2a ?k3a ?k5a ?kKa ?k4a hys hl ?kna ?kpa ?kda ?kua ?rsa
        case k4a => exact cb_drop (by assumption) (by kcj_all)
        case k1a => k_asm
        case k2a => k_asm
        case k3a => k_asm
        case k5a => k_asm
        case kKa => first | exact rfl | assumption
        case kna => assumption
        case kpa => omega
        case kda => ktr_room
        case kua => ktr_units
        k_whole
        intro tX kX hX tkX FX KX NX
        clear Nz KX
        k_steps
        refine Stop.out ?_
        refine' proped_spec (vs := ys) (ns := _) ?k1b ?k2b ?k3b ?k5b ?kKb ?k4b hys hl ?knb ?kpb ?kdb ?kub ?rsb
        case k4b => exact cb_drop (by assumption) (by kcj_all)
        case k1b => k_asm
        case k2b => k_asm
        case k3b => k_asm
        case k5b => k_asm
        case kKb => first | exact rfl | assumption
        case knb => assumption
        case kpb => omega
        case kdb => ktr_room
        case kub => ktr_units
        k_whole
        intro tY kY hY tkY FY KY NY
        k_steps
      case step =>
        cases hmb8
        rintro i m₁ nw hi ⟨p9, t9, k9, a9, b9, rfl, rfl, hp0, hp1⟩ ti h tk Fz Nz
        k_steps
        refine Stop.out ?_
        (with_reducible rename 0 ≤ _ ∧ _ < (11 : Int) => b11)
        have hmn := menu_in b11
        refine' right_spec ?k1c ?k2c ?k3c ?k5c ?kKc ?k4c hmn ?khc ?kdc ?kuc ?rsc
        case k4c => exact cb_drop (by assumption) (by kcj_all)
        case k1c => k_asm
        case k2c => k_asm
        case k3c => k_asm
        case k5c => k_asm
        case kKc => first | exact rfl | assumption
        case khc => assumption
        case kdc => ktr_room
        case kuc => ktr_units
        k_whole
        intro hR tkR FR KR
        (with_reducible rename News _ _ _ _ => NR)
        replace NR := News.grown NR KR
        k_steps
        refine Stop.out ?_
        refine' UnrEnd.intro FR NR [(self, W.instObj 437 rd), (rd, remD w9 sc w1 w2 w3 w4 w5 w6 w7), (sc, tup [.int 0 v1, .int 1 v2, .int 2 v3]), (rope, W.listOf #[.ref cells, .int (p9 + 1 + 3) ?tz] ?kz), (cells, W.listOf ys.toArray ys.length)] ?subz ?offz ?rz
        case subz => kcj_all
        case rz => exact ⟨_, _, _, _, _, frame_back2, rfl, by omega, by omega⟩
        case offz => repeat' (first | exact List.forall_mem_nil _ | (refine allC (mem_ne lI (by k_mem)) ?_))
end
end Mine
theorem PySem.Challenge.cw_pc0044_01_holds : PySem.Challenge.rw_pc0044_01.Holds :=
  Mine.fin
