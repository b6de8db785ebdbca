import PyProof.Rows.All
import Wide.All
import OpenK.AllK
import Wide.FinOn
import PySem.Challenge.RW_meetsets_k17_whole_all_full
import HandS.Comp
import HandS.List
import HandS.Words
import KE.SortData
import HandS.TupAny
import HandS.TupLe
import HandS.Deep
import HandS.SetFor
import KE.KDictKeyed
import KE.KDictSum
import HandS.TupSets
import HandS.Dict
import HandS.HotCalls
import HandS.Zip
import HandS.ExcInit
import HandS.ExcIs
import HandS.IsInst
import HandS.ExcInitHot
import HandS.ExcField
import HandS.WordsExc
import KE.KExcIs
import HandS.ForMost
import HandS.Wide
import PyProof.TupleOfSeq
set_option Elab.async false
set_option linter.all false
set_option maxRecDepth 100000
/-! The mirror of the program in plain Lean, and the finite checks. -/
namespace Ms
abbrev S := List Int
abbrev F := List S
def lexB {α : Type} [DecidableEq α] (lt : α → α → Bool) : List α → List α → Bool
  | [], [] => false
  | [], _ :: _ => true
  | _ :: _, [] => false
  | x :: xs, y :: ys => if x = y then lexB lt xs ys else lt x y
def ltI (a b : Int) : Bool := decide (a < b)
def ltS : S → S → Bool := lexB ltI
def ltF : F → F → Bool := lexB ltS
def ins {α : Type} (lt : α → α → Bool) (x : α) : List α → List α
  | [] => [x]
  | y :: ys => if lt y x = true then y :: ins lt x ys else x :: y :: ys
def isort {α : Type} (lt : α → α → Bool) : List α → List α
  | [] => []
  | x :: xs => ins lt x (isort lt xs)
def inI (x : Int) (s : S) : Bool := s.any fun y => decide (y = x)
def sharePt (a b : S) : Bool := a.any fun p => inI p b
def grow : Nat → F
  | 0 => [[]]
  | n + 1 => grow n ++ (grow n).map fun s => s ++ [(n : Int)]
def setsBelow (n : Nat) : F := isort ltS (grow n)
def pts (n : Nat) : S := (List.range n).map fun (i : Nat) => (i : Int)
def otherPts (n : Nat) (one : S) : S := (pts n).filter fun p => !inI p one
def meetsAll (fam : F) (one : S) : Bool := if one = [] then false else fam.all fun o => sharePt one o
def step (n : Nat) (found : List F) (one : S) : List F :=
  if inI 0 one = true then found else found.flatMap fun some => (([one, otherPts n one].filter fun two => meetsAll some two).map fun two => some ++ [two])
def allChoices (n : Nat) : List F := (setsBelow n).foldl (step n) [[]]
def inOrder (f : F) : F := isort ltS f
def allFull (n : Nat) : List F := isort ltF ((allChoices n).map inOrder)
/- the law -/
def shareL (a b : S) : Bool := decide (((a.filter fun p => inI p b).length : Int) > 0)
def meetsL (f : F) : Bool := f.all fun a => f.all fun b => shareL a b
def stepW (n : Nat) (found : List F) (one : S) : List F :=
  if inI 0 one = true then (found.map fun s => s ++ [one]) ++ (found.map fun s => s ++ [otherPts n one]) else found
def ways (n : Nat) : List F := isort ltF ((((setsBelow n).foldl (stepW n) [[]]).filter meetsL).map inOrder)
def inF (s : S) (f : F) : Bool := f.any fun t => decide (t = s)
def oneEach (n : Nat) (f : F) : Bool := decide ((((setsBelow n).filter fun s => inF s f == inF (otherPts n s) f).length : Int) = 0)
def many (n : Nat) : Nat := [1, 2, 4, 12, 81].getD (n - 1) 0
/- what is decided -/
def okFam (f : F) : Bool := decide f.Nodup && f.all (fun s => !(s.isEmpty)) && decide (f.length ≤ 64) && !f.isEmpty
def rising : List F → Bool
  | a :: b :: r => ltF a b && rising (b :: r)
  | _ => true
def chk (n : Nat) : Bool :=
  decide ((allChoices n).length = many n) && (allChoices n).all okFam && decide ((allFull n).length = many n) &&
  (allFull n).all (fun f => meetsL f && oneEach n f && decide (inOrder f = f)) && rising (allFull n)
def chkW (n : Nat) : Bool := decide (allFull n = ways n) && (((setsBelow n).foldl (stepW n) [[]]).filter meetsL).all okFam
end Ms

set_option Elab.async false
set_option linter.all false
set_option maxRecDepth 100000
/-! What is known of values (Rp: the value reads as the datum, over a heap G that is a part of the abstract one), and what a reading evaluates to. -/
namespace Ms
open PySem PySem.Spec PyProof.Rows L2
abbrev Sl := L2.St

mutual
inductive Rp (G : Hp) : V → PyData → Prop
  | non : Rp G .non .none
  | bl (b : Bool) : Rp G (.bl b) (.bool b)
  | int (i : Int) : Rp G (.int i) (.int i)
  | lst {a : Addr} {xs : List V} {ds : List PyData} : G a = some (.lst xs) → RpL G xs ds → Rp G (.ref a) (.list ds)
  | tup {a : Addr} {xs : List V} {ds : List PyData} : G a = some (.tup xs) → RpL G xs ds → Rp G (.ref a) (.tuple ds)
inductive RpL (G : Hp) : List V → List PyData → Prop
  | nil : RpL G [] []
  | cons {v : V} {vs : List V} {d : PyData} {ds : List PyData} : Rp G v d → RpL G vs ds → RpL G (v :: vs) (d :: ds)
end
mutual
theorem Rp.mono {G G' : Hp} (s : Same G G') : ∀ (d : PyData) (v : V), Rp G v d → Rp G' v d
  | .none, _, h => by cases h; exact .non
  | .bool b, _, h => by cases h; exact .bl b
  | .int i, _, h => by cases h; exact .int i
  | .str x, _, h => by cases h
  | .list ds, _, h => by
    cases h with
    | lst e r => exact .lst (s _ _ e) (RpL.mono s ds _ r)
  | .tuple ds, _, h => by
    cases h with
    | tup e r => exact .tup (s _ _ e) (RpL.mono s ds _ r)
  | .dict _, _, h => by cases h
theorem RpL.mono {G G' : Hp} (s : Same G G') : ∀ (ds : List PyData) (vs : List V), RpL G vs ds → RpL G' vs ds
  | [], _, h => by cases h; exact .nil
  | d :: ds, _, h => by
    cases h with
    | cons a b => exact .cons (Rp.mono s d _ a) (RpL.mono s ds _ b)
end
theorem Rp.up {G G' : Hp} {d : PyData} {v : V} (h : Rp G v d) (s : Same G G') : Rp G' v d := Rp.mono s d v h
theorem RpL.up {G G' : Hp} {ds : List PyData} {vs : List V} (h : RpL G vs ds) (s : Same G G') : RpL G' vs ds := RpL.mono s ds vs h
mutual
theorem Rp.dp {K : PySem.W.Frag} {G : Hp} : ∀ (d : PyData) (v : V), Rp G v d → Dp K G v d
  | .none, _, h => by cases h; exact .non
  | .bool b, _, h => by cases h; exact .bl b
  | .int i, _, h => by cases h; exact .int i
  | .str x, _, h => by cases h
  | .list ds, _, h => by
    cases h with
    | lst e r => exact .lst (SqL.of e) (RpL.dp ds _ r)
  | .tuple ds, _, h => by
    cases h with
    | tup e r => exact .tup (SqT.of e) (RpL.dp ds _ r)
  | .dict _, _, h => by cases h
theorem RpL.dp {K : PySem.W.Frag} {G : Hp} : ∀ (ds : List PyData) (vs : List V), RpL G vs ds → DpAll K G vs ds
  | [], _, h => by cases h; exact .nil
  | d :: ds, _, h => by
    cases h with
    | cons a b => exact .cons (Rp.dp d _ a) (RpL.dp ds _ b)
end
theorem RpL.len {G : Hp} : ∀ {vs : List V} {ds : List PyData}, RpL G vs ds → vs.length = ds.length
  | _, _, .nil => rfl
  | _, _, .cons _ t => congrArg (· + 1) (RpL.len t)
theorem RpL.app {G : Hp} : ∀ {vs : List V} {ds : List PyData} {us : List V} {es : List PyData}, RpL G vs ds → RpL G us es → RpL G (vs ++ us) (ds ++ es)
  | _, _, _, _, .nil, h => h
  | _, _, _, _, .cons a t, h => .cons a (RpL.app t h)
theorem RpL.at {G : Hp} : ∀ {vs : List V} {ds : List PyData} {i : Nat} {v : V}, RpL G vs ds → vs[i]? = some v → ∃ d, ds[i]? = some d ∧ Rp G v d
  | _, _, _, _, .nil, h => by simp at h
  | _, _, 0, _, .cons a _, h => by
    simp at h
    subst h
    exact ⟨_, rfl, a⟩
  | _, _, i + 1, v, .cons _ t, h => by
    obtain ⟨d, e, r⟩ := RpL.at (i := i) (v := v) t (by simpa using h)
    exact ⟨d, by simpa using e, r⟩
theorem RpL.at' {G : Hp} : ∀ {vs : List V} {ds : List PyData} {i : Nat} {d : PyData}, RpL G vs ds → ds[i]? = some d → ∃ v, vs[i]? = some v ∧ Rp G v d
  | _, _, _, _, .nil, h => by simp at h
  | _, _, 0, _, .cons a _, h => by
    simp at h
    subst h
    exact ⟨_, rfl, a⟩
  | _, _, i + 1, d, .cons _ t, h => by
    obtain ⟨v, e, r⟩ := RpL.at' (i := i) (d := d) t (by simpa using h)
    exact ⟨v, by simpa using e, r⟩
theorem rpl_ints {G : Hp} : ∀ {ns : List Int} {vs : List V}, RpL G vs (ns.map PyData.int) → vs = ns.map V.int
  | [], _, h => by cases h; rfl
  | n :: ns, _, h => by
    cases h with
    | cons a t =>
      cases a
      rw [rpl_ints t]
      rfl
theorem ints_rpl {G : Hp} : ∀ (ns : List Int), RpL G (ns.map V.int) (ns.map PyData.int)
  | [] => .nil
  | n :: ns => .cons (.int n) (ints_rpl ns)

/-! ### the known part grows with the heap -/
structure Nx (G H G' H' : Hp) : Prop where
  hh : Same H H'
  gg : Same G G'
  gh : Same G' H'
  fr : ∀ a, H a ≠ none → G' a = G a
theorem Nx.keep {G H H' : Hp} (s : Same G H) (t : Same H H') : Nx G H G H' := ⟨t, Same.refl G, s.trans t, fun _ _ => rfl⟩
theorem Nx.refl {G H : Hp} (s : Same G H) : Nx G H G H := .keep s (Same.refl H)
theorem Nx.trans {G H G1 H1 G2 H2 : Hp} (a : Nx G H G1 H1) (b : Nx G1 H1 G2 H2) : Nx G H G2 H2 :=
  ⟨a.hh.trans b.hh, a.gg.trans b.gg, b.gh, fun x hx => by
    rw [b.fr x, a.fr x hx]
    cases q : H x with
    | none => exact absurd q hx
    | some o =>
      rw [a.hh x o q]
      exact fun z => by cases z⟩
theorem Nx.new {G H : Hp} {p : Addr} {o : HO} (s : Same G H) (h : H p = none) : Nx G H (upd G p o) (upd H p o) where
  hh := fun b u e => by rw [upd_ne (ne_of_none e h)]; exact e
  gg := fun b u e => by rw [upd_ne (ne_of_none (s b u e) h)]; exact e
  gh := fun b u e => by
    by_cases hb : b = p
    · subst hb
      rw [upd_same] at e ⊢
      exact e
    · rw [upd_ne hb] at e ⊢
      exact s b u e
  fr := fun a ha => upd_ne fun e => ha (by rw [e]; exact h)
theorem same_new {H : Hp} {p : Addr} {o : HO} (h : H p = none) : Same H (upd H p o) := fun b u e => by
  rw [upd_ne (ne_of_none e h)]
  exact e
/-- both parts -/
def both (G G2 : Hp) : Hp := fun a => match G a with
  | some o => some o
  | none => G2 a
theorem both_left {G G2 : Hp} : Same G (both G G2) := fun a o e => by
  unfold both
  rw [e]
theorem both_right {G G2 H : Hp} (s : Same G H) (t : Same G2 H) : Same G2 (both G G2) := fun a o e => by
  unfold both
  cases q : G a with
  | none => exact e
  | some u =>
    have h1 := s a u q
    rw [t a o e] at h1
    exact h1.symm
theorem both_in {G G2 H : Hp} (s : Same G H) (t : Same G2 H) : Same (both G G2) H := fun a o e => by
  unfold both at e
  cases q : G a with
  | none =>
    rw [q] at e
    exact t a o e
  | some u =>
    rw [q] at e
    cases e
    exact s a _ q
theorem Nx.wide {G G' H G2 H2 : Hp} (n : Nx G H G2 H2) (sg : Same G G') (sh : Same G' H) : Nx G' H (both G' G2) H2 where
  hh := n.hh
  gg := both_left
  gh := both_in (sh.trans n.hh) n.gh
  fr := fun a ha => by
    unfold both
    cases q : G' a with
    | some u => rfl
    | none =>
      show G2 a = none
      rw [n.fr a ha]
      cases r : G a with
      | none => rfl
      | some u =>
        rw [sg a u r] at q
        cases q

/-! ### what evaluates to what -/
def EvD (te : TE) (σ : Sl) (G : Hp) (d : PyData) : Prop := ∀ H, Same G H → ∀ Q : VK, (∀ v G2 H2, Nx G H G2 H2 → Rp G2 v d → Q v H2) → te σ H Q
def EvB (tt : TT) (σ : Sl) (G : Hp) (b : Bool) : Prop := ∀ H, Same G H → ∀ Q : Bool → Hp → Prop, (∀ H2, Same H H2 → Q b H2) → tt σ H Q
def EvA (ta : TA) (σ : Sl) (G : Hp) (ds : List PyData) : Prop := ∀ H, Same G H → ∀ Q : List V → Hp → Prop, (∀ vs G2 H2, Nx G H G2 H2 → RpL G2 vs ds → Q vs H2) → ta σ H Q
def OpD (r : R2) (d1 d2 d : PyData) : Prop := ∀ G H x y, Same G H → Rp G x d1 → Rp G y d2 → ∀ Q : VK, (∀ v G2 H2, Nx G H G2 H2 → Rp G2 v d → Q v H2) → r x y H Q
def CallD (r : List V → Hp → VK → Prop) (ds : List PyData) (d : PyData) : Prop := ∀ G H xs, Same G H → RpL G xs ds → ∀ Q : VK, (∀ v G2 H2, Nx G H G2 H2 → Rp G2 v d → Q v H2) → r xs H Q
theorem EvD.up {te : TE} {σ : Sl} {G G' : Hp} {d : PyData} (h : EvD te σ G d) (s : Same G G') : EvD te σ G' d := fun H sh Q q =>
  h H (s.trans sh) Q fun v G2 H2 n r => q v _ H2 (n.wide s sh) (r.up (both_right (sh.trans n.hh) n.gh))
theorem EvB.up {tt : TT} {σ : Sl} {G G' : Hp} {b : Bool} (h : EvB tt σ G b) (s : Same G G') : EvB tt σ G' b := fun H sh Q q => h H (s.trans sh) Q q
theorem EvA.up {ta : TA} {σ : Sl} {G G' : Hp} {ds : List PyData} (h : EvA ta σ G ds) (s : Same G G') : EvA ta σ G' ds := fun H sh Q q =>
  h H (s.trans sh) Q fun v G2 H2 n r => q v _ H2 (n.wide s sh) (r.up (both_right (sh.trans n.hh) n.gh))
section
variable {σ : Sl} {G : Hp} {ta tb te : TE} {t u : TT} {d d1 d2 : PyData} {K : PySem.W.Frag}
theorem EvD.is {d' : PyData} (h : EvD te σ G d) (e : d = d') : EvD te σ G d' := e ▸ h
theorem EvB.is {b b' : Bool} (h : EvB t σ G b) (e : b = b') : EvB t σ G b' := e ▸ h
theorem ev_var {i : Nat} {v : V} (h : σ[i]? = some (some v)) (r : Rp G v d) : EvD (tVar i) σ G d := fun H s Q q => ⟨v, h, q v G H (.refl s) r⟩
theorem ev_int {i : Int} : EvD (tC (.int i)) σ G (.int i) := fun H s Q q => q _ G H (.refl s) (.int i)
theorem ev_bl {b : Bool} : EvD (tC (.bl b)) σ G (.bool b) := fun H s Q q => q _ G H (.refl s) (.bl b)
theorem ev_op {r : R2} (ha : EvD ta σ G d1) (hb : EvD tb σ G d2) (ho : OpD r d1 d2 d) : EvD (tOp r ta tb) σ G d := fun H s Q q =>
  ha H s _ fun x G1 H1 n1 r1 => (hb.up n1.gg) H1 n1.gh _ fun y G2 H2 n2 r2 => ho G2 H2 x y n2.gh (r1.up n2.gg) r2 Q fun v G3 H3 n3 r3 => q v G3 H3 ((n1.trans n2).trans n3) r3
theorem ea_nil : EvA tNil σ G [] := fun H s Q q => q [] G H (.refl s) .nil
theorem ea_cons {tr : TA} {ds : List PyData} (ha : EvD ta σ G d) (hr : EvA tr σ G ds) : EvA (tCons ta tr) σ G (d :: ds) := fun H s Q q =>
  ha H s _ fun x G1 H1 n1 r1 => (hr.up n1.gg) H1 n1.gh _ fun vs G2 H2 n2 r2 => q _ G2 H2 (n1.trans n2) (.cons (r1.up n2.gg) r2)
theorem ea1 (h : EvD ta σ G d) : EvA (tCons ta tNil) σ G [d] := ea_cons h ea_nil
theorem ea2 (h : EvD ta σ G d1) (h2 : EvD tb σ G d2) : EvA (tCons ta (tCons tb tNil)) σ G [d1, d2] := ea_cons h (ea1 h2)
theorem sz_of {n : Nat} (h : n ≤ 100000) : n ≤ sizeLine := Nat.le_trans h (by decide)
theorem ev_tup {tr : TA} {ds : List PyData} (h : EvA tr σ G ds) (hl : ds.length ≤ 100000) : EvD (tTup tr) σ G (.tuple ds) := fun H s Q q =>
  h H s _ fun vs G1 H1 n1 r1 => ⟨by rw [r1.len]; exact sz_of hl, fun p hp => q _ _ _ (n1.trans (.new n1.gh hp)) (.tup upd_same (r1.up (Nx.new (o := .tup vs) n1.gh hp).gg))⟩
theorem ev_lst {tr : TA} {ds : List PyData} (h : EvA tr σ G ds) (hl : ds.length ≤ 100000) : EvD (tLst tr) σ G (.list ds) := fun H s Q q =>
  h H s _ fun vs G1 H1 n1 r1 => ⟨by rw [r1.len]; exact sz_of hl, fun p hp => q _ _ _ (n1.trans (.new n1.gh hp)) (.lst upd_same (r1.up (Nx.new (o := .lst vs) n1.gh hp).gg))⟩
theorem ev_cb {r : List V → Hp → VK → Prop} {tr : TA} {ds : List PyData} (h : EvA tr σ G ds) (hc : CallD r ds d) : EvD (tCB r tr) σ G d := fun H s Q q =>
  h H s _ fun vs G1 H1 n1 r1 => hc G1 H1 vs n1.gh r1 Q fun v G2 H2 n2 r2 => q v G2 H2 (n1.trans n2) r2
/-! tests -/
theorem eb_test {b : Bool} (h : EvD te σ G (.bool b)) : EvB (tTest te) σ G b := fun H s Q q => h H s _ fun v G1 H1 n1 r1 => by
  cases r1
  exact ⟨b, rfl, q H1 n1.hh⟩
theorem eb_B {b : Bool} (h : EvD te σ G (.bool b)) : EvB (tB te) σ G b := fun H s Q q => h H s _ fun v G1 H1 n1 r1 => by
  cases r1
  exact ⟨b, rfl, q H1 n1.hh⟩
theorem eb_not {b : Bool} (h : EvB t σ G b) : EvB (tNot t) σ G (!b) := fun H s Q q => h H s _ fun H1 n1 => q H1 n1
theorem eb_and {a b : Bool} (h1 : EvB t σ G a) (h2 : a = true → EvB u σ G b) : EvB (tAnd t u) σ G (a && b) := fun H s Q q => h1 H s _ fun H1 n1 => by
  cases a with
  | true => exact iteT (h2 rfl H1 (s.trans n1) Q fun H2 n2 => q H2 (n1.trans n2))
  | false => exact iteF (q H1 n1)
theorem eb_or {a b : Bool} (h1 : EvB t σ G a) (h2 : a = false → EvB u σ G b) : EvB (tOr t u) σ G (a || b) := fun H s Q q => h1 H s _ fun H1 n1 => by
  cases a with
  | true => exact iteT (q H1 n1)
  | false => exact iteF (h2 rfl H1 (s.trans n1) Q fun H2 n2 => q H2 (n1.trans n2))
theorem ev_andV {a b : Bool} (h1 : EvD ta σ G (.bool a)) (h2 : a = true → EvD tb σ G (.bool b)) : EvD (tAndV ta tb) σ G (.bool (a && b)) := fun H s Q q => h1 H s _ fun x G1 H1 n1 r1 => by
  cases r1
  refine ⟨a, rfl, ?_⟩
  cases a with
  | true => exact iteT ((h2 rfl).up n1.gg H1 n1.gh Q fun v G2 H2 n2 r2 => q v G2 H2 (n1.trans n2) r2)
  | false => exact iteF (q _ G1 H1 n1 (.bl false))
theorem ev_notV {a : Bool} (h1 : EvD ta σ G (.bool a)) : EvD (tNotV ta) σ G (.bool (!a)) := fun H s Q q => h1 H s _ fun x G1 H1 n1 r1 => by
  cases r1
  exact ⟨a, rfl, q _ G1 H1 n1 (.bl _)⟩
end
/-! ### operators on data -/
theorem opD_I {g : Int → Int → Int} {i j : Int} : OpD (rI0 fun i j => .int (g i j)) (.int i) (.int j) (.int (g i j)) := fun G H x y s r1 r2 Q q => by
  cases r1
  cases r2
  exact ⟨i, j, rfl, rfl, q _ G H (.refl s) (.int _)⟩
theorem opD_C {C : Int → Int → Prop} {g : Int → Int → Int} {i j : Int} (hc : C i j) : OpD (rI C fun i j => .int (g i j)) (.int i) (.int j) (.int (g i j)) := fun G H x y s r1 r2 Q q => by
  cases r1
  cases r2
  exact ⟨i, j, rfl, rfl, hc, q _ G H (.refl s) (.int _)⟩
theorem opD_B {g : Int → Int → Bool} {i j : Int} : OpD (rI0 fun i j => .bl (g i j)) (.int i) (.int j) (.bool (g i j)) := fun G H x y s r1 r2 Q q => by
  cases r1
  cases r2
  exact ⟨i, j, rfl, rfl, q _ G H (.refl s) (.bl _)⟩
theorem opD_eqI {i j : Int} : OpD rEq (.int i) (.int j) (.bool (decide (i = j))) := fun G H x y s r1 r2 Q q => by
  cases r1
  cases r2
  refine ⟨rfl, ?_⟩
  have e : decide (V.int i = V.int j) = decide (i = j) := decide_eq_decide.mpr ⟨fun e => V.int.inj e, fun e => by rw [e]⟩
  rw [e]
  exact q _ G H (.refl s) (.bl _)
theorem opD_neI {i j : Int} : OpD rNe (.int i) (.int j) (.bool (!decide (i = j))) := fun G H x y s r1 r2 Q q => by
  cases r1
  cases r2
  refine ⟨rfl, ?_⟩
  have e : decide (V.int i = V.int j) = decide (i = j) := decide_eq_decide.mpr ⟨fun e => V.int.inj e, fun e => by rw [e]⟩
  rw [e]
  exact q _ G H (.refl s) (.bl _)
theorem opD_eqB {i j : Bool} : OpD rEq (.bool i) (.bool j) (.bool (i == j)) := fun G H x y s r1 r2 Q q => by
  cases r1
  cases r2
  refine ⟨rfl, ?_⟩
  have e : decide (V.bl i = V.bl j) = (i == j) := by cases i <;> cases j <;> decide
  rw [e]
  exact q _ G H (.refl s) (.bl _)
theorem opD_neB {i j : Bool} : OpD rNe (.bool i) (.bool j) (.bool (i != j)) := fun G H x y s r1 r2 Q q => by
  cases r1
  cases r2
  refine ⟨rfl, ?_⟩
  have e : (!decide (V.bl i = V.bl j)) = (i != j) := by cases i <;> cases j <;> decide
  rw [e]
  exact q _ G H (.refl s) (.bl _)
theorem opD_cat {xs ys : List PyData} (hl : xs.length + ys.length ≤ 100000) : OpD rCat (.list xs) (.list ys) (.list (xs ++ ys)) := fun G H x y s r1 r2 Q q => by
  cases r1 with
  | @lst a vs _ e1 k1 =>
    cases r2 with
    | @lst b us _ e2 k2 =>
      exact ⟨a, b, vs, us, rfl, rfl, s _ _ e1, s _ _ e2, by rw [k1.len, k2.len]; exact sz_of hl, fun p hp => q _ _ _ (.new s hp) (.lst upd_same ((k1.app k2).up (Nx.new (o := .lst (vs ++ us)) s hp).gg))⟩
theorem opD_eqD {K : PySem.W.Frag} {d e : PyData} (sd : SeqAt.shaped d = true) (se : SeqAt.shaped e = true) : OpD (rEqD K) d e (.bool (PyData.eqv d e)) := fun G H x y s r1 r2 Q q =>
  ⟨d, e, (r1.up s).dp d x, (r2.up s).dp e y, sd, se, q _ G H (.refl s) (.bl _)⟩
theorem inV_ints (i : Int) : ∀ ns : List Int, inV (.int i) (ns.map V.int) = inI i ns
  | [] => rfl
  | n :: ns => by
    have ih := inV_ints i ns
    show (eqV (.int n) (.int i) || inV (.int i) (ns.map V.int)) = (decide (n = i) || inI i ns)
    rw [ih]
    congr 1
theorem flat_ints : ∀ ns : List Int, (ns.map V.int).all flatV = true
  | [] => rfl
  | n :: ns => by
    show (flatV (.int n) && (ns.map V.int).all flatV) = true
    rw [flat_ints ns]
    rfl
theorem opD_in {K : PySem.W.Frag} {i : Int} {ns : List Int} : OpD (rIn K false) (.int i) (.tuple (ns.map .int)) (.bool (inI i ns)) := fun G H x y s r1 r2 Q q => by
  cases r1
  cases r2 with
  | @tup a vs _ e k =>
    have ev := rpl_ints k
    subst ev
    refine ⟨a, ns.map V.int, rfl, .inr (SqT.of (s _ _ e)), rfl, flat_ints ns, ?_⟩
    rw [inV_ints]
    exact q _ G H (.refl s) (.bl _)
theorem opD_notIn {K : PySem.W.Frag} {i : Int} {ns : List Int} : OpD (rIn K true) (.int i) (.tuple (ns.map .int)) (.bool (!inI i ns)) := fun G H x y s r1 r2 Q q => by
  cases r1
  cases r2 with
  | @tup a vs _ e k =>
    have ev := rpl_ints k
    subst ev
    refine ⟨a, ns.map V.int, rfl, .inr (SqT.of (s _ _ e)), rfl, flat_ints ns, ?_⟩
    rw [inV_ints]
    exact q _ G H (.refl s) (.bl _)
theorem opD_ixL {K : PySem.W.Frag} {ds : List PyData} {j : Nat} {d : PyData} (h : ds[j]? = some d) : OpD (rIxL K) (.list ds) (.int (j : Int)) d := fun G H x y s r1 r2 Q q => by
  cases r2
  cases r1 with
  | @lst a vs _ e k =>
    obtain ⟨v, hv, rv⟩ := k.at' h
    exact ⟨a, vs, j, v, rfl, rfl, SqL.of (s _ _ e), atI_nat hv, q _ G H (.refl s) rv⟩
/-! calls -/
theorem callD_lenL {K : PySem.W.Frag} {ds : List PyData} : CallD (fun xs H Q => ∃ p ys, xs = [V.ref p] ∧ (SqL K H p ys ∨ SqT K H p ys) ∧ Q (.int ys.length) H) [.list ds] (.int ds.length) := fun G H xs s r Q q => by
  cases r with
  | cons a t =>
    cases t
    cases a with
    | @lst p vs _ e k =>
      refine ⟨p, vs, rfl, .inl (SqL.of (s _ _ e)), ?_⟩
      rw [k.len]
      exact q _ G H (.refl s) (.int _)
theorem callD_lenT {K : PySem.W.Frag} {ds : List PyData} : CallD (fun xs H Q => ∃ p ys, xs = [V.ref p] ∧ (SqL K H p ys ∨ SqT K H p ys) ∧ Q (.int ys.length) H) [.tuple ds] (.int ds.length) := fun G H xs s r Q q => by
  cases r with
  | cons a t =>
    cases t
    cases a with
    | @tup p vs _ e k =>
      refine ⟨p, vs, rfl, .inr (SqT.of (s _ _ e)), ?_⟩
      rw [k.len]
      exact q _ G H (.refl s) (.int _)
theorem callD_tuple {K : PySem.W.Frag} {ds : List PyData} : CallD (fun xs H Q => ∃ p ys, xs = [V.ref p] ∧ ((SqL K H p ys ∧ ∀ l, H l = none → Q (.ref l) (upd H l (.tup ys))) ∨ (SqT K H p ys ∧ Q (.ref p) H))) [.list ds] (.tuple ds) := fun G H xs s r Q q => by
  cases r with
  | cons a t =>
    cases t
    cases a with
    | @lst p vs _ e k =>
      exact ⟨p, vs, rfl, .inl ⟨SqL.of (s _ _ e), fun l hl => q _ _ _ (.new s hl) (.tup upd_same (k.up (Nx.new (o := .tup vs) s hl).gg))⟩⟩

/-! ### promises: R says which datum answers which data -/
def spR (R : List PyData → PyData → Prop) : Sp := fun vs H Q _ => ∃ G ds r, Same G H ∧ RpL G vs ds ∧ R ds r ∧ ∀ v G2 H2, Nx G H G2 H2 → Rp G2 v r → Q v H2
theorem ev_call {R : List PyData → PyData → Prop} {E : XK} {σ : Sl} {G : Hp} {ta : TA} {ds : List PyData} {r : PyData} (h : EvA ta σ G ds) (hr : R ds r) : EvD (tCall (spR R) [] E ta) σ G r := fun H s Q q =>
  h H s _ fun vs G1 H1 n1 r1 => ⟨G1, ds, r, n1.gh, by rw [List.append_nil]; exact r1, hr, fun v G2 H2 n2 r2 => q v G2 H2 (n1.trans n2) r2⟩
theorem spR_len {R : List PyData → PyData → Prop} {n : Nat} (hR : ∀ ds r, R ds r → ds.length = n) (vs : List V) (H : Hp) (Q : VK) (E : XK) (h : spR R vs H Q E) : vs.length = n := by
  obtain ⟨G, ds, r, _, k, hr, _⟩ := h
  rw [k.len]
  exact hR ds r hr

/-! ### statements -/
section
variable {σ : Sl} {G H : Hp} {te : TE} {t : TT} {d : PyData} {D : Ends} {tu tw : TS} {K : PySem.W.Frag}
theorem s_asg {i : Nat} (h : EvD te σ G d) (s : Same G H) (k : ∀ v G1 H1, Nx G H G1 H1 → Rp G1 v d → D.nx (σ.set i (some v)) H1) : tAsg te (gName i) D σ H := h H s _ k
theorem s_ret (h : EvD te σ G d) (s : Same G H) (k : ∀ v G1 H1, Nx G H G1 H1 → Rp G1 v d → D.rt v H1) : tRet te D σ H := h H s _ k
theorem s_drop (h : EvD te σ G d) (s : Same G H) (k : ∀ H1, Same H H1 → D.nx σ H1) : tDrop te D σ H := h H s _ fun _ _ H1 n _ => k H1 n.hh
theorem s_if {b : Bool} (h : EvB t σ G b) (s : Same G H) (h1 : b = true → ∀ H1, Same H H1 → tu D σ H1) (h2 : b = false → ∀ H1, Same H H1 → tw D σ H1) : tIfS t tu tw D σ H := h H s _ fun H1 n => by
  cases b with
  | true => exact iteT (h1 rfl H1 n)
  | false => exact iteF (h2 rfl H1 n)
theorem s_forT {ds : List PyData} {j : Nat} (h : EvD te σ G (.tuple ds)) (s : Same G H)
    (k : ∀ G1 H1, Nx G H G1 H1 → ∃ Pv : Nat → Sl → Hp → Prop, Pv 0 σ H1 ∧ (∀ i σ' H', Pv i σ' H' → Same H1 H') ∧
      (∀ i d x σ' H', ds[i]? = some d → Rp G1 x d → Pv i σ' H' → tu { D with nx := Pv (i + 1), ct := Pv (i + 1), bk := D.nx } (σ'.set j (some x)) H') ∧ ∀ σ' H', Pv ds.length σ' H' → D.nx σ' H') :
    tFor (iTup K te) (gName j) tu D σ H := h H s _ fun v G1 H1 n1 r1 => by
  cases r1 with
  | @tup a vs _ e kk =>
    obtain ⟨Pv, p0, ps, pt, pd⟩ := k G1 H1 n1
    refine ⟨a, rfl, ⟨_, SqT.of (n1.gh _ _ e)⟩, for_tup (K := K) (a := a) (xs := vs) Pv p0 (fun i σ' H' _ p => SqT.of (ps i σ' H' p _ _ (n1.gh _ _ e))) (fun i x σ' H' hx p => ?_) (fun σ' H' p => pd σ' H' (by rw [← kk.len]; exact p))⟩
    obtain ⟨d, hd, rd⟩ := kk.at hx
    exact pt i d x σ' H' hd rd p
theorem s_forL {ds : List PyData} {j : Nat} (h : EvD te σ G (.list ds)) (s : Same G H)
    (k : ∀ G1 H1, Nx G H G1 H1 → ∃ Pv : Nat → Sl → Hp → Prop, Pv 0 σ H1 ∧ (∀ i σ' H', Pv i σ' H' → Same H1 H') ∧
      (∀ i d x σ' H', ds[i]? = some d → Rp G1 x d → Pv i σ' H' → tu { D with nx := Pv (i + 1), ct := Pv (i + 1), bk := D.nx } (σ'.set j (some x)) H') ∧ ∀ σ' H', Pv ds.length σ' H' → D.nx σ' H') :
    tFor (iList K te) (gName j) tu D σ H := h H s _ fun v G1 H1 n1 r1 => by
  cases r1 with
  | @lst a vs _ e kk =>
    obtain ⟨Pv, p0, ps, pt, pd⟩ := k G1 H1 n1
    refine ⟨a, rfl, ⟨_, SqL.of (n1.gh _ _ e)⟩, for_list (K := K) (a := a) (xs := vs) Pv p0 (fun i σ' H' _ p => SqL.of (ps i σ' H' p _ _ (n1.gh _ _ e))) (fun i x σ' H' hx p => ?_) (fun σ' H' p => pd σ' H' (by rw [← kk.len]; exact p))⟩
    obtain ⟨d, hd, rd⟩ := kk.at hx
    exact pt i d x σ' H' hd rd p
/-- over range(n) -/
theorem s_forR {ta : TA} {n : Nat} {j : Nat} (h : EvA ta σ G [.int (n : Int)]) (hn : n ≤ 100000) (s : Same G H)
    (k : ∀ H1, Same H H1 → ∃ Pv : Nat → Sl → Hp → Prop, Pv 0 σ H1 ∧
      (∀ i σ' H', i < n → Pv i σ' H' → tu { D with nx := Pv (i + 1), ct := Pv (i + 1), bk := D.nx } (σ'.set j (some (.int (i : Int)))) H') ∧ ∀ σ' H', Pv n σ' H' → D.nx σ' H') :
    tFor (iRng1 ta) (gName j) tu D σ H := h H s _ fun vs G1 H1 n1 r1 => by
  cases r1 with
  | cons a t =>
    cases t
    cases a
    obtain ⟨Pv, p0, pt, pd⟩ := k H1 n1.hh
    refine ⟨(n : Int), rfl, by omega, by omega, for_range (lo := 0) (n := (n : Int).toNat) Pv p0 (fun i σ' H' hi p => ?_) (fun σ' H' p => pd σ' H' (by simpa using p))⟩
    have e : (0 : Int) + (i : Int) = (i : Int) := Int.zero_add _
    show tu _ (σ'.set j (some (.int ((0 : Int) + (i : Int))))) H'
    rw [e]
    exact pt i σ' H' (by simpa using hi) p
end
end Ms

set_option Elab.async false
set_option linter.all false
set_option maxRecDepth 100000
/-! Comprehensions over known data. -/
namespace Ms
open PySem PySem.Spec PyProof.Rows L2
section
variable {β : Type} {σ : Sl} {G : Hp} {te te' : TE} {tt : TT} {K : PySem.W.Frag} {vs : List Nat} {j : Nat}
theorem rpl_map_at {G : Hp} {enc : β → PyData} {bs : List β} {xs : List V} {i : Nat} {x : V} (h : RpL G xs (bs.map enc)) (hx : xs[i]? = some x) : ∃ b, bs[i]? = some b ∧ Rp G x (enc b) := by
  obtain ⟨d, hd, r⟩ := h.at hx
  rw [List.getElem?_map] at hd
  cases e : bs[i]? with
  | none =>
    rw [e] at hd
    cases hd
  | some b =>
    rw [e] at hd
    have q : enc b = d := Option.some.inj hd
    exact ⟨b, rfl, q ▸ r⟩
theorem take_more {α : Type} {l : List α} {i : Nat} {x : α} (h : l[i]? = some x) : l.take (i + 1) = l.take i ++ [x] := by
  rw [List.take_add_one, h]
  rfl
/-- what the loop of a comprehension keeps: gl is the known part, vs' what the new list at D holds -/
structure LcI (G1 H1 : Hp) (D : Addr) (ds : List PyData) (H : Hp) : Prop where
  ex : ∃ Gi vs', H D = some (.lst vs') ∧ RpL Gi vs' ds ∧ Same H1 H ∧ Same G1 Gi ∧ Same Gi H ∧ (∀ a, H1 a ≠ none → Gi a = G1 a) ∧ Gi D = none
theorem LcI.start {G1 H1 : Hp} {D : Addr} (s : Same G1 H1) (hD : H1 D = none) : LcI G1 H1 D [] (upd H1 D (.lst [])) :=
  ⟨G1, [], upd_same, .nil, same_new hD, Same.refl _, s.trans (same_new hD), fun _ _ => rfl, s.free hD⟩
/-- a turn's test and element -/
theorem lc_turn {G1 H1 H : Hp} {D : Addr} {ds : List PyData} {dy : PyData} {keep : Bool} {σ2 : Sl} (hD : H1 D = none) (h : LcI G1 H1 D ds H) (hl : ds.length < 100000)
    (ht : EvB tt σ2 G1 keep) (he : keep = true → EvD te' σ2 G1 dy) {Nx' : Hp → Prop} (hN : ∀ H', LcI G1 H1 D (ds ++ if keep = true then [dy] else []) H' → Nx' H') :
    tt σ2 H fun b H3 => if b = true then te' σ2 H3 fun y H4 => ∃ acc, H4 D = some (.lst acc) ∧ acc.length < sizeLine ∧ Nx' (upd H4 D (.lst (acc ++ [y]))) else Nx' H3 := by
  obtain ⟨Gi, vs', e, r, s1, s2, s3, fr, gD⟩ := h.ex
  refine ht H (s2.trans s3) _ fun H3 n3 => ?_
  cases keep with
  | false =>
    refine iteF (hN _ ⟨Gi, vs', n3 _ _ e, ?_, s1.trans n3, s2, s3.trans n3, fr, gD⟩)
    simpa using r
  | true =>
    refine iteT ((he rfl).up s2 H3 (s3.trans n3) _ fun y G4 H4 n4 r4 => ?_)
    have hD3 : H3 D ≠ none := by
      rw [n3 _ _ e]
      exact fun z => by cases z
    have g4 : G4 D = none := by rw [n4.fr D hD3, gD]
    have u4 : Same G4 (upd H4 D (.lst (vs' ++ [y]))) := fun b o q => by
      rw [upd_ne (fun z => by rw [z, g4] at q; cases q)]
      exact n4.gh b o q
    refine ⟨vs', n4.hh _ _ (n3 _ _ e), by rw [r.len]; exact Nat.lt_of_lt_of_le hl (by decide), hN _ ⟨G4, vs' ++ [y], upd_same, ?_, ?_, s2.trans n4.gg, u4, fun a ha => ?_, g4⟩⟩
    · rw [if_pos rfl]
      exact (r.up n4.gg).app (.cons r4 .nil)
    · intro b o q
      rw [upd_ne (ne_of_none q hD)]
      exact n4.hh b o (n3 b o (s1 b o q))
    · have ha3 : H3 a ≠ none := by
        cases q : H1 a with
        | none => exact absurd q ha
        | some o =>
          rw [n3 _ _ (s1 _ _ q)]
          exact fun z => by cases z
      rw [n4.fr a ha3, fr a ha]
/-- the end -/
theorem LcI.fin {G1 H1 H : Hp} {D : Addr} {ds : List PyData} (hD : H1 D = none) (h : LcI G1 H1 D ds H) : ∃ G2, Nx G1 H1 G2 H ∧ Rp G2 (.ref D) (.list ds) := by
  obtain ⟨Gi, vs', e, r, s1, s2, s3, fr, gD⟩ := h.ex
  refine ⟨upd Gi D (.lst vs'), ⟨s1, s2.trans (same_new gD), fun b o q => ?_, fun a ha => ?_⟩, .lst upd_same (r.up (same_new gD))⟩
  · by_cases hb : b = D
    · rw [hb, upd_same] at q
      cases q
      rw [hb]
      exact e
    · rw [upd_ne hb] at q
      exact s3 b o q
  · rw [upd_ne (fun z => ha (by rw [z]; exact hD)), fr a ha]
theorem lcs {β : Type} (keep : β → Bool) (f : β → PyData) {bs : List β} {i : Nat} {b : β} (h : bs[i]? = some b) :
    ((bs.take i).filter keep).map f ++ (if keep b = true then [f b] else []) = ((bs.take (i + 1)).filter keep).map f := by
  rw [take_more h, List.filter_append, List.map_append]
  cases q : keep b with
  | true =>
    rw [if_pos rfl, List.filter_cons_of_pos q]
    rfl
  | false =>
    rw [if_neg Bool.false_ne_true, List.filter_cons_of_neg (by rw [q]; exact Bool.false_ne_true)]
    rfl
theorem lcs_len {β : Type} (keep : β → Bool) (f : β → PyData) (bs : List β) (i : Nat) : (((bs.take i).filter keep).map f).length ≤ bs.length := by
  rw [List.length_map]
  exact Nat.le_trans (List.length_filter_le _ _) (by rw [List.length_take]; exact Nat.min_le_right _ _)
theorem ev_lcL {bs : List β} {enc : β → PyData} {keep : β → Bool} {f : β → PyData} (h : EvD te σ G (.list (bs.map enc))) (hl : bs.length < 100000) (hw : ∀ x, wipe ((wipe σ vs).set j (some x)) vs = wipe σ vs)
    (ht : ∀ b ∈ bs, ∀ G1 x, Same G G1 → Rp G1 x (enc b) → EvB tt ((wipe σ vs).set j (some x)) G1 (keep b))
    (he : ∀ b ∈ bs, keep b = true → ∀ G1 x, Same G G1 → Rp G1 x (enc b) → EvD te' ((wipe σ vs).set j (some x)) G1 (f b)) :
    EvD (tLc (iList K te) (gName j) tt te' vs) σ G (.list ((bs.filter keep).map f)) := fun H s Q q => h H s _ fun v G1 H1 n1 r1 => by
  cases r1 with
  | @lst a xs _ e kk =>
    refine ⟨a, rfl, ⟨_, SqL.of (n1.gh _ _ e)⟩, fun D hD => lc_list (K := K) (a := a) (xs := xs) (fun i H' => LcI G1 H1 D (((bs.take i).filter keep).map f) H')
      (by simpa using LcI.start n1.gh hD) (fun i H' _ p => ?_) (fun i x H' hx p => ⟨hw x, ?_⟩) (fun H' p => ?_)⟩
    · obtain ⟨_, _, _, _, s1, _⟩ := p.ex
      exact SqL.of (s1 _ _ (n1.gh _ _ e))
    · obtain ⟨b, hb, rb⟩ := rpl_map_at kk hx
      have hm := List.mem_of_getElem? hb
      refine lc_turn (keep := keep b) (dy := f b) hD p (Nat.lt_of_le_of_lt (lcs_len keep f bs i) hl) (ht b hm G1 x n1.gg rb) (fun kb => he b hm kb G1 x n1.gg rb) (fun H2 p2 => ?_)
      rw [lcs keep f hb] at p2
      exact p2
    · have el : xs.length = bs.length := by rw [kk.len, List.length_map]
      have p : LcI G1 H1 D (((bs.take xs.length).filter keep).map f) H' := p
      rw [el, List.take_length] at p
      obtain ⟨G2, n2, r2⟩ := p.fin hD
      exact q _ G2 H' (n1.trans n2) r2
theorem ev_lcT {bs : List β} {enc : β → PyData} {keep : β → Bool} {f : β → PyData} (h : EvD te σ G (.tuple (bs.map enc))) (hl : bs.length < 100000) (hw : ∀ x, wipe ((wipe σ vs).set j (some x)) vs = wipe σ vs)
    (ht : ∀ b ∈ bs, ∀ G1 x, Same G G1 → Rp G1 x (enc b) → EvB tt ((wipe σ vs).set j (some x)) G1 (keep b))
    (he : ∀ b ∈ bs, keep b = true → ∀ G1 x, Same G G1 → Rp G1 x (enc b) → EvD te' ((wipe σ vs).set j (some x)) G1 (f b)) :
    EvD (tLc (iTup K te) (gName j) tt te' vs) σ G (.list ((bs.filter keep).map f)) := fun H s Q q => h H s _ fun v G1 H1 n1 r1 => by
  cases r1 with
  | @tup a xs _ e kk =>
    refine ⟨a, rfl, ⟨_, SqT.of (n1.gh _ _ e)⟩, fun D hD => lc_tup (K := K) (a := a) (xs := xs) (fun i H' => LcI G1 H1 D (((bs.take i).filter keep).map f) H')
      (by simpa using LcI.start n1.gh hD) (fun i H' _ p => ?_) (fun i x H' hx p => ⟨hw x, ?_⟩) (fun H' p => ?_)⟩
    · obtain ⟨_, _, _, _, s1, _⟩ := p.ex
      exact SqT.of (s1 _ _ (n1.gh _ _ e))
    · obtain ⟨b, hb, rb⟩ := rpl_map_at kk hx
      have hm := List.mem_of_getElem? hb
      refine lc_turn (keep := keep b) (dy := f b) hD p (Nat.lt_of_le_of_lt (lcs_len keep f bs i) hl) (ht b hm G1 x n1.gg rb) (fun kb => he b hm kb G1 x n1.gg rb) (fun H2 p2 => ?_)
      rw [lcs keep f hb] at p2
      exact p2
    · have el : xs.length = bs.length := by rw [kk.len, List.length_map]
      have p : LcI G1 H1 D (((bs.take xs.length).filter keep).map f) H' := p
      rw [el, List.take_length] at p
      obtain ⟨G2, n2, r2⟩ := p.fin hD
      exact q _ G2 H' (n1.trans n2) r2
/-- over range(n) -/
theorem ev_lcR {ta : TA} {n : Nat} {keep : Int → Bool} {f : Int → PyData} (h : EvA ta σ G [.int (n : Int)]) (hn : n < 100000) (hw : ∀ x, wipe ((wipe σ vs).set j (some x)) vs = wipe σ vs)
    (ht : ∀ b : Int, EvB tt ((wipe σ vs).set j (some (.int b))) G (keep b))
    (he : ∀ b : Int, keep b = true → EvD te' ((wipe σ vs).set j (some (.int b))) G (f b)) :
    EvD (tLc (iRng1 ta) (gName j) tt te' vs) σ G (.list (((pts n).filter keep).map f)) := fun H s Q q => h H s _ fun us G1 H1 n1 r1 => by
  cases r1 with
  | cons a t =>
    cases t
    cases a
    have hp : ∀ i, i < n → (pts n)[i]? = some (i : Int) := fun i hi => by
      unfold pts
      rw [List.getElem?_map, List.getElem?_range hi]
      rfl
    have hpl : (pts n).length = n := by
      unfold pts
      rw [List.length_map, List.length_range]
    refine ⟨(n : Int), rfl, by omega, by omega, fun D hD => lc_range (lo := 0) (n := (n : Int).toNat) (fun i H' => LcI G1 H1 D ((((pts n).take i).filter keep).map f) H')
      (by simpa using LcI.start n1.gh hD) (fun i H' hi p => ⟨hw _, ?_⟩) (fun H' p => ?_)⟩
    · have hi' : i < n := by simpa using hi
      have e : (0 : Int) + (i : Int) = (i : Int) := Int.zero_add _
      rw [e]
      refine lc_turn (keep := keep (i : Int)) (dy := f (i : Int)) hD p (Nat.lt_of_le_of_lt (lcs_len keep f _ i) (by rw [hpl]; exact hn)) ((ht i).up n1.gg) (fun kb => (he i kb).up n1.gg) (fun H2 p2 => ?_)
      rw [lcs keep f (hp i hi')] at p2
      exact p2
    · have p : LcI G1 H1 D ((((pts n).take (n : Int).toNat).filter keep).map f) H' := p
      rw [Int.toNat_natCast, List.take_of_length_le (by rw [hpl]; exact Nat.le_refl n)] at p
      obtain ⟨G2, n2, r2⟩ := p.fin hD
      exact q _ G2 H' (n1.trans n2) r2
theorem eb_yes {σ : Sl} {G : Hp} : EvB tYes σ G true := fun H _ Q q => q H (Same.refl H)
end
end Ms

set_option Elab.async false
set_option linter.all false
set_option maxRecDepth 100000
/-! sorted(..) of known data. -/
namespace Ms
open PySem PySem.Spec PyProof.Rows L2 PySem.W
open PySem.SeqAt (room_here room_in)
section
variable {prog : Program} {w : World} {A : Around} {E : Value → Shared → Prop} {s : Shared}
/-- the first items of some tuples -/
theorem firsts_of {M : Model} : ∀ (vs : List Value) (its : List (Array Value)) {Q : List (Option Value) → Shared → Prop},
    EachIs (fun v it => ∃ a o n, v = Value.ref a ∧ s.heap.get? a = some o ∧ o.cls = .type "tuple" ∧ o.data = .seq it n) vs its → Q (its.map fun it => it[0]?) s → wpAny M A (vs.mapM firstOfTuple') Q E s
  | [], [], _, _, h => by
    rw [List.mapM_nil]
    exact wpAny_pure h
  | [], _ :: _, _, t, _ => by cases t
  | _ :: _, [], _, t, _ => by cases t
  | v :: vs, it :: its, Q, t, h => by
    cases t with
    | cons h1 t =>
      obtain ⟨a, o, n, rfl, ho, hc, hd⟩ := h1
      rw [List.mapM_cons]
      refine wpAny_bind ?_
      rw [kas_first_eq]
      have lk : Looks M s.heap (typeOf (.ref a)) o.cls := (Looks.ld ho).andThen .now
      refine wpAny_bind (lk.here ?_)
      rw [hc, if_neg (by first | decide | simp)]
      refine wpAny_bind (listItems_at ho hd (wpAny_pure ?_))
      exact wpAny_bind (firsts_of vs its (Q := fun bs s' => wpAny M A (pure (it[0]? :: bs)) Q E s') t (wpAny_pure h))
/-- tuples, the first of them empty: told by their one type -/
theorem kind_tup0 {M : Model} {vs : List Value} {its : List (Array Value)} {Q : SortKind → Shared → Prop} (t : EachIs (fun v it => ∃ a o n, v = Value.ref a ∧ s.heap.get? a = some o ∧ o.cls = .type "tuple" ∧ o.data = .seq it n) vs (#[] :: its))
    (h : Q oneType' s) : wpAny M A (keyKind' vs.toArray) Q E s := by
  have ty : ∀ v ∈ vs, Looks M s.heap (typeOf v) (Value.type "tuple") := fun v hv => by
    obtain ⟨it, _, a, o, n, rfl, ho, hc, hd⟩ := t.left v hv
    exact hc ▸ (Looks.ld ho).andThen .now
  rw [kat_kind_eq, List.mapM_toArray, map_eq_pure_bind]
  refine wpAny_bind (wpAny_bind (firsts_of vs _ t (wpAny_pure ?_)))
  rw [if_neg (by simp), if_neg (by simp)]
  cases vs with
  | nil => cases t
  | cons v₁ rest =>
    rw [oneTypeOnly'_eq, List.mapM_toArray, map_eq_pure_bind]
    refine wpAny_bind (wpAny_bind (wpAny_bind (kas_mapM (r := Value.type "tuple") _ (fun v hv Q' hq => (ty v hv).here hq) (wpAny_pure ?_))))
    have ha : ((List.map (fun _ => Value.type "tuple") (v₁ :: rest)).toArray.all fun x => x == Value.type "tuple") = true := by
      simp only [List.all_toArray, List.all_map, List.all_eq_true]
      intro _ _
      exact beq_self_eq_true _
    have h0 : (List.map (fun _ => Value.type "tuple") (v₁ :: rest)).toArray[0]? = some (Value.type "tuple") := by simp
    rw [h0]
    simp only [ha, if_true]
    exact wpAny_pure (wpAny_pure h)
/-- tuple's own __lt__, as sorting calls it -/
theorem call_tuple_lt {Q : Value → Shared → Prop} {l b : Addr} {its its2 : Array Value} {e r : Nat → Bool} (hl : s.heap.IsTuple l its) (hb : s.heap.IsTuple b its2)
    (he : ∀ j (h1 : j < its.size) (h2 : j < its2.size), SeqAt.EqAt A.in1 s its[j] its2[j] (e j)) (hr : ∀ j (h1 : j < its.size) (h2 : j < its2.size), e j = false → SeqAt.RcLt A.in1 s its[j] its2[j] (r j))
    (h : Q (.bool (SeqAt.firstLt e r (decide (its.size < its2.size)) (List.range (min its.size its2.size)))) s) : wpAny (model prog w) A (call (.builtin "tuple.__lt__") [.ref l, .ref b]) Q E s := by
  obtain ⟨⟨c1, d1, da1, sl1⟩, ho, hc, n, hd⟩ := id hl
  obtain ⟨⟨c2, d2, da2, sl2⟩, ho2, hc2, n2, hd2⟩ := id hb
  simp only at hc hd hc2 hd2
  subst hc hd hc2 hd2
  exact call_meets F.slot_tuple_lt ⟨_, ho, rfl⟩ F.entry_tuple_lt (F.args_tuple_lt_2 _ _) (SeqAt.tuple_ltAt l b its its2 n n2 d1 d2 sl1 sl2 e r) ⟨ho, ho2, he, hr, h⟩
theorem oneLt_tup {xs ys : List PyData} {a b : Value} {as bs : List Addr} {Q : Bool → Shared → Prop} (ra : Reads s.heap a (.tuple xs) as) (rb : Reads s.heap b (.tuple ys) bs) (hal : alikeAll xs ys = true)
    (hu : A.units + min (PyData.tuple xs).depth (PyData.tuple ys).depth < cLine) (hq : Q (dataLt (.tuple xs) (.tuple ys)) s) : wpAny (model prog w) A (oneLt' true a b) Q E s := by
  cases ra with
  | @tuple l o us n _ as₁ h1 h2 h3 h4 =>
    cases rb with
    | @tuple l' o' us' n' _ bs₁ k1 k2 k3 k4 =>
      have n1 : us.size = xs.length := by simpa using SeqAt.ReadsAll.length _ _ _ h4
      have n2 : us'.size = ys.length := by simpa using SeqAt.ReadsAll.length _ _ _ k4
      rw [dataLt_tuple, ← firstLt_toks xs ys hal, ← n1, ← n2] at hq
      rw [oneLt'_eq]
      simp only [if_true]
      refine wpAny_bind (wpAny_cRoomFor (room_here hu) ?_)
      refine wpAny_bind (wpAny_callSpecialIfBound?_slot (T := "tuple") ⟨_, h1, h2⟩ F.slot_tuple_lt (call_tuple_lt (e := SeqAt.pairEq xs ys) (r := fun j => dataLt (xs.getD j .none) (ys.getD j .none)) ⟨_, h1, h2, _, h3⟩ ⟨_, k1, k2, _, k3⟩ (fun j j1 j2 => ?_) (fun j j1 j2 hj => ?_) ?_))
      · have := eqAt_alikeAll xs ys A.in1 s us.toList us'.toList _ _ h4 k4 hal (room_in hu) j (by simpa using j1) (by simpa using j2)
        simpa using this
      · have := rcLt_alikeAll xs ys A.in1 s us.toList us'.toList _ _ h4 k4 hal (room_in hu) j (by simpa using j1) (by simpa using j2) hj
        simpa using this
      · exact wpAny_truthy_bool hq
/-- tuples of which the first is empty can be sorted -/
theorem sorts_tup0 {vs : List Value} {ds : List PyData} (e : EachIs (fun v d => ∃ as, Reads s.heap v d as) vs (.tuple [] :: ds)) (hal : AllAlike (.tuple [] :: ds)) (ht : ∀ d, d ∈ PyData.tuple [] :: ds → ∃ xs, d = .tuple xs)
    (hu : ∀ d, d ∈ PyData.tuple [] :: ds → A.units + d.depth < cLine) : SortsAt prog w A s (dataKind s.heap (.tuple [] :: ds)) vs := by
  refine ⟨fun v hv => ?_, ⟨oneType', ?_, fun _ E Q hq => ?_⟩⟩
  · obtain ⟨d, hd, as, r⟩ := e.left v hv
    exact ⟨_, dataKind_some hal hd r⟩
  · intro E x y a b Q ha hb hq
    obtain ⟨d, as, hd, ra, rfl⟩ := dataKind_inv ha
    obtain ⟨d', as', hd', rb, rfl⟩ := dataKind_inv hb
    obtain ⟨xs, rfl⟩ := ht d hd
    obtain ⟨ys, rfl⟩ := ht d' hd'
    rw [keyLt'_oneType]
    exact oneLt_tup ra rb (by simpa [alike] using hal _ hd _ hd') (Nat.lt_of_le_of_lt (Nat.add_le_add_left (Nat.min_le_left _ _) _) (hu _ hd)) hq
  · have tups : ∀ {vs : List Value} {ds : List PyData}, EachIs (fun v d => ∃ as, Reads s.heap v d as) vs ds → (∀ d, d ∈ ds → ∃ xs, d = .tuple xs) →
        ∃ its : List (Array Value), EachIs (fun v it => ∃ a o n, v = Value.ref a ∧ s.heap.get? a = some o ∧ o.cls = .type "tuple" ∧ o.data = .seq it n) vs its := by
      intro vs ds e
      induction e with
      | nil => exact fun _ => ⟨[], .nil⟩
      | cons h t ih =>
        intro ht
        obtain ⟨its, k⟩ := ih fun d hd => ht d (List.mem_cons_of_mem _ hd)
        obtain ⟨xs, rfl⟩ := ht _ (List.mem_cons_self ..)
        obtain ⟨as, r⟩ := h
        cases r with
        | tuple h1 h2 h3 h4 => exact ⟨_, .cons ⟨_, _, _, rfl, h1, h2, h3⟩ k⟩
    cases e with
    | cons h t =>
      obtain ⟨as, r⟩ := h
      obtain ⟨its, k⟩ := tups t fun d hd => ht d (List.mem_cons_of_mem _ hd)
      cases r with
      | @tuple l o us n _ _ h1 h2 h3 h4 =>
        have hz : us.size = 0 := by simpa using SeqAt.ReadsAll.length _ _ _ h4
        have hz' : us = #[] := Array.eq_empty_of_size_eq_zero hz
        subst hz'
        exact kind_tup0 (.cons ⟨_, _, _, rfl, h1, h2, h3⟩ k) hq
/-- what sorted asks of the data -/
def CanSort (ds : List PyData) : Prop := AllAlike ds ∧ (Sortable ds ∨ ∃ r, ds = .tuple [] :: r ∧ ∀ d, d ∈ ds → ∃ xs, d = .tuple xs)
theorem sorts_any {vs : List Value} {ds : List PyData} (e : EachIs (fun v d => ∃ as, Reads s.heap v d as) vs ds) (c : CanSort ds) (hu : ∀ d, d ∈ ds → A.units + d.depth < cLine) : SortsAt prog w A s (dataKind s.heap ds) vs := by
  obtain ⟨hal, h | ⟨r, rfl, ht⟩⟩ := c
  · exact SortsAt.data e hal h hu
  · exact sorts_tup0 e hal ht hu
theorem sorted_any {β : Type} {vs : List Value} {bs : List β} {enc : β → PyData} {R : Value → β → Prop} {l : Addr} {Q : Value → Shared → Prop} (hl : s.heap.IsList l vs.toArray) (e : EachIs R vs bs) (er : EachIs (fun v b => ∃ as, Reads s.heap v (enc b) as) vs bs)
    (c : CanSort (bs.map enc)) (hL : bs.length ≤ sizeLine) (hu : ∀ b, b ∈ bs → A.units + 2 + (enc b).depth < cLine)
    (h : ∀ out, EachIs R out (bs.mergeSort (dataLe false enc)) → Q (.ref (s.heap.objs.size + 1)) { s with heap := sortedAll s.heap vs (List.toArray out) }) : wpAny (model prog w) A (call (.builtin "sorted") [.ref l]) Q E s := by
  have er' : EachIs (fun v b => ∃ as, Reads (sortingHeap (copyHeap s.heap vs) (s.heap.objs.size + 1) vs) v (enc b) as) vs bs := er.mono fun _ _ ⟨as, r⟩ => ⟨as, PyProof.Rows.Reads.keeps (fun _ _ => sorting_copy_old) r⟩
  exact sorted_vals hl (sorts_any (s := { s with heap := sortingHeap (copyHeap s.heap vs) (s.heap.objs.size + 1) vs }) (each_map (R := fun v d => ∃ as, Reads (sortingHeap (copyHeap s.heap vs) (s.heap.objs.size + 1) vs) v d as) enc er') c (bound_map hu))
    (by rw [e.length]; exact hL) (h _ (sortVals_data false e er' c.1))
end

/-! ### over the layer -/
/-- the items of a known list, as the model has them -/
theorem each_of {β : Type} {G : Hp} {enc : β → PyData} : ∀ {bs : List β} {xs : List V} {us : List Value}, RpL G xs (bs.map enc) → Vals xs us → EachIs (fun u b => ∃ x, RelV x u ∧ Rp G x (enc b)) us bs
  | [], _, _, r, v => by
    cases r
    cases v
    exact .nil
  | b :: bs, _, _, r, v => by
    cases r with
    | cons r1 r2 =>
      cases v with
      | cons v1 v2 => exact .cons ⟨_, v1, r1⟩ (each_of r2 v2)
theorem of_each {β : Type} {G : Hp} {enc : β → PyData} : ∀ {bs : List β} {us : List Value}, EachIs (fun u b => ∃ x, RelV x u ∧ Rp G x (enc b)) us bs → ∃ xs, Vals xs us ∧ RpL G xs (bs.map enc)
  | _, _, .nil => ⟨[], .nil, .nil⟩
  | _, _, .cons ⟨x, h1, h2⟩ t => by
    obtain ⟨xs, k1, k2⟩ := of_each t
    exact ⟨x :: xs, .cons h1 k1, .cons h2 k2⟩
theorem each_reads {β : Type} {X : Cx} {pins : List (Addr × Obj)} {σ : Sl} {H G : Hp} {s : Shared} (I : Inv X pins σ H s) (sg : Same G H) {enc : β → PyData} {us : List Value} {bs : List β} (h : EachIs (fun u b => ∃ x, RelV x u ∧ Rp G x (enc b)) us bs) :
    EachIs (fun u b => ∃ as, Reads s.heap u (enc b) as) us bs := h.mono fun u b ⟨x, r, k⟩ => Dp.reads I (enc b) x u ((k.up sg).dp (enc b) x) r
def rSo {β : Type} (enc : β → PyData) : List V → Hp → VK → Prop := fun vs H Q => ∃ (G : Hp) (bs : List β), Same G H ∧ RpL G vs [.list (bs.map enc)] ∧ CanSort (bs.map enc) ∧ bs.length ≤ 100000 ∧ (∀ b ∈ bs, (enc b).depth ≤ 20) ∧
  ∀ v G2 H2, Nx G H G2 H2 → Rp G2 v (.list ((bs.mergeSort (dataLe false enc)).map enc)) → Q v H2
theorem cr_so {β : Type} {enc : β → PyData} {X : Cx} (hu : X.A.units + 64 < cLine) : CallR X (.builtin "sorted") (rSo enc) := by
  intro pins s σ H vs us Q I r h
  obtain ⟨G, bs, sg, rl, c, hl, hd, q⟩ := h
  cases rl with
  | cons a t =>
    cases t
    cases a with
    | @lst p xs _ e k =>
      obtain ⟨its, rv, pl, _⟩ := I.list (SqL.of (sg _ _ e))
      rw [Vals.ref1 r]
      have ea := each_of k rv
      have hL : bs.length ≤ sizeLine := sz_of hl
      refine sorted_any pl.isList ea (each_reads I sg ea) c hL (fun b hb => by have := hd b hb; omega) fun out ho => ?_
      obtain ⟨ys, rv2, k2⟩ := of_each ho
      obtain ⟨ep, he⟩ := sortedAll_at s.heap its (List.toArray out)
      have fr : H (s.heap.objs.size + 1) = none := I.hok.fresh (Nat.le_succ _)
      have hlen : ys.length ≤ sizeLine := by
        rw [k2.len, List.length_map, List.length_mergeSort]
        exact hL
      have hn := Nx.new (o := .lst ys) sg fr
      exact ⟨.ref _, upd H (s.heap.objs.size + 1) (.lst ys), I.laid (t' := s.toks) (fun _ _ => sortedAll_old) (Nat.le_succ _) ⟨hlen, out, ep, rv2, he⟩, rfl, q _ _ _ hn (.lst upd_same (k2.up hn.gg))⟩
theorem callD_so {β : Type} {enc : β → PyData} {bs : List β} (c : CanSort (bs.map enc)) (hl : bs.length ≤ 100000) (hd : ∀ b ∈ bs, (enc b).depth ≤ 20) : CallD (rSo enc) [.list (bs.map enc)] (.list ((bs.mergeSort (dataLe false enc)).map enc)) :=
  fun G H xs s r Q q => ⟨G, bs, s, r, c, hl, hd, q⟩
end Ms

set_option Elab.async false
set_option linter.all false
set_option maxRecDepth 100000
/-! The data of the program: sets (tuples of ints), families; their order; sorting by insertion. -/
namespace Ms
open PySem PySem.Spec PyProof.Rows L2 PySem.W
/-! ### strict orders -/
structure Lin {α : Type} (lt : α → α → Bool) : Prop where
  irr : ∀ a, lt a a = false
  tr : ∀ a b c, lt a b = true → lt b c = true → lt a c = true
  tot : ∀ a b, lt a b = false → lt b a = false → a = b
theorem Lin.asym {α : Type} {lt : α → α → Bool} (L : Lin lt) {a b : α} (h : lt a b = true) : lt b a = false := by
  cases q : lt b a with
  | false => rfl
  | true =>
    have z := L.tr a b a h q
    rw [L.irr] at z
    cases z
theorem lin_int : Lin ltI where
  irr := fun a => by unfold ltI; simp
  tr := fun a b c h1 h2 => by
    unfold ltI at *
    simp only [decide_eq_true_eq] at *
    omega
  tot := fun a b h1 h2 => by
    unfold ltI at *
    simp only [decide_eq_false_iff_not] at *
    omega
theorem lexB_cons {α : Type} [DecidableEq α] (lt : α → α → Bool) (x y : α) (xs ys : List α) : lexB lt (x :: xs) (y :: ys) = if x = y then lexB lt xs ys else lt x y := rfl
theorem lin_lex {α : Type} [DecidableEq α] {lt : α → α → Bool} (L : Lin lt) : Lin (lexB lt) where
  irr := by
    intro a
    induction a with
    | nil => rfl
    | cons x xs ih => rw [lexB_cons, if_pos rfl, ih]
  tr := by
    intro a
    induction a with
    | nil =>
      intro b c h1 h2
      cases b with
      | nil => cases h1
      | cons y ys =>
        cases c with
        | nil => cases h2
        | cons z zs => rfl
    | cons x xs ih =>
      intro b c h1 h2
      cases b with
      | nil => cases h1
      | cons y ys =>
        cases c with
        | nil => cases h2
        | cons z zs =>
          rw [lexB_cons] at h1 h2 ⊢
          by_cases e1 : x = y
          · subst e1
            rw [if_pos rfl] at h1
            by_cases e2 : x = z
            · subst e2
              rw [if_pos rfl] at h2 ⊢
              exact ih ys zs h1 h2
            · rw [if_neg e2] at h2 ⊢
              exact h2
          · rw [if_neg e1] at h1
            by_cases e2 : y = z
            · subst e2
              rw [if_neg e1]
              exact h1
            · rw [if_neg e2] at h2
              have e3 : x ≠ z := fun e => by
                subst e
                rw [L.asym h1] at h2
                cases h2
              rw [if_neg e3]
              exact L.tr x y z h1 h2
  tot := by
    intro a
    induction a with
    | nil =>
      intro b h1 h2
      cases b with
      | nil => rfl
      | cons y ys => cases h1
    | cons x xs ih =>
      intro b h1 h2
      cases b with
      | nil => cases h2
      | cons y ys =>
        rw [lexB_cons] at h1 h2
        by_cases e : x = y
        · subst e
          rw [if_pos rfl] at h1 h2
          rw [ih ys h1 h2]
        · rw [if_neg e] at h1
          rw [if_neg (Ne.symm e)] at h2
          exact absurd (L.tot x y h1 h2) e
theorem lin_S : Lin ltS := lin_lex lin_int
theorem lin_F : Lin ltF := lin_lex lin_S
/-! ### insertion -/
section
variable {α : Type} {lt : α → α → Bool}
theorem ins_perm (x : α) : ∀ l : List α, (ins lt x l).Perm (x :: l)
  | [] => List.Perm.refl _
  | y :: ys => by
    unfold ins
    split
    · exact ((ins_perm x ys).cons y).trans (List.Perm.swap x y ys)
    · exact List.Perm.refl _
theorem isort_perm : ∀ l : List α, (isort lt l).Perm l
  | [] => List.Perm.refl _
  | x :: xs => (ins_perm x (isort lt xs)).trans ((isort_perm xs).cons x)
theorem ins_up (L : Lin lt) (x : α) : ∀ l : List α, l.Pairwise (fun a b => lt b a = false) → (ins lt x l).Pairwise (fun a b => lt b a = false)
  | [], _ => List.pairwise_singleton _ _
  | y :: ys, h => by
    obtain ⟨h1, h2⟩ := List.pairwise_cons.mp h
    unfold ins
    split
    · rename_i c
      refine List.pairwise_cons.mpr ⟨fun z hz => ?_, ins_up L x ys h2⟩
      rcases List.mem_cons.mp ((ins_perm x ys).mem_iff.mp hz) with e | hz
      · rw [e]
        exact L.asym c
      · exact h1 z hz
    · rename_i c
      have c' : lt y x = false := by simpa using c
      refine List.pairwise_cons.mpr ⟨fun z hz => ?_, h⟩
      rcases List.mem_cons.mp hz with e | hz
      · rw [e]
        exact c'
      · cases q : lt z x with
        | false => rfl
        | true =>
          have hzy := h1 z hz
          -- z < x and not y < x, so x <= y <= z
          cases r : lt x y with
          | true =>
            have k := L.tr z x y q r
            rw [hzy] at k
            cases k
          | false =>
            have e := L.tot x y r c'
            rw [e, hzy] at q
            cases q
theorem isort_up (L : Lin lt) : ∀ l : List α, (isort lt l).Pairwise (fun a b => lt b a = false)
  | [] => List.Pairwise.nil
  | x :: xs => ins_up L x _ (isort_up L xs)
theorem perm_eq (L : Lin lt) : ∀ (l m : List α), l.Perm m → l.Pairwise (fun a b => lt b a = false) → m.Pairwise (fun a b => lt b a = false) → l = m
  | [], m, p, _, _ => (List.Perm.nil_eq p)
  | x :: xs, m, p, h, k => by
    cases m with
    | nil => exact absurd (List.Perm.length_eq p) (by simp)
    | cons y ys =>
      obtain ⟨h1, h2⟩ := List.pairwise_cons.mp h
      obtain ⟨k1, k2⟩ := List.pairwise_cons.mp k
      have e : x = y := by
        rcases List.mem_cons.mp (p.mem_iff.mp List.mem_cons_self) with e | hx
        · exact e
        · rcases List.mem_cons.mp (p.symm.mem_iff.mp List.mem_cons_self) with e | hy
          · exact e.symm
          · exact L.tot x y (k1 x hx) (h1 y hy)
      subst e
      rw [perm_eq L xs ys ((List.perm_cons x).mp p) h2 k2]
theorem msort_is (L : Lin lt) (l : List α) : l.mergeSort (fun a b => !lt b a) = isort lt l := by
  refine perm_eq L _ _ ((List.mergeSort_perm l _).trans (isort_perm l).symm) ?_ (isort_up L l)
  have s := List.pairwise_mergeSort (le := fun a b => !lt b a) (fun a b c h1 h2 => ?_) (fun a b => ?_) l
  · exact s.imp fun h => by simpa using h
  · simp only [Bool.not_eq_true'] at *
    cases q : lt c a with
    | false => rfl
    | true =>
      -- c < a, not b < a, not c < b
      cases r : lt a b with
      | true =>
        have k := L.tr c a b q r
        rw [h2] at k
        cases k
      | false =>
        have e := L.tot a b r h1
        rw [e, h2] at q
        cases q
  · cases q : lt b a with
    | false => rfl
    | true =>
      rw [L.asym q]
      rfl
end
/-! ### data -/
section
variable {α : Type} [DecidableEq α]
/-- data of one kind, told apart by == and ordered by < as lt does -/
structure Kd (enc : α → PyData) (lt : α → α → Bool) (n : Nat) : Prop where
  al : ∀ a b, alike (enc a) (enc b) = true
  eq : ∀ a b, PyData.eqv (enc a) (enc b) = decide (a = b)
  lt : ∀ a b, dataLt (enc a) (enc b) = lt a b
  lay : ∀ a, (enc a).canLay0 = true
  dp : ∀ a, (enc a).depth ≤ n
theorem kd_int : Kd (α := Int) PyData.int ltI 0 where
  al := fun a b => by simp [alike]
  eq := fun a b => by
    simp only [PyData.eqv]
    exact Bool.beq_eq_decide_eq a b
  lt := fun a b => dataLt_int a b
  lay := fun a => by simp [PyData.canLay0]
  dp := fun a => by simp [PyData.depth]
variable {enc : α → PyData} {lt : α → α → Bool} {n : Nat}
theorem Kd.alAll (k : Kd enc lt n) : ∀ xs ys : List α, alikeAll (xs.map enc) (ys.map enc) = true
  | [], _ => by simp [alikeAll]
  | _ :: _, [] => by simp [alikeAll]
  | x :: xs, y :: ys => by
    have ih := k.alAll xs ys
    simp only [List.map_cons, alikeAll, k.al x y, ih, Bool.and_self]
theorem Kd.eqAll (k : Kd enc lt n) : ∀ xs ys : List α, PyData.eqvAll (xs.map enc) (ys.map enc) = decide (xs = ys)
  | [], [] => by simp [PyData.eqvAll]
  | [], _ :: _ => by simp [PyData.eqvAll]
  | _ :: _, [] => by simp [PyData.eqvAll]
  | x :: xs, y :: ys => by
    have ih := k.eqAll xs ys
    simp only [List.map_cons, PyData.eqvAll, k.eq x y, ih]
    by_cases e : x = y
    · by_cases e2 : xs = ys <;> simp [e, e2]
    · simp [e]
theorem Kd.layAll (k : Kd enc lt n) : ∀ xs : List α, PyData.canLayAll0 (xs.map enc) = true
  | [] => by simp [PyData.canLayAll0]
  | x :: xs => by
    have ih := k.layAll xs
    simp only [List.map_cons, PyData.canLayAll0, k.lay x, ih, Bool.and_self]
theorem Kd.dpAll (k : Kd enc lt n) : ∀ xs : List α, PyData.depthAll (xs.map enc) ≤ n
  | [] => by simp [PyData.depthAll]
  | x :: xs => by
    have ih := k.dpAll xs
    have h := k.dp x
    simp only [List.map_cons, PyData.depthAll]
    omega
theorem Kd.ltAll (k : Kd enc lt n) : ∀ xs ys : List α, PyProof.Rows.lexLt itemOrd (keyToksAll (xs.map enc)) (keyToksAll (ys.map enc)) = lexB lt xs ys
  | [], [] => lex_irrefl _
  | [], y :: ys => by
    simp only [List.map_cons, List.map_nil, toks_all_cons]
    simp only [keyToksAll]
    rw [lex_diff (O := itemOrd) (by simp)]
    rfl
  | x :: xs, [] => by
    simp only [List.map_cons, List.map_nil, toks_all_cons]
    simp only [keyToksAll]
    rw [lex_diff (O := itemOrd) (by simp)]
    rfl
  | x :: xs, y :: ys => by
    have ih := k.ltAll xs ys
    simp only [List.map_cons]
    rw [dataLt_cons (k.al x y), ih, k.lt x y, k.eq x y, lexB_cons]
    by_cases e : x = y <;> simp [e]
theorem Kd.tup (k : Kd enc lt n) : Kd (fun xs : List α => PyData.tuple (xs.map enc)) (lexB lt) (n + 1) where
  al := fun a b => by
    simp only [alike]
    exact k.alAll a b
  eq := fun a b => by
    simp only [PyData.eqv]
    exact k.eqAll a b
  lt := fun a b => by
    rw [dataLt_tuple]
    exact k.ltAll a b
  lay := fun a => by
    simp only [PyData.canLay0]
    exact k.layAll a
  dp := fun a => by
    have h := k.dpAll a
    simp only [PyData.depth]
    omega
theorem Kd.allAlike (k : Kd enc lt n) (xs : List α) : AllAlike (xs.map enc) := AllAlike.of k.al
theorem Kd.sort (k : Kd enc lt n) (L : Lin lt) (xs : List α) : xs.mergeSort (dataLe false enc) = isort lt xs := by
  rw [← msort_is L]
  congr 1
  funext a b
  show (!dataLt (enc b) (enc a)) = _
  rw [k.lt b a]
theorem Kd.shaped (k : Kd enc lt n) (hn : n ≤ 64) (a : α) : SeqAt.shaped (enc a) = true := by
  have h := k.dp a
  show ((enc a).canLay0 && decide ((enc a).depth ≤ 64)) = true
  rw [k.lay a, decide_eq_true (by omega)]
  rfl
end
def encS (s : S) : PyData := .tuple (s.map .int)
def encF (f : F) : PyData := .tuple (f.map encS)
def encL (f : F) : PyData := .list (f.map encS)
theorem kd_S : Kd encS ltS 1 := kd_int.tup
theorem kd_F : Kd encF ltF 2 := kd_S.tup
/-- sorted of sets, none of them empty, or the first one -/
theorem can_S {f : F} (h : (∀ s ∈ f, s ≠ []) ∨ ∃ r, f = [] :: r) : CanSort (f.map encS) := by
  refine ⟨kd_S.allAlike f, ?_⟩
  rcases h with h | ⟨r, rfl⟩
  · refine .inl (.inl fun d hd => ?_)
    obtain ⟨s, hs, rfl⟩ := List.mem_map.mp hd
    cases s with
    | nil => exact absurd rfl (h _ hs)
    | cons x xs => exact ⟨_, _, rfl⟩
  · refine .inr ⟨r.map encS, rfl, fun d hd => ?_⟩
    obtain ⟨s, _, rfl⟩ := List.mem_map.mp hd
    exact ⟨_, rfl⟩
theorem can_F {ff : List F} (h : ∀ f ∈ ff, f ≠ []) : CanSort (ff.map encF) := by
  refine ⟨kd_F.allAlike ff, .inl (.inl fun d hd => ?_)⟩
  obtain ⟨f, hf, rfl⟩ := List.mem_map.mp hd
  cases f with
  | nil => exact absurd rfl (h _ hf)
  | cons x xs => exact ⟨_, _, rfl⟩
theorem callD_sortS {f : F} (h : (∀ s ∈ f, s ≠ []) ∨ ∃ r, f = [] :: r) (hl : f.length ≤ 100000) : CallD (rSo encS) [.list (f.map encS)] (.list ((isort ltS f).map encS)) := by
  rw [← kd_S.sort lin_S f]
  exact callD_so (can_S h) hl fun s _ => Nat.le_trans (kd_S.dp s) (by decide)
theorem callD_sortF {ff : List F} (h : ∀ f ∈ ff, f ≠ []) (hl : ff.length ≤ 100000) : CallD (rSo encF) [.list (ff.map encF)] (.list ((isort ltF ff).map encF)) := by
  rw [← kd_F.sort lin_F ff]
  exact callD_so (can_F h) hl fun s _ => Nat.le_trans (kd_F.dp s) (by decide)
end Ms

set_option Elab.async false
set_option linter.all false
set_option maxRecDepth 100000
/-! Operators on known data: t + u, x in t, t >= u; list.count, list.index of bools. -/
namespace Ms
open PySem PySem.Spec PyProof.Rows L2 PySem.W
open PySem.SeqAt (room_here room_in)
/-! ### t + u -/
theorem opD_catA {K : PySem.W.Frag} {xs ys : List PyData} (hl : xs.length + ys.length ≤ 100000) : OpD (rCatA K) (.tuple xs) (.tuple ys) (.tuple (xs ++ ys)) := fun G H x y s r1 r2 Q q => by
  cases r1 with
  | @tup a vs _ e1 k1 =>
    cases r2 with
    | @tup b us _ e2 k2 =>
      refine ⟨a, b, vs, us, rfl, rfl, SqT.of (s _ _ e1), SqT.of (s _ _ e2), by rw [k1.len, k2.len]; exact sz_of hl, fun h => ?_, fun _ h => ?_, fun _ _ p hp => q _ _ _ (.new s hp) (.tup upd_same ((k1.app k2).up (Nx.new (o := .tup (vs ++ us)) s hp).gg))⟩
      · subst h
        cases k1
        exact q _ G H (.refl s) (.tup e2 k2)
      · subst h
        cases k2
        exact q _ G H (.refl s) (by rw [List.append_nil]; exact .tup e1 k1)
/-! ### x in t, data -/
section
variable {X : Cx}
def rInT (K : PySem.W.Frag) : R2 := fun x y H Q => ∃ d ds, Dp K H x d ∧ Dp K H y (.tuple ds) ∧ SeqAt.shaped d = true ∧ SeqAt.shaped (.tuple ds) = true ∧ Q (.bl (ds.any fun z => PyData.eqv z d)) H
theorem op_inT (hu : X.A.units + 66 < cLine) : OpR X (compareOp .In) (rInT X.K) := by
  intro pins s σ H x y v u Q I rx ry h
  obtain ⟨d, ds, hd, he, sd, se, q⟩ := h
  obtain ⟨as, r1⟩ := Dp.reads I d x v hd rx
  obtain ⟨bs, r2⟩ := Dp.reads I (.tuple ds) y u he ry
  have lay : PyData.canLayAll0 ds = true := by
    have z := SeqAt.canLay_of_shaped se
    simpa only [PyData.canLay0] using z
  have dp : d.depth ≤ 64 := by
    have z : (d.canLay0 && decide (d.depth ≤ 64)) = true := sd
    rw [Bool.and_eq_true] at z
    exact of_decide_eq_true z.2
  exact SeqAt.in_tuple_reads r2 r1 lay (SeqAt.canLay_of_shaped sd) (by omega) ⟨.bl _, H, I, rfl, q⟩
end
theorem any_enc {α : Type} [DecidableEq α] {enc : α → PyData} {lt : α → α → Bool} {n : Nat} (k : Kd enc lt n) (a : α) : ∀ l : List α, (l.map enc).any (fun z => PyData.eqv z (enc a)) = l.any fun t => decide (t = a)
  | [] => rfl
  | x :: xs => by
    have ih := any_enc k a xs
    show (PyData.eqv (enc x) (enc a) || (xs.map enc).any fun z => PyData.eqv z (enc a)) = (decide (x = a) || xs.any fun t => decide (t = a))
    rw [ih, k.eq]
theorem opD_inF {K : PySem.W.Frag} {s : S} {f : F} : OpD (rInT K) (encS s) (encF f) (.bool (inF s f)) := fun G H x y sg r1 r2 Q q => by
  refine ⟨encS s, f.map encS, (r1.up sg).dp _ x, (r2.up sg).dp _ y, kd_S.shaped (by decide) s, kd_F.shaped (by decide) f, ?_⟩
  rw [any_enc kd_S s f]
  exact q _ G H (.refl sg) (.bl _)
theorem opD_eqS {K : PySem.W.Frag} {a b : S} : OpD (rEqD K) (encS a) (encS b) (.bool (decide (a = b))) := by
  rw [← kd_S.eq a b]
  exact opD_eqD (kd_S.shaped (by decide) a) (kd_S.shaped (by decide) b)
/-! ### t >= u -/
theorem lexAt_shift {e r : Nat → Bool} {z : Bool} : ∀ k i, Ob.lexAt e r z (i + 1) k = Ob.lexAt (fun j => e (j + 1)) (fun j => r (j + 1)) z i k
  | 0, i => rfl
  | k + 1, i => by
    rw [Ob.lexAt_succ, Ob.lexAt_succ, lexAt_shift k (i + 1)]
theorem ge_lex {α : Type} [DecidableEq α] (lt : α → α → Bool) (d : α) : ∀ xs ys : List α,
    Ob.lexAt (fun j => decide (xs.getD j d = ys.getD j d)) (fun j => !lt (xs.getD j d) (ys.getD j d)) (decide (xs.length ≥ ys.length)) 0 (min xs.length ys.length) = !lexB lt xs ys
  | [], [] => rfl
  | [], y :: ys => by
    rw [show min ([] : List α).length (y :: ys).length = 0 by simp, Ob.lexAt_zero]
    simp [lexB]
  | x :: xs, [] => by
    rw [show min (x :: xs).length ([] : List α).length = 0 by simp, Ob.lexAt_zero]
    simp [lexB]
  | x :: xs, y :: ys => by
    have ih := ge_lex lt d xs ys
    rw [show min (x :: xs).length (y :: ys).length = min xs.length ys.length + 1 by simp, Ob.lexAt_succ, lexAt_shift, lexB_cons]
    have ez : decide ((x :: xs).length ≥ (y :: ys).length) = decide (xs.length ≥ ys.length) := decide_eq_decide.mpr (by simp)
    rw [ez]
    by_cases e : x = y
    · rw [if_pos e, ← ih, if_pos (by simpa using e)]
      rfl
    · rw [if_neg e, if_neg (by simpa using e)]
      rfl
theorem reads_at {α : Type} {h : Heap} {enc : α → PyData} (d : α) : ∀ {xs : List α} {vs : List Value} {as : List Addr}, ReadsAll h vs (xs.map enc) as → ∀ j (hj : j < vs.length), ∃ bs, Reads h vs[j] (enc (xs.getD j d)) bs
  | [], _, _, r, j, hj => by
    have r' : ReadsAll h _ [] _ := r
    cases r'
    exact absurd hj (Nat.not_lt_zero _)
  | x :: xs, _, _, r, j, hj => by
    have r' : ReadsAll h _ (enc x :: xs.map enc) _ := r
    cases r' with
    | cons h1 h2 =>
      cases j with
      | zero => exact ⟨_, h1⟩
      | succ j => exact reads_at d h2 j (Nat.lt_of_succ_lt_succ hj)
def GeOk {α : Type} (enc : α → PyData) (lt : α → α → Bool) (n : Nat) : Prop := ∀ (A : Around) (s : Shared) (a b : α) (u v : Value) (as bs : List Addr), Reads s.heap u (enc a) as → Reads s.heap v (enc b) bs → A.units + n < cLine → Ob.RcOp .GtE A s u v (!lt a b)
theorem ge_int : GeOk (α := Int) PyData.int ltI 0 := fun A s a b u v as bs r1 r2 _ => by
  cases r1
  cases r2
  have e : (!ltI a b) = decide (b ≤ a) := by
    unfold ltI
    by_cases h : a < b
    · rw [decide_eq_true h, decide_eq_false (by omega)]
      rfl
    · rw [decide_eq_false h, decide_eq_true (by omega)]
      rfl
  rw [e]
  exact Ob.RcOp.ge_int _ _ _ _
theorem ge_tup {α : Type} [DecidableEq α] {enc : α → PyData} {lt : α → α → Bool} {n : Nat} (d : α) (k : Kd enc lt n) (g : GeOk enc lt n) : GeOk (fun xs : List α => PyData.tuple (xs.map enc)) (lexB lt) (n + 1) := fun A s a b u v as bs r1 r2 hu => by
  cases r1 with
  | @tuple l o us m _ _ h1 h2 h3 h4 =>
    cases r2 with
    | @tuple l' o' us' m' _ _ k1 k2 k3 k4 =>
      have n1 : us.size = a.length := by simpa using SeqAt.ReadsAll.length _ _ _ h4
      have n2 : us'.size = b.length := by simpa using SeqAt.ReadsAll.length _ _ _ k4
      have hu1 : A.in1.units + n < cLine := by
        show A.units + 1 + n < cLine
        omega
      rw [← ge_lex lt d a b, ← n1, ← n2]
      refine Ob.RcOp.tuples_ge ⟨_, h1, h2, _, h3⟩ ⟨_, k1, k2, _, k3⟩ (by omega) (fun j j1 j2 => ?_) (fun j j1 j2 _ => ?_)
      · obtain ⟨x1, q1⟩ := reads_at d h4 j (by simpa using j1)
        obtain ⟨x2, q2⟩ := reads_at d k4 j (by simpa using j2)
        have z := eqAt_alike _ _ A.in1 s _ _ _ _ q1 q2 (k.al _ _) (by
          have y1 := k.dp (a.getD j d)
          omega)
        rw [k.eq] at z
        simpa using z
      · obtain ⟨x1, q1⟩ := reads_at d h4 j (by simpa using j1)
        obtain ⟨x2, q2⟩ := reads_at d k4 j (by simpa using j2)
        have z := g A.in1 s _ _ _ _ _ _ q1 q2 hu1
        simpa using z
theorem ge_S : GeOk encS ltS 1 := ge_tup 0 kd_int ge_int
theorem ge_F : GeOk encF ltF 2 := ge_tup [] kd_S ge_S
section
variable {X : Cx}
def rGeF (K : PySem.W.Frag) : R2 := fun x y H Q => ∃ a b : F, Dp K H x (encF a) ∧ Dp K H y (encF b) ∧ Q (.bl (!ltF a b)) H
theorem op_geF (hu : X.A.units + 64 < cLine) : OpR X (compareOp .GtE) (rGeF X.K) := by
  intro pins s σ H x y v u Q I rx ry h
  obtain ⟨a, b, hd, he, q⟩ := h
  obtain ⟨as, r1⟩ := Dp.reads I (encF a) x v hd rx
  obtain ⟨bs, r2⟩ := Dp.reads I (encF b) y u he ry
  have z : wpAny (model X.prog X.w) X.A (compareOp .GtE v u) (EP X pins σ Q) X.xe s := ge_F X.A s a b v u as bs r1 r2 (by omega) X.prog X.w X.xe (EP X pins σ Q) ⟨.bl _, H, I, rfl, q⟩
  exact z
end
theorem opD_geF {K : PySem.W.Frag} {a b : F} : OpD (rGeF K) (encF a) (encF b) (.bool (!ltF a b)) := fun G H x y sg r1 r2 Q q =>
  ⟨a, b, (r1.up sg).dp _ x, (r2.up sg).dp _ y, q _ G H (.refl sg) (.bl _)⟩
/-! ### methods of a known list -/
def MtD (r : V → List V → Hp → VK → Prop) (d : PyData) (ds : List PyData) (e : PyData) : Prop := ∀ G H x xs, Same G H → Rp G x d → RpL G xs ds → ∀ Q : VK, (∀ v G2 H2, Nx G H G2 H2 → Rp G2 v e → Q v H2) → r x xs H Q
theorem ev_bmL {r : V → List V → Hp → VK → Prop} {to : TE} {ta : TA} {σ : Sl} {G : Hp} {xs ds : List PyData} {e : PyData} {K : PySem.W.Frag} (h : EvD to σ G (.list xs)) (ha : EvA ta σ G ds) (hm : MtD r (.list xs) ds e) : EvD (tBM K "list" r to ta) σ G e := fun H s Q q =>
  h H s _ fun v G1 H1 n1 r1 => by
    refine ⟨?_, (ha.up n1.gg) H1 n1.gh _ fun vs G2 H2 n2 r2 => hm G2 H2 v vs n2.gh (r1.up n2.gg) r2 Q fun v' G3 H3 n3 r3 => q v' G3 H3 ((n1.trans n2).trans n3) r3⟩
    cases r1 with
    | @lst a us _ e1 k => exact Or.inl ⟨rfl, us, SqL.of (n1.gh _ _ e1)⟩
/-- xs.count(b), bools -/
def rCntB (K : PySem.W.Frag) : V → List V → Hp → VK → Prop := fun x xs H Q => ∃ (p : Addr) (bs : List Bool) (b : Bool), x = .ref p ∧ xs = [.bl b] ∧ SqL K H p (bs.map V.bl) ∧ Q (.int (bs.count b : Nat)) H
theorem flat_bls : ∀ bs : List Bool, (bs.map V.bl).all flatV = true
  | [] => rfl
  | b :: bs => by
    show (flatV (.bl b) && (bs.map V.bl).all flatV) = true
    rw [flat_bls bs]
    rfl
theorem cnt_bls (b : Bool) : ∀ {bs : List Bool} {us : List Value}, Vals (bs.map V.bl) us → us.countP (eqU (.bl b)) = bs.count b
  | [], _, r => by
    cases r
    rfl
  | c :: bs, _, r => by
    cases r with
    | cons r1 r2 =>
      have ih := cnt_bls b r2
      cases r1
      rw [List.countP_cons, List.count_cons, ih]
      have e : eqU (.bl b) (Value.bool c) = (c == b) := by cases b <;> cases c <;> rfl
      rw [e]
theorem mt_cntB {X : Cx} : MtR X "list.count" (rCntB X.K) := by
  intro pins s σ H x xs v us Q I rx rxs h
  obtain ⟨p, bs, b, rfl, rfl, hs, q⟩ := h
  cases rx
  obtain ⟨u, rfl, ru⟩ := rxs.one
  cases ru
  obtain ⟨its, rv, ⟨⟨cls, dd, data, sl⟩, n, ho, hc, hdn, hd⟩, hlen⟩ := I.list hs
  simp only at hc hd
  subst hc hd
  refine call_meets PySem.F.slot_list_count ⟨_, ho, rfl⟩ PySem.F.entry_list_count (PySem.F.args_list_count_2 _ _)
    (SeqAt.list_countAt p its.toArray n dd sl (.bool b) (eqU (.bl b))) ⟨ho, fun y hy => mem_eqAt (x := .bl b) rfl rfl rv (flat_bls bs) y (by simpa using hy), ?_⟩
  refine ⟨.int (bs.count b : Nat), H, I.tok _, ⟨s.toks, ?_⟩, q⟩
  have ec : its.toArray.toList.countP (eqU (.bl b)) = bs.count b := cnt_bls b rv
  show Value.int ((its.toArray.toList.countP (eqU (.bl b)) : Nat) : Int) s.toks = Value.int ((bs.count b : Nat) : Int) s.toks
  rw [ec]
theorem rpl_bls {G : Hp} : ∀ {bs : List Bool} {vs : List V}, RpL G vs (bs.map PyData.bool) → vs = bs.map V.bl
  | [], _, h => by cases h; rfl
  | b :: bs, _, h => by
    cases h with
    | cons a t =>
      cases a
      rw [rpl_bls t]
      rfl
theorem mtD_cntB {K : PySem.W.Frag} {bs : List Bool} {b : Bool} : MtD (rCntB K) (.list (bs.map .bool)) [.bool b] (.int (bs.count b : Nat)) := fun G H x xs s r1 r2 Q q => by
  cases r2 with
  | cons a t =>
    cases t
    cases a
    cases r1 with
    | @lst p us _ e k =>
      have ev := rpl_bls k
      subst ev
      exact ⟨p, bs, b, rfl, rfl, SqL.of (s _ _ e), q _ G H (.refl s) (.int _)⟩
theorem mtD_idxB {K : PySem.W.Frag} {bs : List Bool} {b : Bool} {j : Nat} (h : bs[j]? = some b) (hn : ∀ m, m < j → ∀ c, bs[m]? = some c → c ≠ b) : MtD (rIndex K) (.list (bs.map .bool)) [.bool b] (.int (j : Nat)) := fun G H x xs s r1 r2 Q q => by
  cases r2 with
  | cons a t =>
    cases t
    cases a
    cases r1 with
    | @lst p us _ e k =>
      have ev := rpl_bls k
      subst ev
      refine ⟨p, bs.map V.bl, .bl b, j, .bl b, rfl, rfl, SqL.of (s _ _ e), rfl, flat_bls bs, by rw [List.getElem?_map, h]; rfl, by cases b <;> rfl, fun m z hm hz => ?_, q _ G H (.refl s) (.int _)⟩
      rw [List.getElem?_map] at hz
      cases e2 : bs[m]? with
      | none =>
        rw [e2] at hz
        cases hz
      | some c =>
        rw [e2] at hz
        cases hz
        have ne := hn m hm c e2
        cases b <;> cases c <;> first | rfl | exact absurd rfl ne
end Ms

set_option Elab.async false
set_option linter.all false
set_option maxRecDepth 100000
/-! sorted(dict([(s, True) for s in sets])): the sets, each once, rising. -/
namespace Ms
open PySem PySem.Spec PyProof.Rows L2 PySem.W
/-- at d a plain dict whose keys are the objects at as, in this order -/
def keysO (d : Addr) (as : List Addr) : HO := .ext fun h => ∃ es ep, h.DictRaw d es ep ∧ es.toList.map (·.key) = as.map Value.ref
theorem keysO_ok {P : Program} {w : World} {H : Hp} {h : Heap} {d : Addr} {as : List Addr} (x : ∃ es ep, h.DictRaw d es ep ∧ es.toList.map (·.key) = as.map Value.ref) : ObjOk P w H h d (keysO d as) := by
  obtain ⟨es, ep, hd, hk⟩ := id x
  obtain ⟨o, ho, _⟩ := id hd
  exact ⟨x, ⟨o, ho⟩, fun h1 h2 y k => by
    obtain ⟨es, ep, hd, hk⟩ := y
    exact ⟨es, ep, hd.at fun o e => k o e, hk⟩⟩
theorem keysO_at {P : Program} {w : World} {H : Hp} {h : Heap} {d : Addr} {as : List Addr} (ok : HOk P w H h) (e : H d = some (keysO d as)) : ∃ es ep, h.DictRaw d es ep ∧ es.toList.map (·.key) = as.map Value.ref := by
  have x : ObjOk P w H h d (.ext fun h => ∃ es ep, h.DictRaw d es ep ∧ es.toList.map (·.key) = as.map Value.ref) := ok d _ e
  exact x.1
/-- the places of the pairs, of the sets -/
theorem pairs_of {G : Hp} : ∀ {f : F} {xs : List V}, RpL G xs (f.map fun s => PyData.tuple [encS s, .bool true]) → ∃ ta : List (Addr × Addr), ta.length = f.length ∧ xs = ta.map (fun p => V.ref p.1) ∧
    (∀ p ∈ ta, G p.1 = some (.tup [.ref p.2, .bl true])) ∧ RpL G (ta.map fun p => V.ref p.2) (f.map encS)
  | [], _, h => by
    cases h
    exact ⟨[], rfl, rfl, (fun _ hp => nomatch hp), .nil⟩
  | s :: f, _, h => by
    cases h with
    | cons a t =>
      obtain ⟨ta, h1, h2, h3, h4⟩ := pairs_of t
      cases a with
      | @tup T ys _ e k =>
        cases k with
        | cons a1 t1 =>
          cases t1 with
          | cons b1 t2 =>
            cases t2
            cases b1
            have a1' : Rp G _ (.tuple (s.map .int)) := a1
            cases a1' with
            | @tup b zs _ eb kb =>
              refine ⟨(T, b) :: ta, by simp [h1], by rw [h2]; rfl, fun p hp => ?_, .cons (.tup eb kb) h4⟩
              rcases List.mem_cons.mp hp with q | q
              · rw [q]
                exact e
              · exact h3 p q
theorem ref_key {G : Hp} {s : S} {b : Addr} (h : Rp G (.ref b) (encS s)) : G b = some (.tup (s.map V.int)) := by
  have h' : Rp G (.ref b) (.tuple (s.map .int)) := h
  cases h' with
  | tup e k => rw [e, rpl_ints k]
theorem rpl_refs {G : Hp} : ∀ {f : F} {as : List Addr}, RpL G (as.map V.ref) (f.map encS) → ∀ (i : Nat) (s : S) (b : Addr), (f : List S)[i]? = some s → as[i]? = some b → Rp G (.ref b) (encS s) := fun {f as} h i s b hf hb => by
  obtain ⟨d, hd, r⟩ := h.at (i := i) (v := V.ref b) (by rw [List.getElem?_map, hb]; rfl)
  rw [List.getElem?_map, hf] at hd
  cases hd
  exact r
section
variable {X : Cx}
/-- dict(pairs) -/
def rDictT : List V → Hp → VK → Prop := fun vs H Q => ∃ (G : Hp) (f : F), Same G H ∧ RpL G vs [.list (f.map fun s => PyData.tuple [encS s, .bool true])] ∧ f.Nodup ∧ f.length ≤ 100000 ∧
  ∀ as : List Addr, RpL G (as.map V.ref) (f.map encS) → ∀ d, H d = none → (d == sysModules) = false → Q (.ref d) (upd H d (keysO d as))
theorem map_ref_eq : ∀ {ta : List (Addr × Addr)} {us : List Value}, Vals (ta.map fun p => V.ref p.1) us → us = ta.map fun p => Value.ref p.1
  | [], _, r => by
    cases r
    rfl
  | p :: ta, _, r => by
    cases r with
    | cons a t =>
      cases a
      rw [map_ref_eq t]
      rfl
theorem cr_dictT (hc : X.calm = true) (hu : X.A.units + 64 < cLine) : CallR X (.type "dict") rDictT := by
  intro pins s σ H vs us Q I r h
  obtain ⟨G, f, sg, rl, nd, hl, q⟩ := h
  cases rl with
  | cons a t =>
    cases t
    cases a with
    | @lst l xs _ e k =>
      obtain ⟨ta, h1, rfl, h3, h4⟩ := pairs_of k
      obtain ⟨its, rv, pl, _⟩ := I.list (SqL.of (sg _ _ e))
      rw [Vals.ref1 r]
      have ei := map_ref_eq rv
      subst ei
      obtain ⟨ol, nl, hol, hcl, hdl, hsl⟩ := pl
      -- the pairs, as values
      have hlen : ((ta.map fun p => (Value.ref p.2, Value.bool true)) : List (Value × Value)).length = ta.length := List.length_map _
      have pit : PairItems s.heap (ta.map fun p => Value.ref p.1).toArray (fun j => (ta.getD j (0, 0)).1) (ta.map fun p => (Value.ref p.2, Value.bool true)) := by
        refine ⟨by simp, fun j kk v hj => ?_⟩
        rw [List.getElem?_map] at hj
        cases ej : ta[j]? with
        | none =>
          rw [ej] at hj
          cases hj
        | some p =>
          rw [ej] at hj
          cases hj
          have gd : ta.getD j (0, 0) = p := by rw [List.getD_eq_getElem?_getD, ej]; rfl
          dsimp only
          rw [gd]
          refine ⟨by simp [ej], .inl ?_⟩
          have hp := h3 p (List.mem_of_getElem? ej)
          obtain ⟨its2, rv2, pt, _⟩ := I.tuple (a := p.1) (SqT.of (sg _ _ hp))
          cases rv2 with
          | cons y1 y2 =>
            cases y2 with
            | cons y3 y4 =>
              cases y4
              cases y1
              cases y3
              exact pt
      have ok : (fun h => PlainSeq "list" h l (ta.map fun p => Value.ref p.1).toArray ∧ PairItems h (ta.map fun p => Value.ref p.1).toArray (fun j => (ta.getD j (0, 0)).1) (ta.map fun p => (Value.ref p.2, Value.bool true))) s.heap :=
        ⟨⟨ol, nl, hol, hcl, hdl, hsl⟩, pit⟩
      have hisT : ∀ (i : Nat) (sx : S) (b : Addr), (f : List S)[i]? = some sx → (ta.map (·.2))[i]? = some b → IsT X.prog X.w s.heap sx b := fun i sx b hf hb => by
        have k4 : RpL G ((ta.map (·.2)).map V.ref) (f.map encS) := by
          rw [List.map_map]
          exact h4
        exact I.isT (SqT.of (sg _ _ (ref_key (rpl_refs k4 i sx b hf hb))))
      have pz : ((f.zip (ta.map (·.2))).map fun z => (z.1, z.2, Value.bool true)).length = ta.length := by
        rw [List.length_map, List.length_zip, List.length_map, h1]
        exact Nat.min_self _
      refine call_dict_pairsH (knd := tupleKind (intKind X.prog X.w)) (ps := (f.zip (ta.map (·.2))).map fun z => (z.1, z.2, Value.bool true)) (PairArg.list l _ _ _) (I.ok.hd hc) (by show X.A.units + 1 + 1 < cLine; omega) ok ⟨by rw [pz, hlen], fun i key v hr => ?_⟩ (fun h' hk x hx => ?_) (by rw [hlen, h1]; exact sz_of hl) fun h' tk hd' hk => ?_
      · have hr : (ta.map fun p => (Value.ref p.2, Value.bool true))[i]? = some (key, v) := hr
        rw [List.getElem?_map] at hr
        cases ei : ta[i]? with
        | none =>
          rw [ei] at hr
          cases hr
        | some p =>
          rw [ei] at hr
          cases hr
          have hif : i < f.length := by
            rw [← h1]
            exact (List.getElem?_eq_some_iff.mp ei).1
          refine ⟨f[i], p.2, ?_, rfl⟩
          rw [List.getElem?_map, show (f.zip (ta.map (·.2)))[i]? = some (f[i], p.2) from by
            rw [List.getElem?_zip_eq_some]
            exact ⟨List.getElem?_eq_getElem hif, by rw [List.getElem?_map, ei]; rfl⟩]
          rfl
      · obtain ⟨z, hz, rfl⟩ := List.mem_map.mp hx
        obtain ⟨i, hi⟩ := List.getElem?_of_mem hz
        rw [List.getElem?_zip_eq_some] at hi
        have y := hisT i _ _ hi.1 hi.2
        exact tupleKind_stays.stays (fun b o vs n hb _ => hk b o (Nat.ne_of_lt (Heap.lt_size hb)) (fun q => nomatch q) hb) y
      · have keys : ((f.zip (ta.map (·.2))).map fun z => (z.1, z.2, Value.bool true)).map (·.1) = f := by
          rw [List.map_map]
          show (f.zip (ta.map (·.2))).map (fun z => z.1) = f
          exact List.map_fst_zip (by rw [List.length_map, h1]; exact Nat.le_refl _)
        rw [storedAllH_nil_of_nodup _ (by rw [keys]; exact nd)] at hd'
        obtain ⟨es, ep, hr, hs, he⟩ := hd'.raw
        have fr : H s.heap.objs.size = none := I.hok.fresh (Nat.le_refl _)
        have hkk : es.toList.map (·.key) = (ta.map (·.2)).map Value.ref := by
          refine List.ext_getElem? fun i => ?_
          rw [List.getElem?_map, List.getElem?_map, List.getElem?_map]
          by_cases hi : i < es.size
          · obtain ⟨y, hy, ky, _⟩ := he i hi
            rw [List.getElem?_map] at hy
            cases ez : (f.zip (ta.map (·.2)))[i]? with
            | none =>
              rw [ez] at hy
              cases hy
            | some z =>
              rw [ez] at hy
              cases hy
              rw [List.getElem?_zip_eq_some] at ez
              have ez2 := ez.2
              rw [List.getElem?_map] at ez2
              rw [ez2, Array.getElem?_toList, Array.getElem?_eq_getElem hi]
              exact congrArg some ky
          · have h2 : ¬ i < ta.length := by
              rw [pz] at hs
              omega
            rw [Array.getElem?_toList, Array.getElem?_eq_none (by omega), List.getElem?_eq_none (by omega)]
            rfl
        exact ⟨.ref s.heap.objs.size, _, I.laid (t' := tk) (fun b o e => hk b o (fun q => nomatch q) e) (Nat.le_refl _) (keysO_ok ⟨es, ep, hr, hkk⟩), rfl, q (ta.map (·.2)) (by rw [List.map_map]; exact h4) _ fr (beq_eq_false_iff_ne.mpr (Nat.ne_of_gt I.big))⟩
/-- sorted(d), d such a dict -/
def rSortK : List V → Hp → VK → Prop := fun vs H Q => ∃ (G : Hp) (f : F) (d : Addr) (as : List Addr), vs = [.ref d] ∧ Same G H ∧ H d = some (keysO d as) ∧ (d == sysModules) = false ∧ RpL G (as.map V.ref) (f.map encS) ∧ (∀ s ∈ f, s ≠ []) ∧ f.length ≤ 100000 ∧
  ∀ v G2 H2, Nx G H G2 H2 → Rp G2 v (.list ((isort ltS f).map encS)) → Q v H2
theorem vals_map_refs : ∀ as : List Addr, Vals (as.map V.ref) (as.map Value.ref)
  | [] => .nil
  | a :: as => .cons rfl (vals_map_refs as)
theorem not_in_reads {h : Heap} {D : Addr} : ∀ {s : S} {u : Value} {as : List Addr}, Reads h u (encS s) as → (∀ o, h.get? D = some o → o.cls = .type "list") → as = [] := fun {s u as} r hD => by
  have r' : Reads h u (.tuple (s.map .int)) as := r
  cases r' with
  | tuple h1 h2 h3 h4 =>
    clear h1 h2 h3 r
    have : ∀ (ns : List Int) (vs : List Value) (as : List Addr), ReadsAll h vs (ns.map .int) as → as = [] := by
      intro ns
      induction ns with
      | nil =>
        intro vs as k
        have k' : ReadsAll h vs [] as := k
        cases k'
        rfl
      | cons n ns ih =>
        intro vs as k
        have k' : ReadsAll h vs (.int n :: ns.map .int) as := k
        cases k' with
        | cons a b =>
          have e := ih _ _ b
          cases a
          rw [e]
          rfl
    exact this s _ _ h4
theorem cr_sortK (hc : X.calm = true) (hu : X.A.units + 64 < cLine) : CallR X (.builtin "sorted") rSortK := by
  intro pins s σ H vs us Q I r h
  obtain ⟨G, f, d, as, rfl, sg, hd, hsys, rl, hne, hl, q⟩ := h
  rw [Vals.ref1 r]
  obtain ⟨es, ep, hr, hk⟩ := keysO_at I.hok hd
  have hlen : es.size = f.length := by
    have e1 := congrArg List.length hk
    have e2 := rl.len
    simp only [List.length_map, Array.length_toList] at e1 e2
    omega
  refine Calls.call_function_entry kind_sorted plain_sorted entry_sorted (args_sorted1 _) ?_
  unfold Builtin.«sorted»
  refine wpAny_bind (m := checkCount "sorted" 1 1 _) (wpAny_pure ?_)
  refine wpAny_bind (kdu_collect (A := X.A.in1) (KdlSrc.rawDict (es := es) (ep := ep) hsys) (I.ok.hd hc) hr (by rw [hlen]; exact sz_of hl) fun h' tk acc keep hacc => ?_)
  have hacc2 : acc.toList = as.map Value.ref := by
    rw [← hk]
    refine List.ext_getElem? fun i => ?_
    rw [List.getElem?_map, Array.getElem?_toList, Array.getElem?_toList]
    by_cases hi : i < es.size
    · have hi2 : i < acc.size := by rw [hacc.1]; exact hi
      obtain ⟨_, hv⟩ := hacc.2 i acc[i] (Array.getElem?_eq_getElem hi2)
      rw [Array.getElem?_eq_getElem hi2, Array.getElem?_eq_getElem hi, hv]
      rfl
    · rw [Array.getElem?_eq_none (by rw [hacc.1]; omega), Array.getElem?_eq_none (by omega)]
      rfl
  have hl2 : acc.toList.length ≤ sizeLine := by
    rw [Array.length_toList, hacc.1, hlen]
    exact sz_of hl
  refine wpAny_bind (wpAny_newList ?_ hl2)
  have ho : (h'.push (seqObj "list" acc.toList.toArray 0)).get? h'.objs.size = some (seqObj "list" acc.toList.toArray 0) := Heap.get?_push_size _ rfl
  have keep2 : ∀ b o, s.heap.get? b = some o → (h'.push (seqObj "list" acc.toList.toArray 0)).get? b = some o := fun b o e => Heap.get?_push_of_some _ (keep b o e)
  have I2 : Inv X pins σ H { s with heap := h'.push (seqObj "list" acc.toList.toArray 0), toks := tk } := I.kept (t' := tk) keep2
  have ea : EachIs (fun u b => ∃ x, RelV x u ∧ Rp G x (encS b)) acc.toList f := by
    rw [hacc2]
    exact each_of rl (vals_map_refs as)
  have er := each_reads I2 sg ea
  have er2 : EachIs (fun u b => ∃ as, Reads (h'.push (seqObj "list" acc.toList.toArray 0)) u (encS b) as ∧ h'.objs.size ∉ as) acc.toList f := er.mono fun u b ⟨as, rd⟩ => ⟨as, rd, by
    rw [not_in_reads rd (D := h'.objs.size) (fun o e => by
      rw [ho] at e
      cases e
      rfl)]
    exact fun z => nomatch z⟩
  obtain ⟨c1, c2⟩ := can_S (.inl hne)
  have c2' : PySem.W.Sortable (f.map encS) := by
    rcases c2 with c2 | ⟨r0, e0, _⟩
    · exact c2
    · cases f with
      | nil => cases e0
      | cons s0 f0 =>
        have e1 : encS s0 = .tuple [] := (List.cons.inj e0).1
        have e2 : s0 = [] := by
          cases s0 with
          | nil => rfl
          | cons _ _ => exact absurd e1 (by simp [encS])
        exact absurd e2 (hne s0 List.mem_cons_self)
  refine wpAny_bind (wpAny_holding (list_sort_data (A := X.A.in1) (s := { s with heap := h'.push (seqObj "list" acc.toList.toArray 0), toks := tk }) (R := fun u b => ∃ x, RelV x u ∧ Rp G x (encS b)) (enc := encS) ho ea er2 c1 c2' (sz_of hl) (fun b hb => ?_) fun out hol ho2 => ?_))
  · have := kd_S.dp b
    show X.A.units + 1 + 1 + (encS b).depth < cLine
    omega
  · refine wpAny_pure ⟨_, rfl, ?_⟩
    obtain ⟨ys, rv2, k2⟩ := of_each ho2
    rw [kd_S.sort lin_S f] at k2
    obtain ⟨c, hcc⟩ := sortedHeap_at (h := h'.push (seqObj "list" acc.toList.toArray 0)) (a := h'.objs.size) (vs := acc.toList) (out := out.toArray) ho
    have I1 : Inv X pins σ H { s with heap := h', toks := tk } := I.kept (t' := tk) keep
    have fr : H h'.objs.size = none := I1.hok.fresh (Nat.le_refl _)
    have hlen2 : ys.length ≤ sizeLine := by
      rw [k2.len, List.length_map, (isort_perm f).length_eq]
      exact sz_of hl
    have hn := Nx.new (o := .lst ys) sg fr
    have keep3 : ∀ b o, h'.get? b = some o → (sortedHeap (h'.push (seqObj "list" acc.toList.toArray 0)) h'.objs.size acc.toList out.toArray).get? b = some o := fun b o e => by
      have hb := Heap.lt_size e
      rw [sortedHeap_old (Nat.ne_of_lt hb) (by rw [size_push']; exact Nat.lt_succ_of_lt hb)]
      exact Heap.get?_push_of_some _ e
    exact ⟨.ref _, upd H h'.objs.size (.lst ys), I1.laid (t' := tk) keep3 (Nat.le_refl _) ⟨hlen2, out, c, rv2, hcc⟩, rfl, q _ _ _ hn (.lst upd_same (k2.up hn.gg))⟩
end
theorem ev_sortDict {te : TE} {σ : Sl} {G : Hp} {f : F} (h : EvD te σ G (.list (f.map fun s => PyData.tuple [encS s, .bool true]))) (nd : f.Nodup) (hne : ∀ s ∈ f, s ≠ []) (hl : f.length ≤ 100000) :
    EvD (tCB rSortK (tCons (tCB rDictT (tCons te tNil)) tNil)) σ G (.list ((isort ltS f).map encS)) := fun H s Q q =>
  h H s _ fun v G1 H1 n1 r1 => ⟨G1, f, n1.gh, .cons r1 .nil, nd, hl, fun as ra d hd hs => ⟨G1, f, d, as, rfl, n1.gh.trans (same_new hd), upd_same, hs, ra, hne, hl, fun v G2 H2 n2 r2 =>
    q v G2 H2 (n1.trans ((Nx.keep n1.gh (same_new hd)).trans n2)) r2⟩⟩
end Ms

set_option Elab.async false
set_option linter.all false
set_option maxRecDepth 100000
/-! While an exception is handled: for a, b in zip(xs, ys), two lists of one length. -/
namespace Ms
open PySem PySem.Spec PyProof.Rows L2 HotX L2H
section
variable {prog : Program} {w : World} {A : Around} {E : Value → Shared → Prop} {s : Shared}
theorem hot_keep {A : Around} {x1 : Addr} {h h' : Heap} (hot : HotAt A x1 h) (k : ∀ o, h.get? x1 = some o → h'.get? x1 = some o) : HotAt A x1 h' := by
  obtain ⟨hh, o, vs, h1, d1, c1⟩ := hot
  exact ⟨hh, o, vs, k o h1, d1, c1⟩
/-- a list's iterator at its end -/
theorem list_end_hot {x1 it l : Addr} {i : Nat} {items : Array Value} {Q : Value → Shared → Prop} (hot : HotAt A x1 s.heap) (hne : x1 ≠ it) (hit : s.heap.IsListIter it l i) (hl : s.heap.IsList l items) (hx : items[i]? = none)
    (hE : ∀ h' e, Heap.ExtBut it s.heap h' → (∃ o, h'.get? e = some o ∧ o.cls = .type "StopIteration") → E (.ref e) { s with heap := h' }) : wpAny (model prog w) A (Builtin.SmallTypes.nextOf (.ref it)) Q E s := by
  obtain ⟨o, ho, hc, hd⟩ := id hit
  obtain ⟨ol, hol, _, nl, hdl⟩ := hl
  obtain ⟨hh, o1, vs1, g1, d1, c1⟩ := hot
  unfold Builtin.SmallTypes.nextOf
  refine wpAny_bind (wpAny_callSpecial?_slot (name := Str.ofString "__next__") hit.typeIs slot_listiter_next (wpAny_call_entry slot_listiter_next hit.typeIs entry_listiter_next ?_ (args_listiter_next _)))
  show wpAny _ _ (field (.ref it) 0 >>= _) _ _ s
  refine wpAny_bind (wpAny_field ho hd (x := .ref l) rfl ?_)
  show wpAny _ _ (if (Value.ref l == Value.none) = true then _ else _) _ _ s
  rw [if_neg (show ¬ ((Value.ref l == Value.none) = true) from Bool.false_ne_true)]
  show wpAny _ _ (field (.ref it) 1 >>= _) _ _ s
  refine wpAny_bind (wpAny_field ho hd (x := .int i 0) rfl ?_)
  show wpAny _ _ (seqItems? (.ref l) >>= _) _ _ s
  refine wpAny_bind (wpAny_seqItems hol hdl ?_)
  simp only [Int.toNat_natCast, hx]
  refine wpAny_bind (wpAny_rule (wpAny_bind (wpAny_setField ho hd (by simp) ?_)))
  show wpAny _ _ (newExc (.type "StopIteration") [] >>= _) _ _ _
  refine wpAny_bind ?_
  simp only [newExc, newTuple]
  refine wpAny_bind (wpAny_newObj_type ?_ (by size_fits))
  refine wpAny_bind (m := firstArgMember _ _) (wpAny_of_eq (a := Value.none) (by first | rfl | (simp only [firstArgMember]; rfl)) ?_)
  refine wpAny_newObj_type ?_ (by size_fits)
  have keep : ∀ b ob, b ≠ it → s.heap.get? b = some ob → (s.heap.update it (Obj.mapFields fun x => x.setIfInBounds 0 Value.none)).get? b = some ob := fun b ob hb e => (Heap.get?_update_other _ _ (Ne.symm hb)).trans e
  refine raiseNew_hot (x1 := x1) ⟨hh, o1, vs1, Heap.get?_push_of_some _ (Heap.get?_push_of_some _ (keep x1 o1 hne g1)), d1, c1⟩ (Nat.ne_of_lt (Heap.lt_size (Heap.get?_push_of_some _ (keep x1 o1 hne g1)))) (Heap.get?_push_size _ rfl) rfl
    (by first | (simp; done) | (simp; omega)) ?_
  refine hE _ _ (fun b ob hb e => ?_) ⟨_, Heap.get?_update_self _ (Heap.get?_push_size _ rfl) rfl, rfl⟩
  have e2 := Heap.get?_push_of_some { cls := Value.type "tuple", dict := none, data := .seq ([] : List Value).toArray } (keep b ob hb e)
  rw [Heap.get?_update_other _ _ (Nat.ne_of_gt (Heap.lt_size e2))]
  exact Heap.get?_push_of_some _ e2
/-- zip's next where the first list has ended -/
theorem zip_end_hot {x1 z TI TO i1 i2 l1 l2 : Addr} {k : Nat} {xs : Array Value} {a b : Value} {Q : Option Value → Shared → Prop} (hot : HotAt A x1 s.heap) (nz : x1 ≠ z) (n1 : x1 ≠ i1) (D : ZipApart z TI TO i1 i2 l1 l2)
    (hz : IsZip s.heap z TI TO .none) (hTI : IsPair s.heap TI (.ref i1) (.ref i2)) (hTO : IsPair s.heap TO a b) (h1 : s.heap.IsListIter i1 l1 k) (hl : s.heap.IsList l1 xs) (hx : xs[k]? = none)
    (hQ : ∀ h', (∀ c o, c ≠ z → c ≠ i1 → s.heap.get? c = some o → h'.get? c = some o) → Q none { s with heap := h' }) : wpAny (model prog w) A (pyNext (.ref z)) Q E s := by
  have hT : s.TypeIs (.ref z) "zip" := ⟨_, hz, rfl⟩
  unfold pyNext
  refine wpAny_bind (wpAny_attempt (wpAny_callSpecial?_slot (name := Str.ofString "__next__") hT F.slot_zip_next (wpAny_call_entry F.slot_zip_next hT F.entry_zip_next ?_ (F.args_zip_next_1 _))))
  show wpAny _ _ (field (.ref z) 2 >>= _) _ _ _
  refine wpAny_bind (wpAny_field hz rfl (x := .bool false) rfl ?_)
  show wpAny _ _ (field (.ref z) 3 >>= _) _ _ _
  refine wpAny_bind (wpAny_field hz rfl (x := .ref TI) rfl (wpAny_bind (wpAny_seqItems hTI rfl ?_)))
  show wpAny _ _ (Builtin.SmallTypes.ownedTupleIsFree (.ref z) >>= _) _ _ _
  refine wpAny_bind ?_
  unfold Builtin.SmallTypes.ownedTupleIsFree
  refine wpAny_bind (wpAny_field hz rfl (x := .none) rfl (wpAny_pure ?_))
  simp only [if_true]
  refine wpAny_bind (wpAny_rule (wpAny_bind (wpAny_field hz rfl (x := .ref TO) rfl (wpAny_bind (wpAny_setField_rec hz (by simp) fun g1 z1 u1 => ?_)))))
  have z1' : IsZip g1 z TI TO .ellipsis := z1
  refine wpAny_bind ?_
  simp only [List.zipIdx_cons, List.zipIdx_nil, List.forIn_cons, List.forIn_nil]
  refine wpAny_bind (wpAny_bind (wpAny_onRaise ?_))
  show wpAny _ _ (Builtin.SmallTypes.nextOf (.ref i1) >>= _) _ _ _
  have hot1 : HotAt A x1 g1 := hot_keep hot fun o e => u1.extBut _ _ nz e
  refine wpAny_bind (list_end_hot (x1 := x1) (s := { s with heap := g1 }) hot1 n1 (h1.extBut u1.extBut D.i1z) (hl.extBut u1.extBut D.l1z) hx fun g2 e u2 he => ?_)
  obtain ⟨oe, hoe, hce⟩ := he
  have z2 : IsZip g2 z TI TO .ellipsis := u2 _ _ D.i1z.symm z1'
  have hez : e ≠ z := fun q => by
    subst q
    rw [z2] at hoe
    cases hoe
    simp at hce
  refine wpAny_setField_rec z2 (by simp) fun g3 _ u3 => ?_
  refine wpAny_bind (wpAny_isInstance (T := "StopIteration") (b := true) ⟨oe, u3.extBut _ _ hez hoe, hce⟩ isSubtype_stop ?_)
  exact wpAny_pure (hQ _ fun c o c1 c3 q => u3.extBut _ _ c1 (u2 _ _ c3 (u1.extBut _ _ c1 q)))
end
/-- the five records of a zip of two lists -/
abbrev zipRec (a b z TI TO i1 i2 : Addr) (i : Nat) (h : Heap) : Prop := IsZip h z TI TO .none ∧ IsPair h TI (.ref i1) (.ref i2) ∧ (∃ x y, IsPair h TO x y) ∧ h.IsListIter i1 a i ∧ h.IsListIter i2 b i
/-- the lists at a and b, of one length n -/
def ItzN (K : PySem.W.Frag) (a b : Addr) (n : Nat) : It :=
  ⟨fun i H => i < n ∧ ∃ xs ys : List V, SqL K H a xs ∧ SqL K H b ys ∧ xs.length = n ∧ ys.length = n,
    fun i H v H' => ∃ T x y, v = .ref T ∧ H T = none ∧ H' = upd H T (.tup [x, y]) ∧ (∀ xs, SqL K H a xs → xs[i]? = some x) ∧ ∀ ys, SqL K H b ys → ys[i]? = some y,
    fun i H => ∃ xs : List V, SqL K H a xs ∧ xs.length ≤ i⟩
theorem turn_zipN {P : Program} {w : World} {K : PySem.W.Frag} {elts : List Expr} {kk n : Nat} {tpos : Pos} {a b z TI TO i1 i2 : Addr} (D : ZipApart z TI TO i1 i2 a b) :
    TurnH P w K (.Tuple elts kk tpos) (ItzN K a b n) [z, TI, TO, i1, i2] z (zipRec a b z TI TO i1 i2) where
  mem := List.mem_cons_self
  obj := fun i h st c hc => by
    obtain ⟨q1, q2, ⟨x, y, q3⟩, ⟨o4, e4, _, d4⟩, ⟨o5, e5, _, d5⟩⟩ := st
    simp only [List.mem_cons, List.not_mem_nil, or_false] at hc
    rcases hc with rfl | rfl | rfl | rfl | rfl
    · exact ⟨_, q1, fun v q => nomatch q⟩
    · exact ⟨_, q2, fun v q => nomatch q⟩
    · exact ⟨_, q3, fun v q => nomatch q⟩
    · exact ⟨o4, e4, fun v q => by rw [d4] at q; cases q⟩
    · exact ⟨o5, e5, fun v q => by rw [d5] at q; cases q⟩
  keep := fun i h h' st k => by
    obtain ⟨q1, q2, ⟨x, y, q3⟩, q4, q5⟩ := st
    exact ⟨k _ (by simp) _ q1, k _ (by simp) _ q2, ⟨x, y, k _ (by simp) _ q3⟩, q4.at fun o q => k _ (by simp) o q, q5.at fun o q => k _ (by simp) o q⟩
  item := by
    intro X hP hw hK hc i pins s σ H E I hf st hg
    subst hP hw hK
    obtain ⟨q1, q2, ⟨x0, y0, q3⟩, q4, q5⟩ := st
    obtain ⟨hi, xs, ys, sx, sy, lx, ly⟩ := hg
    obtain ⟨us, rv, p, _⟩ := I.list sx
    obtain ⟨vs, rv2, p2, _⟩ := I.list sy
    have hx : xs[i]? = some xs[i] := List.getElem?_eq_getElem (by omega)
    have hy : ys[i]? = some ys[i] := List.getElem?_eq_getElem (by omega)
    obtain ⟨u, hu, ru⟩ := rv.get hx
    obtain ⟨v, hv, rw'⟩ := rv2.get hy
    have lt : ∀ c ∈ [z, TI, TO, i1, i2], c < s.heap.objs.size := fun c hcm => by
      simp only [List.mem_cons, List.not_mem_nil, or_false] at hcm
      rcases hcm with rfl | rfl | rfl | rfl | rfl
      · exact Heap.lt_size q1
      · exact Heap.lt_size q2
      · exact Heap.lt_size q3
      · exact Heap.lt_size q4.choose_spec.1
      · exact Heap.lt_size q5.choose_spec.1
    refine wpAny_pyNext_zip_item D q1 q2 q3 q4 q5 p.isList p2.isList (x := u) (y := v) (by simpa using hu) (by simpa using hv) fun g1 z1 t1 a1 b1 hT hsz hk => ?_
    refine ⟨_, rfl, wpAny_letOwnedTupleGo_zip (s := { s with heap := g1 }) z1 fun g2 z2 sb => ?_⟩
    have fresh : H s.heap.objs.size = none := I.hok.fresh (Nat.le_refl _)
    have all : ∀ c o, c ∉ [z, TI, TO, i1, i2] → s.heap.get? c = some o → g2.get? c = some o := fun c o hb q => by
      simp only [List.mem_cons, List.not_mem_nil, or_false, not_or] at hb
      exact (sb.2 c hb.1).trans (hk c o hb.1 hb.2.2.1 hb.2.2.2.1 hb.2.2.2.2 q)
    have tup : ObjOk X.prog X.w (upd H s.heap.objs.size (.tup [xs[i], ys[i]])) g2 s.heap.objs.size (.tup [xs[i], ys[i]]) :=
      ⟨by show 2 ≤ sizeLine; decide, [u, v], .cons ru (.cons rw' .nil), ⟨_, (sb.2 _ (Nat.ne_of_gt (lt z (by simp)))).trans hT, rfl, _, rfl⟩⟩
    refine ⟨.ref s.heap.objs.size, _, I.turnedNew (t' := s.toks) (ch := [z, TI, TO, i1, i2]) all hf (Nat.le_refl _) tup, rfl, ⟨_, _, _, rfl, fresh, rfl, fun l hl => by rw [I.list_inj hl sx]; exact hx, fun l hl => by rw [I.list_inj hl sy]; exact hy⟩, ?_, fun c hcm => ?_⟩
    · exact ⟨z2, (sb.2 _ D.TIz).trans (hk _ _ D.TIz D.TITO D.TIi1 D.TIi2 q2), ⟨u, v, (sb.2 _ D.TOz).trans t1⟩, a1.at fun o q => (sb.2 _ D.i1z).trans q, b1.at fun o q => (sb.2 _ D.i2z).trans q⟩
    · rw [upd_ne (Nat.ne_of_lt (lt c hcm))]
      exact (hf c hcm).1
  done := by
    intro X hP hw hK hc i pins s σ H E I hf st hg
    subst hP hw hK
    obtain ⟨q1, q2, ⟨x0, y0, q3⟩, q4, q5⟩ := st
    obtain ⟨xs, sx, hle⟩ := hg
    obtain ⟨us, rv, p, _⟩ := I.list sx
    have lx := rv.length
    obtain ⟨pp, ⟨hh, v1, e1, c1⟩, hp⟩ := hc
    have hpin := I.pin pp (List.mem_append_left _ hp)
    have ne : ∀ c ∈ [z, TI, TO, i1, i2], pp.1 ≠ c := fun c hcm => (hf c hcm).2.2.2.2.2 pp (List.mem_append_left _ hp)
    refine zip_end_hot (x1 := pp.1) ⟨hh, pp.2, v1, hpin.1, e1, c1⟩ (ne z (by simp)) (ne i1 (by simp)) D q1 q2 q3 q4 p.isList (by simp; omega) fun g hk => ⟨rfl, I.turnedL (t' := s.toks) (ch := [z, TI, TO, i1, i2]) (fun c o hb q => ?_) hf⟩
    simp only [List.mem_cons, List.not_mem_nil, or_false, not_or] at hb
    exact hk c o hb.1 hb.2.2.2.1 q
  self := fun A i s Q E st h => wpAny_pyIter_zip st.1 h
def iZipN (K : PySem.W.Frag) (ta : TA) : TI := fun σ H R => ta σ H fun vs H1 => ∃ a b xs ys, vs = [.ref a, .ref b] ∧ SqL K H1 a xs ∧ SqL K H1 b ys ∧ R (ItzN K a b xs.length) H1
theorem pi_zipN {X : Cx} {e e2 : Expr} {ta : TA} {p pos tpos : Pos} {elts : List Expr} {kk : Nat} (hg : Gl X "zip") (hm : X.mg "zip" = none) (ha : PA X [e, e2] ta)
    (hs : starEach [e, e2] X.env = (false, eval e X.env) :: starEach [e2] X.env := by rfl) (hpl : (backTo pos (starEach [e2] X.env)).any (·.1) = false := by rfl) :
    PIH X (.Tuple elts kk tpos) (.Call (.Name "zip" p) [e, e2] [] pos) (iZipN X.K ta) := by
  refine ⟨fun pins s σ H R I h => Call_ (ld_blt I hg hm PyProof.Rows.boot_zip (PyProof.Rows.callWith_type1 (thn (ha.run pos pins s σ H _ I h) fun us s1 hh => ?_) hs hpl))⟩
  obtain ⟨vs, H1, I1, r1, a, b, xs, ys, rfl, sx, sy, q⟩ := hh
  obtain ⟨u1, u2, rfl, ra, rb⟩ := vals2 r1
  cases ra
  cases rb
  obtain ⟨us, rv, p1, _⟩ := I1.list sx
  obtain ⟨ws, rv2, p2, _⟩ := I1.list sy
  refine call_zip_2 p1.isList p2.isList fun g hz hTI hTO h1 h2 hsz hk => wpAny_pyIter_zip hz ⟨s1.heap.objs.size + 4, [s1.heap.objs.size + 4, s1.heap.objs.size + 2, s1.heap.objs.size + 3, s1.heap.objs.size, s1.heap.objs.size + 1], _, _, H1, rfl,
    I1.kept (t' := s1.toks) hk, turn_zipN (PySem.W.ktu_apart s1.heap.objs.size a b p1.lt p2.lt), ⟨hz, hTI, ⟨_, _, hTO⟩, h1, h2⟩, fun c hc => ?_, q⟩
  have hle : s1.heap.objs.size ≤ c := by
    simp only [List.mem_cons, List.not_mem_nil, or_false] at hc
    rcases hc with rfl | rfl | rfl | rfl | rfl <;> first | exact Nat.le_add_right _ _ | exact Nat.le_refl _
  exact I1.fpOk hle (I1.hok.fresh hle)
end Ms

set_option Elab.async false
set_option linter.all false
set_option maxRecDepth 100000
set_option maxHeartbeats 4000000
/-! Own errors with __init__; defs that are called while such an error is handled. -/
namespace Ms
open PySem PySem.Spec PyProof.Rows L2 HotX
theorem passN {X : Cx} : Passes (L2N.CX X.prog X.w) X E0 := fun _ _ _ _ _ _ _ h => by
  obtain ⟨_, _, _, _, _, _, _, _, _, _, _, _, z⟩ := h
  exact z.elim
theorem takesN0 {X : Cx} : L2N.Takes X (fun _ _ _ _ => False) := fun _ _ x => by
  obtain ⟨_, _, _, _, _, _, _, _, _, _, _, _, _, _, _, _, z⟩ := x
  exact z.elim
section
variable {P : Program} {w : World} {K : PySem.W.Frag} {mg : Str → Option Value} {base : Heap}
theorem okN {x qual : Str} {st : Stmt} {f : Addr} {fd : FuncData} {N ps : List Str} {k : Nat} {sp : Sp} (F : Fun K x qual st f fd) (S : FnScope N ps (defScope st)) (len : ∀ vs H Q E, sp vs H Q E → vs.length = ps.length)
    (hbody : ∀ (cdv : Value) (A : Around) (outer : List Env) (s : Shared) (H : Hp) (vs : List V) (Q : VK) (E : XK), Room k (A.deeper (envOfC qual (defScope st) s.heap.objs.size f cdv)) → sp vs H Q E →
      ∃ t, PSs (cxOf (L2N.CX P w) P w K mg base N qual (defScope st) f cdv A outer s H E) (defBody st) t ∧ t { nx := fun _ H' => Q .non H', rt := Q } (L2.start N vs) H) : FnOk P w K mg base (L2N.CX P w) (k + 1) f fd ps sp := by
  obtain ⟨oc, od, kV, doc, pm, an, cdv, ct, osl, rfl, lk, hcd⟩ := F.ex
  exact fn_of lk hcd S len fun A outer s H vs Q E hr hsp => hbody cdv A outer s H vs Q E hr hsp
end
/-! ### C(e, ..) where nothing is handled -/
theorem pmk_oexN {X : Cx} {CX : CXT} {x : Str} {e : Expr} {es : List Expr} {ta : TA} {p pos : Pos} {C fI : Addr} {k : Nat} {fd : FuncData} {ps : List Str} {sp : Sp} (T : OexC X.K C) (iC : PySem.W.findIn X.K (.ref C) "__init__" = some (some (.ref fI))) (tI : PySem.W.typeIn X.K (.ref fI) = some (.type "function"))
    (F1 : FnOk X.prog X.w X.K X.mg X.base CX k fI fd ps sp) (hr : Room (k + 1) X.A) (hb : Binds X.K fd ps []) (hx : Passes CX X (fun _ _ _ => False)) (hg : Gl X x) (hm : X.mg x = some (.ref C)) (ha : PA X (e :: es) ta)
    (hdb : (x == ("__debug__" : Str)) = false := by decide) (he : starEach (e :: es) X.env = (false, eval e X.env) :: starEach es X.env := by rfl) (hpl : (backTo pos (starEach es X.env)).any (·.1) = false := by rfl) :
    L2N.PMk X (.Call (.Name x p) (e :: es) [] pos) (tMkO C sp [] ta) := by
  intro pins s σ H Q I h
  obtain ⟨nm, q, N, bs, bm, sn, sub, ab, col, dd, k0, k1, k2, k3, k5, hC, hbm⟩ := T.cls
  refine wpAny_Call_Name_kw (ld_glob I hg hm ?_ hdb)
  refine PySem.W.callWith_K (h₀ := X.base) I.ok.mod.kin T.kC (thn (ha.run pos pins s σ H _ I h) fun us s1 ⟨vs, H1, I1, r1, hz, q1⟩ => ⟨I1.kIn, ?_⟩) he hpl
  show wpAny _ _ (call (.ref C) us) _ _ _
  obtain ⟨hp, g, dr, tk, os⟩ := s1
  have hsz : hp.objs.size ≤ hp.objs.size + 1 := Nat.le_succ _
  have hn : H1 (hp.objs.size + 1) = none := I1.hok.fresh hsz
  have hq := q1 (hp.objs.size + 1) hn
  rw [List.append_nil] at hq
  have kk : ∀ b o, hp.get? b = some o → ((hp.push (PySem.W.kdv_tup us)).push (PySem.HandSPX.excO C hp.objs.size)).get? b = some o := fun b o e => Heap.get?_push_of_some _ (Heap.get?_push_of_some _ e)
  have hget : ((hp.push (PySem.W.kdv_tup us)).push (PySem.HandSPX.excO C hp.objs.size)).get? (hp.objs.size + 1) = some (PySem.HandSPX.excO C hp.objs.size) := by heap_get
  have I2 : Inv X pins σ (upd H1 (hp.objs.size + 1) (exo (hp.objs.size + 1) C none)) ⟨(hp.push (PySem.W.kdv_tup us)).push (PySem.HandSPX.excO C hp.objs.size), g, dr, tk, os⟩ :=
    I1.laid (t' := tk) (a := hp.objs.size + 1) (o := exo (hp.objs.size + 1) C none) (h' := (hp.push (PySem.W.kdv_tup us)).push (PySem.HandSPX.excO C hp.objs.size)) kk hsz (exo_ok hget)
  have r2 : Vals (V.ref (hp.objs.size + 1) :: vs) (Value.ref (hp.objs.size + 1) :: us) := .cons rfl r1
  have hl : (Value.ref (hp.objs.size + 1) :: us ++ []).length = ps.length := by
    have e := r2.length
    rw [F1.len _ _ _ _ hq] at e
    rw [List.append_nil]
    exact e.symm
  have hus : us.length ≤ sizeLine := by
    rw [← Paired.length r1, sizeLine_eq]
    omega
  have b2 := hb _ (Value.ref (hp.objs.size + 1) :: us) I2.kIn hl
  rw [List.append_nil] at b2
  refine wpAny_call (PySem.HandSPX.call_own F.excBase_ValueError (fun Y => PySem.HandSPX.refsVE_contains Y bm hbm) (I1.kIn _ _ hC) (PySem.W.looks_findIn I1.kIn iC) (fun self => PySem.W.bind_fn I1.kIn self tI) hus
    (codeAny_mono (F1.run _ X.stack _ _ ⟨Value.ref (hp.objs.size + 1) :: us, []⟩ (Value.ref (hp.objs.size + 1) :: us) _ _ (fun _ _ _ => False) (hr.make C us []) (I2.env0.make C us []) b2 r2 hq) fun r s' hq' => ?_))
  cases r with
  | error er => exact hx pins σ _ _ er s' I2 hq'
  | ok fl =>
    cases fl with
    | ret u =>
      obtain ⟨v, H2, os2, bare2, un2, hok2, rv, ev, d, fs, ea, ed, hd1, q2⟩ := hq'
      subst ev
      obtain ⟨h2, g2, d2, t2, os'⟩ := s'
      obtain ⟨t0, G, J, kG, ge, hoe, na⟩ := mk_end0 (d2 := d2) (t2 := t2) I1 hsz kk un2 hok2 os2 bare2 ea ed hd1
      exact ⟨rv, ⟨hp.objs.size + 1, _, _, ⟨G, g2, d2, t2, os'⟩, _, .ref C, some d, rfl, J, kG, ge, hoe, ⟨rfl, rfl, fun vs hv => by cases hv; rfl⟩, rfl, rfl, na, rfl, bare2, raises_own T.exC T.tyC, q2⟩⟩
    | next => exact False.elim hq'
    | brk => exact False.elim hq'
    | cont => exact False.elim hq'
/-! ### defs called while p is handled: their promise may speak of p -/
abbrev SpE := Addr × Obj → Sp
structure FnE (P : Program) (w : World) (K : PySem.W.Frag) (mg : Str → Option Value) (base : Heap) (CX : CXT) (k : Nat) (f : Addr) (fd : FuncData) (ps : List Str) (sp : SpE) : Prop where
  len : ∀ p vs H Q E, sp p vs H Q E → vs.length = ps.length
  run : ∀ (A : Around) (outer : List Env) (s : Shared) (H : Hp) (args : Args) (us : List Value) (vs : List V) (Q : VK) (E : XK) (p : Addr × Obj), L2H.RoomH k A → L2H.Hot1 A p → L2H.PinOk outer H s p → Env0 P w K mg base A outer s H → BindsTo s fd args (ps.zip us) → Vals vs us → sp p vs H Q E →
    codeAny (model P w) A (.call (.ref f) args) (CR CX outer P w H s Q E) s
theorem fnE_of {CX : CXT} {P : Program} {w : World} {K : PySem.W.Frag} {mg : Str → Option Value} {base : Heap} {k : Nat} {x qual : Str} {st : Stmt} {f : Addr} {fd : FuncData} {N ps : List Str} {sp : SpE} (F : Fun K x qual st f fd) (S : FnScope N ps (defScope st))
    (len : ∀ p vs H Q E, sp p vs H Q E → vs.length = ps.length)
    (hbody : ∀ (cdv : Value) (A : Around) (outer : List Env) (s : Shared) (H : Hp) (vs : List V) (Q : VK) (E : XK) (p : Addr × Obj), L2H.Hot1 A p → L2H.RoomH k (A.deeper (envOfC qual (defScope st) s.heap.objs.size f cdv)) → sp p vs H Q E →
      ∃ t, PSs (L2H.cxH CX P w K mg base N qual (defScope st) f cdv A outer s H E p) (defBody st) t ∧ t { nx := fun _ H' => Q .non H', rt := Q } (L2.start N vs) H) :
    FnE P w K mg base CX (k + 1) f fd ps sp := by
  obtain ⟨oc, od, kV, doc, pm, an, cdv, ct, osl, rfl, lk, hcd⟩ := F.ex
  refine ⟨len, fun A outer s H args us vs Q E p hr hot hpin e0 hb r hsp => ?_⟩
  have hl := len _ _ _ _ _ hsp
  have KX : K.In s.heap := e0.mod.kin.keeps fun b o e => (e0.bs b o e).1
  have lim : s.heap.NoLimit := e0.mod.nolimit.keeps fun b o e => (e0.bs b o e).1
  have hkind : ∀ y ∈ ps.zip us, (defScope st).names.lookup y.1 = some .local ∨ ((defScope st).names.lookup y.1 = some .cell ∧ ((cellsFrom (s.heap.objs.size + 1) (defScope st).names []).lookup y.1).isSome = true) := fun ⟨n, v⟩ hy => by
    rcases S.par n (List.of_mem_zip hy).1 with q | q
    · exact .inl q
    · exact .inr ⟨q, PySem.W.cellsFrom_some _ _ _ (.inl q)⟩
  refine codeAny_call_function hr.depth (KX _ _ lk) rfl S.co S.gen rfl (PySem.W.codeRec_of KX hcd) (hb _ _ _ _ ?_)
  refine wpAny_newFunctionEnv_cells S.kind hkind fun env he s1 x => ?_
  subst he
  refine ⟨lim.keeps x.toInCall.keep, codeAny_func ?_⟩
  obtain ⟨t, ht, hq⟩ := hbody cdv A outer s H vs Q E p hot (hr.deeper _) hsp
  have I : Inv (L2H.cxH CX P w K mg base N qual (defScope st) f cdv A outer s H E p) [] (L2.start N vs) H s1 := L2H.inv_startH S hpin e0 hl r x
  refine wpAny_mono (ht.run [] s1 (L2.start N vs) H _ I hq) (fun fl s' hs => ?_) fun e s' hs => hs
  have fin : ∀ {σ' : L2.St} {H' : Hp} {v : V} {u : Value}, Inv (L2H.cxH CX P w K mg base N qual (defScope st) f cdv A outer s H E p) [] σ' H' s' → RelV v u → Q v H' → CE outer P w H s Q u s' :=
    fun {σ' H' v u} J rv q => ⟨v, H', J.os, J.bare, J.base, J.hok, rv, q⟩
  cases fl with
  | ret u =>
    obtain ⟨v, σ', H', J, rv, q⟩ := hs
    exact fin J rv q
  | next =>
    obtain ⟨σ', H', J, q⟩ := hs
    exact fin (v := V.non) (u := Value.none) J rfl q
  | brk =>
    obtain ⟨_, _, _, q⟩ := hs
    exact False.elim q
  | cont =>
    obtain ⟨_, _, _, q⟩ := hs
    exact False.elim q
theorem run_fnE {X : Cx} {CX : CXT} {k : Nat} {f : Addr} {fd : FuncData} {ps : List Str} {sp : SpE} {E : XK} {p : Addr × Obj} {pins : List (Addr × Obj)} {σ : L2.St} {H : Hp} {s : Shared} {Q : VK} {us : List Value} {vs : List V} (F : FnE X.prog X.w X.K X.mg X.base CX k f fd ps sp) (hr : L2H.RoomH k X.A)
    (hot : L2H.Hot1 X.A p) (hp : p ∈ X.pn) (hb : Binds X.K fd ps []) (hx : PassesAt CX X σ E) (I : Inv X pins σ H s) (r : Vals vs us) (h : sp p vs H Q E) : wpAny (model X.prog X.w) X.A (call (.ref f) us) (EP X pins σ Q) X.xe s := by
  have hl : us.length = ps.length := by rw [← r.length]; exact F.len _ _ _ _ _ h
  have b := hb s us I.kIn (by rw [List.append_nil]; exact hl)
  rw [List.append_nil] at b
  have P1 := I.pin p (List.mem_append_left _ hp)
  have hpin : L2H.PinOk X.stack H s p := ⟨P1.1, P1.2.1, fun hm => (List.mem_cons.mp (I.stkSub p.1 hm)).elim P1.2.2.1 P1.2.2.2.1, P1.2.2.2.2⟩
  refine wpAny_call (codeAny_mono (F.run X.A X.stack s H ⟨us, []⟩ us vs Q E p hr hot hpin I.env0 b r h) fun r s' hq => ?_)
  cases r with
  | error e => exact hx pins H s e s' I hq
  | ok fl =>
    cases fl with
    | ret u => exact I.after hq
    | next => exact False.elim hq
    | brk => exact False.elim hq
    | cont => exact False.elim hq
theorem pe_callE {X : Cx} {k : Nat} {f : Addr} {fd : FuncData} {ps : List Str} {sp : SpE} {x : Str} {q pos : Pos} {e : Expr} {es : List Expr} {t : TA} {p : Addr × Obj} (F : FnE X.prog X.w X.K X.mg X.base CX0 k f fd ps sp) (hr : L2H.RoomH k X.A) (hot : L2H.Hot1 X.A p) (hp : p ∈ X.pn)
    (hg : Gl X x) (hm : X.mg x = some (.ref f)) (hk : PySem.W.keepIn X.K (.ref f) = true) (hb : Binds X.K fd ps [])
    (ha : PA X (e :: es) t) (hdb : (x == ("__debug__" : Str)) = false := by decide) (he : starEach (e :: es) X.env = (false, eval e X.env) :: starEach es X.env := by rfl) (hpl : (backTo pos (starEach es X.env)).any (·.1) = false := by rfl) :
    PE X (.Call (.Name x q) (e :: es) [] pos) (tCall (sp p) [] E0 t) := by
  refine ⟨fun pins s σ H Q I h => ?_⟩
  refine wpAny_Call_Name_kw (ld_glob I hg hm ?_ hdb)
  refine PySem.W.callWith_K (h₀ := X.base) I.ok.mod.kin hk (thn (ha.run pos pins s σ H _ I h) fun us s1 ⟨vs, H1, I1, r, q⟩ => ⟨I1.kIn, ?_⟩) he hpl
  have q : sp p (vs ++ []) H1 Q E0 := q
  rw [List.append_nil] at q
  exact run_fnE (E := E0) F hr hot hp hb (fun _ _ _ _ _ _ h => h.elim) I1 r q
/-! ### isinstance of the handled error, which has fields -/
def rIsP (K : PySem.W.Frag) (D a d : Addr) : List V → Hp → VK → Prop := fun xs H Q => ∃ (c : V) (cv : Value) (b : Bool) (fs : List (Str × V)), xs = [.ref a, c] ∧ (∀ u, RelV c u → u = cv) ∧ PySem.W.kitOne K (.ref D) cv = some b ∧ H d = some (.xd fs) ∧ Q (.bl b) H
theorem call_isP {X : Cx} {p : Addr × Obj} {D d : Addr} (C : ExcC X.K D) (hp : p ∈ X.pn) (hz : Zc (.ref D) (some d) p.2) (hf : ∃ vs, p.2.data = .fields vs) : CallR X (.builtin "isinstance") (rIsP X.K D p.1 d) := by
  intro pins s σ H xs us Q I r h
  obtain ⟨c, cv, b, fs, rfl, hcv, e, ea, q⟩ := h
  cases r with
  | cons rx rr =>
    cases rr with
    | cons rt rr =>
      cases rr
      cases rx
      have ec := hcv _ rt
      subst ec
      obtain ⟨hget, _⟩ := I.pin p (List.mem_append_left _ hp)
      obtain ⟨vs, hv⟩ := hf
      have hx : ObjOk X.prog X.w H s.heap d (.xd fs) := I.hok d _ ea
      obtain ⟨mA, hns, _⟩ := hx
      obtain ⟨od, ho, _⟩ := lookIn_ns hns
      have J : PySem.W.InstAt s.heap p.1 p.2 D (some od) := ⟨hget, hz.1, by unfold PySem.W.notCls; rw [hv] <;> rfl, by rw [hz.2]; exact ho⟩
      obtain ⟨cd, hc, _⟩ := PySem.W.any_some C.hd
      exact PySem.W.kia_one (PySem.W.kitx_exc (by rw [hc]; rfl) C.hg C.hk C.hs C.ha C.hn C.ht C.hm) I.kIn J e (fun z => nomatch z) fun tk => ⟨.bl b, H, I.kept (t' := tk) fun _ _ z => z, rfl, q⟩
end Ms

set_option Elab.async false
set_option linter.all false
set_option maxRecDepth 100000
/-! While an exception is handled: a, b = a tuple; a for over zip. -/
namespace Ms
open PySem PySem.Spec PyProof.Rows L2 HotX L2H
section
variable {prog : Program} {w : World} {A : Around} {E : Value → Shared → Prop} {s : Shared}
theorem tuple_end_hot {x1 it t : Addr} {i : Nat} {items : Array Value} {Q : Option Value → Shared → Prop} (hot : HotAt A x1 s.heap) (hne : x1 ≠ it) (hit : IsTupIter s.heap it t i) (ht : IsTup s.heap t items) (hx : items[i]? = none)
    (hQ : ∀ h', Heap.ExtBut it s.heap h' → Q none { s with heap := h' }) : wpAny (model prog w) A (pyNext (.ref it)) Q E s := by
  obtain ⟨o, ho, hc, hd⟩ := id hit
  obtain ⟨ol, hol, _, nl, hdl⟩ := ht
  obtain ⟨hh, o1, vs1, g1, d1, c1⟩ := hot
  unfold pyNext
  refine wpAny_bind (wpAny_attempt (wpAny_callSpecial?_slot (name := Str.ofString "__next__") hit.typeIs slot_tupleiter_next
    (wpAny_call_entry slot_tupleiter_next hit.typeIs entry_tupleiter_next ?_ (args_tupleiter_next _))))
  show wpAny _ _ (field (.ref it) 0 >>= _) _ _ s
  refine wpAny_bind (wpAny_field ho hd (x := .ref t) rfl ?_)
  show wpAny _ _ (if (Value.ref t == Value.none) = true then _ else _) _ _ s
  rw [if_neg (show ¬ ((Value.ref t == Value.none) = true) from Bool.false_ne_true)]
  show wpAny _ _ (field (.ref it) 1 >>= _) _ _ s
  refine wpAny_bind (wpAny_field ho hd (x := .int i 0) rfl ?_)
  show wpAny _ _ (seqItems? (.ref t) >>= _) _ _ s
  refine wpAny_bind (wpAny_seqItems hol hdl ?_)
  simp only [Int.toNat_natCast, hx]
  refine wpAny_bind (wpAny_rule (wpAny_bind (wpAny_setField ho hd (by simp) ?_)))
  show wpAny _ _ (newExc (.type "StopIteration") [] >>= _) _ _ _
  refine wpAny_bind ?_
  simp only [newExc, newTuple]
  refine wpAny_bind (wpAny_newObj_type ?_ (by size_fits))
  refine wpAny_bind (m := firstArgMember _ _) (wpAny_of_eq (a := Value.none) (by first | rfl | (simp only [firstArgMember]; rfl)) ?_)
  refine wpAny_newObj_type ?_ (by size_fits)
  have keep : ∀ b ob, b ≠ it → s.heap.get? b = some ob → (s.heap.update it (Obj.mapFields fun x => x.setIfInBounds 0 Value.none)).get? b = some ob := fun b ob hb e => (Heap.get?_update_other _ _ (Ne.symm hb)).trans e
  refine raiseNew_hot (x1 := x1) ⟨hh, o1, vs1, Heap.get?_push_of_some _ (Heap.get?_push_of_some _ (keep x1 o1 hne g1)), d1, c1⟩ (Nat.ne_of_lt (Heap.lt_size (Heap.get?_push_of_some _ (keep x1 o1 hne g1)))) (Heap.get?_push_size _ rfl) rfl
    (by first | (simp; done) | (simp; omega)) ?_
  refine wpAny_bind (wpAny_isInstance (T := "StopIteration") (b := true) ⟨_, Heap.get?_update_self _ (Heap.get?_push_size _ rfl) rfl, rfl⟩ isSubtype_stop ?_)
  refine wpAny_pure (hQ _ fun b ob hb e => ?_)
  have e2 := Heap.get?_push_of_some { cls := Value.type "tuple", dict := none, data := .seq ([] : List Value).toArray } (keep b ob hb e)
  rw [Heap.get?_update_other _ _ (Nat.ne_of_gt (Heap.lt_size e2))]
  exact Heap.get?_push_of_some _ e2
theorem unpackItems_hot {x1 t : Addr} {items : Array Value} {Q : List Value → Shared → Prop} (hot : HotAt A x1 s.heap) (ht : IsTup s.heap t items)
    (hQ : ∀ h', Heap.ExtBut s.heap.objs.size s.heap h' → Q items.toList { s with heap := h' }) : wpAny (model prog w) A (unpackItems (.ref t) items.size none) Q E s := by
  have hlt : t ≠ s.heap.objs.size := by obtain ⟨o, ho, _⟩ := ht; exact Nat.ne_of_lt (Heap.lt_size ho)
  have hx1 : x1 ≠ s.heap.objs.size := by obtain ⟨_, o, _, ho, _⟩ := hot; exact Nat.ne_of_lt (Heap.lt_size ho)
  unfold unpackItems
  refine wpAny_bind ?_
  · unfold notIterableAtAll
    refine wpAny_bind (wpAny_specialOf ht.typeIs slot_tuple_iter.lookup ?_)
    refine wpAny_pure ?_
    simp only [Bool.false_eq_true, if_false]
    refine wpAny_bind (wpAny_holding (iter_tuple ht ?_))
    refine wpAny_bind (wpAny_holding (draw_tuple hlt items.size 0 _ _ ⟨_, Heap.get?_push_size _ rfl, rfl, rfl⟩ (ht.push _) (by omega) fun h₁ hit₁ hs₁ => ?_))
    have hall : List.take items.size (List.drop 0 items.toList) = items.toList := by
      rw [List.drop_zero]; exact List.take_of_length_le (by simp)
    rw [hall]
    rw [if_neg (by simp)]
    have ht₁ : IsTup h₁ t items := (ht.push _).extBut hs₁.extBut hlt
    have hot₁ : HotAt A x1 h₁ := hot_keep hot fun o e => hs₁.extBut x1 o hx1 (Heap.get?_push_of_some _ e)
    refine wpAny_bind (wpAny_holding (tuple_end_hot (s := { s with heap := h₁ }) hot₁ hx1 hit₁ ht₁ (by simp) fun h₂ he₂ => ?_))
    simp only [Option.isSome_none, Bool.false_eq_true, if_false]
    refine wpAny_pure (hQ h₂ fun b o hb e => he₂ b o hb (hs₁.extBut b o hb (Heap.get?_push_of_some _ e)))
theorem assign_hot {env : Env} {elts : List Expr} {x0} {pos : Pos} {x1 t : Addr} {items : Array Value} {Q : Unit → Shared → Prop} (hot : HotAt A x1 s.heap) (ht : IsTup s.heap t items)
    (hn : (assignEach elts env).length = items.size) (hstar : (assignEach elts env).findIdx? (·.1) = none)
    (h : ∀ h', Heap.ExtBut s.heap.objs.size s.heap h' → wpAny (model prog w) A (assignInOrder ((assignEach elts env).map (·.2)) items.toList) Q E { s with heap := h' }) :
    wpAny (model prog w) A (assign (.Tuple elts x0 pos) env (.ref t)) Q E s := by
  rw [assign_Tuple]
  refine wpAny_bind (wpAny_standAt ?_)
  unfold unpack
  rw [hn, hstar]
  exact wpAny_bind (wpAny_holding (unpackItems_hot hot ht h))
end
theorem pg_tupN {X : Cx} {pos : Pos} {es : List Expr} {k : Nat} {t : TGs} {n : Nat} (hc : HotC X) (h : PGs X es t)
    (hn : (assignEach es X.env).length = n := by rfl) (hst : (assignEach es X.env).findIdx? (·.1) = none := by rfl) : PG X (.Tuple es k pos) (gTup X.K n t) := by
  refine ⟨fun pins s σ H v u Q I r hw => ?_⟩
  obtain ⟨a, xs, e1, hq, hl, hw⟩ := hw
  subst e1
  cases r
  obtain ⟨its, rv, ht, hz⟩ := I.tuple hq
  obtain ⟨x1, hot⟩ := hc.at I
  refine assign_hot hot ht (by simp [hn, ← hl, rv.length]) hst fun h' hx => ?_
  have I1 : Inv X pins σ H { s with heap := h' } := I.kept (t' := s.toks) fun b o e => hx b o (Nat.ne_of_lt (Heap.lt_size e)) e
  exact h.run pins _ σ H xs _ Q I1 (by simpa using rv) hw
/-! the turns of a for over zip, two known lists of one length; both kinds -/
theorem for_zipN {K : PySem.W.Frag} {a b : Addr} {xs ys : List V} {n : Nat} {g : TG} {tb : TS} {D : Ends} {σ : L2.St} {H : Hp} (hn : xs.length = n) (hl : xs.length = ys.length) (Pv : Nat → L2.St → Hp → Prop) (h0 : Pv 0 σ H) (hq : ∀ i σ H, Pv i σ H → SqL K H a xs ∧ SqL K H b ys)
    (hs : ∀ (i : Nat) (x y : V) (T : Addr) (σ : L2.St) (H : Hp), xs[i]? = some x → ys[i]? = some y → Pv i σ H → H T = none → g (.ref T) σ (upd H T (.tup [x, y])) fun σ2 H2 => tb { D with nx := Pv (i + 1), ct := Pv (i + 1), bk := D.nx } σ2 H2) (hd : ∀ σ H, Pv xs.length σ H → D.nx σ H) :
    ∃ W : Nat → Nat → L2.St → Hp → Prop, (∃ m, W 0 m σ H) ∧ ∀ i m σ H, W i m σ H →
      ((ItzN K a b n).stop i H ∧ D.nx σ H) ∨ ((ItzN K a b n).go i H ∧ ∃ N : L2.St → Hp → Prop, (∀ σ' H', N σ' H' → ∃ m', m' < m ∧ W (i + 1) m' σ' H') ∧ ∀ v H', (ItzN K a b n).yld i H v H' → g v σ H' fun σ2 H2 => tb { D with nx := N, ct := N, bk := D.nx } σ2 H2) := by
  subst hn
  refine ⟨fun i m σ H => m = xs.length - i ∧ i ≤ xs.length ∧ Pv i σ H, ⟨xs.length, rfl, Nat.zero_le _, h0⟩, ?_⟩
  rintro i m σ H ⟨rfl, hi, p⟩
  obtain ⟨qx, qy⟩ := hq i σ H p
  by_cases hlt : i < xs.length
  · have hx : xs[i]? = some xs[i] := List.getElem?_eq_getElem hlt
    have hlt2 : i < ys.length := by omega
    have hy : ys[i]? = some ys[i] := List.getElem?_eq_getElem hlt2
    refine .inr ⟨?_, Pv (i + 1), fun σ' H' p' => ⟨xs.length - (i + 1), by omega, rfl, hlt, p'⟩, fun v H' y => ?_⟩
    · exact ⟨hlt, xs, ys, qx, qy, rfl, hl.symm⟩
    · obtain ⟨T, x', y', rfl, hT, rfl, f1, f2⟩ := y
      exact hs i x' y' T σ H (f1 xs qx) (f2 ys qy) p hT
  · have e : i = xs.length := by omega
    subst e
    refine .inl ⟨?_, hd σ H p⟩
    exact ⟨xs, qx, Nat.le_refl _⟩
end Ms

set_option Elab.async false
set_option linter.all false
set_option maxRecDepth 100000
/-! Words for the defs. -/
namespace Ms
open PySem PySem.Spec PyProof.Rows L2
def topS (i : Nat) : Stmt := PySem.Challenge.pw_meetsets_k17_whole_all_full.main.body.getD i (.Pass ⟨0, 0, 0, 0⟩)
/-- the built-in names are the built-ins -/
structure Bt (mg : Str → Option Value) : Prop where
  isinstance : mg "isinstance" = none
  int : mg "int" = none
  bool : mg "bool" = none
  str : mg "str" = none
  list : mg "list" = none
  tuple : mg "tuple" = none
  dict : mg "dict" = none
  range : mg "range" = none
  sorted : mg "sorted" = none
  len : mg "len" = none
  zip : mg "zip" = none
  enumerate : mg "enumerate" = none
  verr : mg "ValueError" = none
/-- a def's own ends -/
abbrev dE (Q : VK) : Ends := { nx := fun _ H' => Q .non H', rt := Q }
/-- a callee -/
structure Cl (P : Program) (w : World) (K : PySem.W.Frag) (mg : Str → Option Value) (base : Heap) (CX : CXT) (k : Nat) (x : Str) (sp : Sp) : Prop where
  ex : ∃ (f : Addr) (fd : FuncData) (ps : List Str), FnOk P w K mg base CX k f fd ps sp ∧ mg x = some (.ref f) ∧ PySem.W.keepIn K (.ref f) = true ∧ Binds K fd ps []
section
variable {X : Cx} {CX : CXT} {k j : Nat} {x : Str} {sp : Sp} {E : XK} {p pos : Pos} {e : Expr} {es : List Expr} {t : TA}
theorem pe_cl (c : Cl X.prog X.w X.K X.mg X.base CX k x sp) (hr : Room j X.A) (hk : k ≤ j) (hx : Passes CX X E) (hg : Gl X x) (ha : PA X (e :: es) t)
    (hdb : (x == ("__debug__" : Str)) = false := by decide) (he : starEach (e :: es) X.env = (false, eval e X.env) :: starEach es X.env := by rfl) (hpl : (backTo pos (starEach es X.env)).any (·.1) = false := by rfl) :
    PE X (.Call (.Name x p) (e :: es) [] pos) (tCall sp [] E t) := by
  obtain ⟨f, fd, ps, F, hm, kp, b⟩ := c.ex
  exact pe_call F (hr.mono hk) hg hm kp b .nil hx ha hdb he hpl
end
/-! isinstance with a built-in class -/
def tyD : PyData → String
  | .none => "NoneType"
  | .bool _ => "bool"
  | .int _ => "int"
  | .str _ => "str"
  | .list _ => "list"
  | .tuple _ => "tuple"
  | .dict _ => "dict"
theorem tyX_of {K : PySem.W.Frag} {G H : Hp} {v : V} {d : PyData} (s : Same G H) (r : Rp G v d) : TyX K H v (.type (tyD d)) := by
  cases r with
  | non => exact .base .non
  | bl b => exact .base (.bl b)
  | int i => exact .base (.int i)
  | lst e _ => exact .base (.lst (s _ _ e))
  | tup e _ => exact .base (.tup (s _ _ e))
theorem ev_isi {K : PySem.W.Frag} {te : TE} {σ : Sl} {G : Hp} {d : PyData} {n : String} {b : Bool} (h : EvD te σ G d) (hk : PySem.W.kitOne K (.type (tyD d)) (.type n) = some b) : EvD (tCB (rIsi K) (tCons te (tCons (tC (.ty n)) tNil))) σ G (.bool b) := fun H s Q q =>
  h H s _ fun v G1 H1 n1 r1 => ⟨v, .ty n, _, _, b, rfl, .ty n, tyX_of n1.gh r1, hk, q _ _ _ n1 (.bl b)⟩
section
variable {K : PySem.W.Frag}
theorem k_int_bool : PySem.W.kitOne K (.type "int") (.type "bool") = some false := kit_ty (by decide +kernel)
theorem k_int_int : PySem.W.kitOne K (.type "int") (.type "int") = some true := kit_ty (by decide +kernel)
theorem k_int_str : PySem.W.kitOne K (.type "int") (.type "str") = some false := kit_ty (by decide +kernel)
theorem k_int_list : PySem.W.kitOne K (.type "int") (.type "list") = some false := kit_ty (by decide +kernel)
theorem k_int_tuple : PySem.W.kitOne K (.type "int") (.type "tuple") = some false := kit_ty (by decide +kernel)
theorem k_bool_bool : PySem.W.kitOne K (.type "bool") (.type "bool") = some true := kit_ty (by decide +kernel)
theorem k_bool_int : PySem.W.kitOne K (.type "bool") (.type "int") = some true := kit_ty (by decide +kernel)
theorem k_bool_str : PySem.W.kitOne K (.type "bool") (.type "str") = some false := kit_ty (by decide +kernel)
theorem k_bool_list : PySem.W.kitOne K (.type "bool") (.type "list") = some false := kit_ty (by decide +kernel)
theorem k_bool_tuple : PySem.W.kitOne K (.type "bool") (.type "tuple") = some false := kit_ty (by decide +kernel)
theorem k_list_bool : PySem.W.kitOne K (.type "list") (.type "bool") = some false := kit_ty (by decide +kernel)
theorem k_list_int : PySem.W.kitOne K (.type "list") (.type "int") = some false := kit_ty (by decide +kernel)
theorem k_list_str : PySem.W.kitOne K (.type "list") (.type "str") = some false := kit_ty (by decide +kernel)
theorem k_list_list : PySem.W.kitOne K (.type "list") (.type "list") = some true := kit_ty (by decide +kernel)
theorem k_list_tuple : PySem.W.kitOne K (.type "list") (.type "tuple") = some false := kit_ty (by decide +kernel)
theorem k_tuple_bool : PySem.W.kitOne K (.type "tuple") (.type "bool") = some false := kit_ty (by decide +kernel)
theorem k_tuple_int : PySem.W.kitOne K (.type "tuple") (.type "int") = some false := kit_ty (by decide +kernel)
theorem k_tuple_str : PySem.W.kitOne K (.type "tuple") (.type "str") = some false := kit_ty (by decide +kernel)
theorem k_tuple_list : PySem.W.kitOne K (.type "tuple") (.type "list") = some false := kit_ty (by decide +kernel)
theorem k_tuple_tuple : PySem.W.kitOne K (.type "tuple") (.type "tuple") = some true := kit_ty (by decide +kernel)
end
/-- chained comparisons of ints -/
theorem ev_chain {r r' : R2} {ta tb tc : TE} {σ : Sl} {G : Hp} {d1 d2 d3 : PyData} {a b : Bool} (h1 : EvD ta σ G d1) (h2 : EvD tb σ G d2) (h3 : EvD tc σ G d3) (o1 : OpD r d1 d2 (.bool a)) (o2 : OpD r' d2 d3 (.bool b)) : EvD (tChain r r' ta tb tc) σ G (.bool (a && b)) := fun H s Q q =>
  h1 H s _ fun x G1 H1 n1 r1 => (h2.up n1.gg) H1 n1.gh _ fun y G2 H2 n2 r2 => o1 G2 H2 x y n2.gh (r1.up n2.gg) r2 _ fun z G3 H3 n3 r3 => by
    cases r3
    refine ⟨a, rfl, ?_⟩
    cases a with
    | false => exact iteF (q _ G3 H3 ((n1.trans n2).trans n3) (.bl false))
    | true =>
      refine iteT ((h3.up ((n1.trans n2).trans n3).gg) H3 n3.gh _ fun u G4 H4 n4 r4 => ?_)
      exact o2 G4 H4 y u n4.gh (r2.up (n3.trans n4).gg) r4 Q fun v G5 H5 n5 r5 => q v G5 H5 (((n1.trans n2).trans n3).trans (n4.trans n5)) r5
theorem tC_ev {v : V} {σ : Sl} {G : Hp} {d : PyData} (r : Rp G v d) : EvD (tC v) σ G d := fun H s Q q => q v G H (.refl s) r
end Ms

set_option Elab.async false
set_option linter.all false
set_option maxRecDepth 100000
/-! bounds.py -/
namespace Ms
open PySem PySem.Spec PyProof.Rows L2
variable {P : Program} {w : World} {K : PySem.W.Frag} {mg : Str → Option Value} {base : Heap}
theorem sc16 : FnScope ["thing"] ["thing"] (defScope (topS 16)) := ⟨rfl, rfl, rfl, by decide +kernel, rfl, by decide +kernel, by decide +kernel⟩
theorem sc17 : FnScope ["thing", "least", "most"] ["thing", "least", "most"] (defScope (topS 17)) := ⟨rfl, rfl, rfl, by decide +kernel, rfl, by decide +kernel, by decide +kernel⟩
theorem sc18 : FnScope ["thing"] ["thing"] (defScope (topS 18)) := ⟨rfl, rfl, rfl, by decide +kernel, rfl, by decide +kernel, by decide +kernel⟩
theorem sc19 : FnScope ["n"] ["n"] (defScope (topS 19)) := ⟨rfl, rfl, rfl, by decide +kernel, rfl, by decide +kernel, by decide +kernel⟩
def R16 : List PyData → PyData → Prop := fun ds r => ∃ i : Int, ds = [.int i] ∧ r = .bool true
theorem R16_len (ds : List PyData) (r : PyData) (h : R16 ds r) : ds.length = 1 := by
  obtain ⟨i, rfl, _⟩ := h
  rfl
theorem ok16 {f : Addr} {fd : FuncData} (F : Fun K "is_whole" "is_whole" (topS 16) f fd) (b : Bt mg) : FnOk P w K mg base CX0 1 f fd ["thing"] (spR R16) := by
  refine F.ok sc16 (spR_len R16_len) (fun cdv A outer s H vs Q E hr h => ?_)
  obtain ⟨G, ds, r, sg, k, ⟨i, rfl, rfl⟩, q⟩ := h
  cases k with
  | cons r1 k =>
    cases k
    refine ⟨_, pss_one (ps_ret (pe_and (pe_callB call_isi (by rfl) b.isinstance (by decide +kernel) (pa_cons (pv 0) (pa_cons (pe_bltn (v := .ty "int") (by rfl) b.int (by decide +kernel) rfl) pa_nil)))
      (pe_one (pe_not (pe_callB call_isi (by rfl) b.isinstance (by decide +kernel) (pa_cons (pv 0) (pa_cons (pe_bltn (v := .ty "bool") (by rfl) b.bool (by decide +kernel) rfl) pa_nil))))))), ?_⟩
    refine s_ret (d := .bool true) ?_ sg q
    exact (ev_andV (ev_isi (ev_var rfl r1) k_int_int) (fun _ => ev_notV (ev_isi (ev_var rfl r1) k_int_bool))).is rfl

def R17 : List PyData → PyData → Prop := fun ds r => ∃ a l m : Int, ds = [.int a, .int l, .int m] ∧ r = .bool (decide (l ≤ a) && decide (a ≤ m))
theorem R17_len (ds : List PyData) (r : PyData) (h : R17 ds r) : ds.length = 3 := by
  obtain ⟨a, l, m, rfl, _⟩ := h
  rfl
theorem ok17 {f : Addr} {fd : FuncData} (F : Fun K "is_from" "is_from" (topS 17) f fd) (c : Cl P w K mg base CX0 1 "is_whole" (spR R16)) : FnOk P w K mg base CX0 2 f fd ["thing", "least", "most"] (spR R17) := by
  refine F.ok sc17 (spR_len R17_len) (fun cdv A outer s H vs Q E hr h => ?_)
  obtain ⟨G, ds, r, sg, k, ⟨a, l, m, rfl, rfl⟩, q⟩ := h
  cases k with
  | cons r1 k =>
    cases k with
    | cons r2 k =>
      cases k with
      | cons r3 k =>
        cases k
        refine ⟨_, pss_one (ps_ret (pe_and (pe_cl c hr (Nat.le_refl _) pass0 (by rfl) (pa_cons (pv 0) pa_nil)) (pe_one (pe_chain op_le op_le (pv 1) (pv 0) (pv 2))))), ?_⟩
        refine s_ret (d := .bool (decide (l ≤ a) && decide (a ≤ m))) ?_ sg q
        exact (ev_andV (a := true) (ev_call (ea1 (ev_var rfl r1)) ⟨a, rfl, rfl⟩) (fun _ => ev_chain (ev_var rfl r2) (ev_var rfl r1) (ev_var rfl r3) opD_B opD_B)).is rfl
def R18 : List PyData → PyData → Prop := fun ds r => ∃ n : Int, ds = [.int n] ∧ r = .bool (decide (1 ≤ n) && decide (n ≤ 8))
theorem R18_len (ds : List PyData) (r : PyData) (h : R18 ds r) : ds.length = 1 := by
  obtain ⟨n, rfl, _⟩ := h
  rfl
theorem ok18 {f : Addr} {fd : FuncData} {tk : Tok} (F : Fun K "ground_good" "ground_good" (topS 18) f fd) (c : Cl P w K mg base CX0 2 "is_from" (spR R17)) (hm : mg "MOST_POINTS" = some (.int 8 tk)) : FnOk P w K mg base CX0 3 f fd ["thing"] (spR R18) := by
  refine F.ok sc18 (spR_len R18_len) (fun cdv A outer s H vs Q E hr h => ?_)
  obtain ⟨G, ds, r, sg, k, ⟨n, rfl, rfl⟩, q⟩ := h
  cases k with
  | cons r1 k =>
    cases k
    refine ⟨_, pss_one (ps_ret (pe_cl c hr (Nat.le_refl _) pass0 (by rfl) (pa_cons (pv 0) (pa_cons pe_int (pa_cons (pe_glob (v := .int 8) (by rfl) hm ⟨tk, rfl⟩) pa_nil))))), ?_⟩
    exact s_ret (d := .bool (decide (1 ≤ n) && decide (n ≤ 8))) (ev_call (ea_cons (ev_var rfl r1) (ea2 ev_int ev_int)) ⟨n, 1, 8, rfl, rfl⟩) sg q
def R19 : List PyData → PyData → Prop := fun ds r => ∃ n : Int, ds = [.int n] ∧ 1 ≤ n ∧ n ≤ 8 ∧ r = .none
theorem R19_len (ds : List PyData) (r : PyData) (h : R19 ds r) : ds.length = 1 := by
  obtain ⟨n, rfl, _⟩ := h
  rfl
theorem ok19 {f : Addr} {fd : FuncData} (F : Fun K "need_ground" "need_ground" (topS 19) f fd) (c : Cl P w K mg base CX0 3 "ground_good" (spR R18)) : FnOk P w K mg base CX0 4 f fd ["n"] (spR R19) := by
  refine F.ok sc19 (spR_len R19_len) (fun cdv A outer s H vs Q E hr h => ?_)
  obtain ⟨G, ds, r, sg, k, ⟨n, rfl, h1, h2, rfl⟩, q⟩ := h
  cases k with
  | cons r1 k =>
    cases k
    refine ⟨_, pss_one (ps_if (pt_not (pt_val (pe_cl c hr (Nat.le_refl _) pass0 (by rfl) (pa_cons (pv 0) pa_nil)))) (pss_one ps_never) pss_nil), ?_⟩
    refine s_if (b := false) ((eb_not (eb_B (ev_call (ea1 (ev_var rfl r1)) ⟨n, rfl, rfl⟩))).is (by simp [h1, h2])) sg (fun e => nomatch e) (fun _ H1 n1 => ?_)
    exact q .non G H1 (.keep sg n1) .non
/-! sets -/
theorem sc21 : FnScope ["one", "other", "point"] ["one", "other"] (defScope (topS 21)) := ⟨rfl, rfl, rfl, by decide +kernel, rfl, by decide +kernel, by decide +kernel⟩
def R21 : List PyData → PyData → Prop := fun ds r => ∃ a b : S, ds = [encS a, encS b] ∧ r = .bool (sharePt a b)
theorem R21_len (ds : List PyData) (r : PyData) (h : R21 ds r) : ds.length = 2 := by
  obtain ⟨a, b, rfl, _⟩ := h
  rfl
theorem share_take {a b : S} {i : Nat} {x : Int} (h : a[i]? = some x) : sharePt (a.take (i + 1)) b = (sharePt (a.take i) b || inI x b) := by
  unfold sharePt
  rw [take_more h, List.any_append]
  simp
theorem share_true {a b : S} {i : Nat} {x : Int} (h : a[i]? = some x) (e : inI x b = true) : sharePt a b = true := by
  unfold sharePt
  exact List.any_eq_true.mpr ⟨x, List.mem_of_getElem? h, e⟩
theorem ok21 {f : Addr} {fd : FuncData} (F : Fun K "share_point" "share_point" (topS 21) f fd) : FnOk P w K mg base CX0 1 f fd ["one", "other"] (spR R21) := by
  refine F.ok sc21 (spR_len R21_len) (fun cdv A outer s H vs Q E hr h => ?_)
  obtain ⟨G, ds, r, sg, k, ⟨a, b, rfl, rfl⟩, q⟩ := h
  cases k with
  | @cons v1 _ _ _ r1 k =>
    cases k with
    | @cons v2 _ _ _ r2 k =>
      cases k
      refine ⟨_, pss_cons (ps_for PassesOwn.never rfl (pi_tup (pv 0)) (pg_name (i := 2) sc21.nd rfl (Or.inl rfl)) (pss_one (ps_if (pt_cmpR op_in_seq (pv 2) (pv 1) (by rfl)) (pss_one (ps_ret pe_bl)) pss_nil))) (pss_one (ps_ret pe_bl)), ?_⟩
      refine s_forT (ev_var rfl r1) sg (fun G1 H1 n1 => ⟨fun i σ' H' => Same H1 H' ∧ (∃ y, σ' = [some v1, some v2, y]) ∧ sharePt (a.take i) b = false, ⟨Same.refl _, ⟨none, rfl⟩, rfl⟩, fun i σ' H' p => p.1, fun i d x σ' H' hd rx p => ?_, fun σ' H' p => ?_⟩)
      · obtain ⟨s1, ⟨y, rfl⟩, e⟩ := p
        rw [List.getElem?_map] at hd
        cases hx : a[i]? with
        | none =>
          rw [hx] at hd
          cases hd
        | some z =>
          rw [hx] at hd
          cases hd
          refine s_if (eb_test (ev_op (ev_var rfl rx) (ev_var rfl (r2.up n1.gg)) opD_in)) (n1.gh.trans s1) (fun e1 H2 n2 => ?_) (fun e1 H2 n2 => ?_)
          · refine s_ret ev_bl ((n1.gh.trans s1).trans n2) (fun v G3 H3 n3 r3 => q v G3 H3 (n1.trans ((Nx.keep n1.gh (s1.trans n2)).trans n3)) ?_)
            rw [share_true hx e1]
            exact r3
          · exact ⟨s1.trans n2, ⟨_, rfl⟩, by rw [share_take hx, e, e1]; rfl⟩
      · obtain ⟨s1, ⟨y, rfl⟩, e⟩ := p
        dsimp only
        refine s_ret ev_bl (n1.gh.trans s1) (fun v G3 H3 n3 r3 => q v G3 H3 (n1.trans ((Nx.keep n1.gh s1).trans n3)) ?_)
        rw [List.length_map, List.take_length] at e
        rw [e]
        exact r3
end Ms

set_option Elab.async false
set_option linter.all false
set_option maxRecDepth 100000
/-! in_order, sets_below, other_points, meets_all -/
namespace Ms
open PySem PySem.Spec PyProof.Rows L2
variable {P : Program} {w : World} {K : PySem.W.Frag} {mg : Str → Option Value} {base : Heap}
theorem filt_all {α : Type} (l : List α) : l.filter (fun _ => true) = l := List.filter_eq_self.mpr fun _ _ => rfl
theorem grow_len : ∀ n : Nat, (grow n).length = 2 ^ n
  | 0 => rfl
  | n + 1 => by
    show (grow n ++ (grow n).map fun s => s ++ [(n : Int)]).length = _
    rw [List.length_append, List.length_map, grow_len n, Nat.pow_succ]
    omega
theorem grow_small {n : Nat} (h : n ≤ 8) : (grow n).length ≤ 256 := by
  rw [grow_len]
  exact Nat.pow_le_pow_right (by decide) h
theorem grow_first : ∀ n : Nat, ∃ r, grow n = [] :: r
  | 0 => ⟨[], rfl⟩
  | n + 1 => by
    obtain ⟨r, e⟩ := grow_first n
    exact ⟨r ++ (grow n).map fun s => s ++ [(n : Int)], by
      show (grow n ++ (grow n).map fun s => s ++ [(n : Int)]) = _
      rw [e]
      rfl⟩
theorem grow_elem : ∀ (n : Nat) (s : S), s ∈ grow n → s.length ≤ n
  | 0, s, h => by
    have : s = [] := by simpa [grow] using h
    subst this
    exact Nat.le_refl _
  | n + 1, s, h => by
    have h : s ∈ grow n ++ (grow n).map fun s => s ++ [(n : Int)] := h
    rcases List.mem_append.mp h with h | h
    · exact Nat.le_succ_of_le (grow_elem n s h)
    · obtain ⟨t, ht, rfl⟩ := List.mem_map.mp h
      have := grow_elem n t ht
      rw [List.length_append]
      exact Nat.succ_le_succ this
/-! sets_below -/
theorem sc23 : FnScope ["n", "found", "point", "one"] ["n"] (defScope (topS 23)) := ⟨rfl, rfl, rfl, by decide +kernel, rfl, by decide +kernel, by decide +kernel⟩
def R23 : List PyData → PyData → Prop := fun ds r => ∃ n : Nat, ds = [.int (n : Int)] ∧ n ≤ 8 ∧ r = encF (setsBelow n)
theorem R23_len (ds : List PyData) (r : PyData) (h : R23 ds r) : ds.length = 1 := by
  obtain ⟨n, rfl, _⟩ := h
  rfl
theorem grow_step {i : Nat} : (grow i).map encS ++ ((grow i).filter fun _ => true).map (fun s => encS (s ++ [(i : Int)])) = (grow (i + 1)).map encS := by
  rw [filt_all]
  show _ = (grow i ++ (grow i).map fun s => s ++ [(i : Int)]).map encS
  rw [List.map_append, List.map_map]
  rfl
theorem encS_cat {s : S} {i : Int} : encS (s ++ [i]) = .tuple (s.map .int ++ [.int i]) := by
  unfold encS
  rw [List.map_append]
  rfl
theorem ok23 {f : Addr} {fd : FuncData} (F : Fun K "sets_below" "sets_below" (topS 23) f fd) (b : Bt mg) : FnOk P w K mg base CX0 1 f fd ["n"] (spR R23) := by
  refine F.ok sc23 (spR_len R23_len) (fun cdv A outer s H vs Q E hr h => ?_)
  obtain ⟨G, ds, r, sg, k, ⟨n, rfl, h8, rfl⟩, q⟩ := h
  cases k with
  | @cons v1 _ _ _ r1 k =>
    cases k
    refine ⟨_, pss_cons (ps_set (i := 1) sc23.nd rfl (Or.inl rfl) (pe_lst (pa_cons (pe_tup pa_nil) pa_nil)))
      (pss_cons (ps_for PassesOwn.never rfl (pi_range1 (by rfl) b.range (pa_cons (pv 0) pa_nil)) (pg_name (i := 2) sc23.nd rfl (Or.inr rfl))
        (pss_one (ps_set (i := 1) sc23.nd rfl (Or.inl rfl) (pe_op op_cat (pv 1)
          (pe_lc (own := [("one", 3)]) (g := gName 3) (tt := tYes) (te := tOp (rCatA K) (tVar 3) (tTup (tCons (tVar 2) tNil))) (by rfl) sc23.nd (pi_list (pv 1)) (blkOk_by (own := [("one", 3)]) (N := ["n", "found", "point", "one"]) (sc := defScope (topS 23)) (by decide +kernel))
            (fun _ _ _ _ _ => pg_name (i := 3) sc23.nd rfl (Or.inl rfl)) (fun _ _ _ _ _ => pts_nil) (fun _ _ _ _ _ => pe_op op_catA (pv 3) (pe_tup (pa_cons (pv 2) pa_nil))))))))
      (pss_one (ps_ret (pe_callTy call_tuple_of (by rfl) b.tuple (by decide +kernel) (pa_cons (pe_callB (cr_so (enc := encS) hr.units) (by rfl) b.sorted (by decide +kernel) (pa_cons (pv 1) pa_nil)) pa_nil))))), ?_⟩
    refine s_asg (d := .list ((grow 0).map encS)) (ev_lst (ea1 (ev_tup ea_nil (Nat.zero_le _))) (by decide)) sg (fun v G1 H1 n1 rv => ?_)
    dsimp only
    refine s_forR (ea1 (ev_var rfl (r1.up n1.gg))) (by omega) n1.gh (fun H2 s2 => ⟨fun i σ' H' => ∃ G' v y2 y3, σ' = [some v1, some v, y2, y3] ∧ Nx G H G' H' ∧ Rp G' v (.list ((grow i).map encS)), ⟨G1, v, none, none, rfl, n1.trans (.keep n1.gh s2), rv⟩, fun i σ' H' hi p => ?_, fun σ' H' p => ?_⟩)
    · obtain ⟨G', v, y2, y3, rfl, n2, rv⟩ := p
      refine s_asg (d := .list ((grow (i + 1)).map encS)) ?_ n2.gh (fun v' G3 H3 n3 rv' => ⟨G3, v', _, _, rfl, n2.trans n3, rv'⟩)
      rw [← grow_step]
      have hg := grow_small (n := i) (by omega)
      refine ev_op (ev_var rfl rv) (ev_lcL (enc := encS) (keep := fun _ => true) (f := fun s => encS (s ++ [(i : Int)])) (ev_var rfl rv) (by omega) (fun _ => rfl) (fun _ _ _ _ _ _ => eb_yes) (fun t ht _ G4 x s4 rx => ?_)) (opD_cat ?_)
      · rw [encS_cat]
        have := grow_elem i t ht
        exact ev_op (ev_var rfl rx) (ev_tup (ea1 (ev_var rfl (.int _))) (by show 1 ≤ 100000; decide)) (opD_catA (by rw [List.length_map]; show t.length + 1 ≤ 100000; omega))
      · rw [List.length_map, List.length_map, filt_all]
        omega
    · obtain ⟨G', v, y2, y3, rfl, n2, rv⟩ := p
      dsimp only
      refine s_ret (d := encF (setsBelow n)) ?_ n2.gh (fun v' G3 H3 n3 rv' => q v' G3 H3 (n2.trans n3) rv')
      have hg := grow_small h8
      exact ev_cb (ea1 (ev_cb (ea1 (ev_var rfl rv)) (callD_sortS (.inr (grow_first n)) (by omega)))) callD_tuple
/-! other_points -/
theorem sc25 : FnScope ["n", "one", "point"] ["n", "one"] (defScope (topS 25)) := ⟨rfl, rfl, rfl, by decide +kernel, rfl, by decide +kernel, by decide +kernel⟩
def R25 : List PyData → PyData → Prop := fun ds r => ∃ (n : Nat) (one : S), ds = [.int (n : Int), encS one] ∧ n ≤ 8 ∧ r = encS (otherPts n one)
theorem R25_len (ds : List PyData) (r : PyData) (h : R25 ds r) : ds.length = 2 := by
  obtain ⟨n, one, rfl, _⟩ := h
  rfl
theorem ok25 {f : Addr} {fd : FuncData} (F : Fun K "other_points" "other_points" (topS 25) f fd) (b : Bt mg) : FnOk P w K mg base CX0 1 f fd ["n", "one"] (spR R25) := by
  refine F.ok sc25 (spR_len R25_len) (fun cdv A outer s H vs Q E hr h => ?_)
  obtain ⟨G, ds, r, sg, k, ⟨n, one, rfl, h8, rfl⟩, q⟩ := h
  cases k with
  | @cons v1 _ _ _ r1 k =>
    cases k with
    | @cons v2 _ _ _ r2 k =>
      cases k
      refine ⟨_, pss_one (ps_ret (pe_callTy call_tuple_of (by rfl) b.tuple (by decide +kernel) (pa_cons
          (pe_lc (own := [("point", 2)]) (g := gName 2) (tt := tTest (tOp (rIn _ true) (tVar 2) (tVar 1))) (by rfl) sc25.nd (pi_range1 (by rfl) b.range (pa_cons (pv 0) pa_nil)) (blkOk_by (own := [("point", 2)]) (N := ["n", "one", "point"]) (sc := defScope (topS 25)) (by decide +kernel))
            (fun _ _ _ _ _ => pg_name (i := 2) sc25.nd rfl (Or.inl rfl)) (fun _ _ _ _ _ => pts_one (pt_cmpR op_notIn_seq (pv 2) (pv 1) (by rfl))) (fun _ _ _ _ _ => pv 2)) pa_nil))), ?_⟩
      refine s_ret (d := encS (otherPts n one)) (ev_cb (ea1 (ev_lcR (keep := fun p => !inI p one) (f := PyData.int) (ea1 (ev_var rfl r1)) (by omega) (fun _ => rfl) (fun p => ?_) (fun p _ => ev_var rfl (.int p)))) callD_tuple) sg q
      exact eb_test (ev_op (ev_var rfl (.int p)) (ev_var rfl r2) opD_notIn)
/-! meets_all -/
theorem sc27 : FnScope ["family", "one", "other"] ["family", "one"] (defScope (topS 27)) := ⟨rfl, rfl, rfl, by decide +kernel, rfl, by decide +kernel, by decide +kernel⟩
def R27 : List PyData → PyData → Prop := fun ds r => ∃ (fam : F) (one : S), ds = [encL fam, encS one] ∧ r = .bool (meetsAll fam one)
theorem R27_len (ds : List PyData) (r : PyData) (h : R27 ds r) : ds.length = 2 := by
  obtain ⟨n, one, rfl, _⟩ := h
  rfl
theorem meets_no {fam : F} {one o : S} {i : Nat} (hne : one ≠ []) (h : fam[i]? = some o) (e : sharePt one o = false) : meetsAll fam one = false := by
  unfold meetsAll
  rw [if_neg hne]
  refine Bool.eq_false_iff.mpr fun z => ?_
  have := List.all_eq_true.mp z o (List.mem_of_getElem? h)
  rw [e] at this
  cases this
theorem all_take {α : Type} {p : α → Bool} {l : List α} {i : Nat} {x : α} (h : l[i]? = some x) (h1 : (l.take i).all p = true) (h2 : p x = true) : (l.take (i + 1)).all p = true := by
  rw [take_more h, List.all_append, h1]
  simp [h2]
theorem map_at {α : Type} {enc : α → PyData} {l : List α} {i : Nat} {d : PyData} (h : (l.map enc)[i]? = some d) : ∃ a, l[i]? = some a ∧ d = enc a := by
  rw [List.getElem?_map] at h
  cases hx : l[i]? with
  | none =>
    rw [hx] at h
    cases h
  | some a =>
    rw [hx] at h
    exact ⟨a, rfl, (Option.some.inj h).symm⟩
theorem ok27 {f : Addr} {fd : FuncData} (F : Fun K "meets_all" "meets_all" (topS 27) f fd) (c : Cl P w K mg base CX0 1 "share_point" (spR R21)) : FnOk P w K mg base CX0 2 f fd ["family", "one"] (spR R27) := by
  refine F.ok sc27 (spR_len R27_len) (fun cdv A outer s H vs Q E hr h => ?_)
  obtain ⟨G, ds, r, sg, k, ⟨fam, one, rfl, rfl⟩, q⟩ := h
  cases k with
  | @cons v1 _ _ _ r1 k =>
    cases k with
    | @cons v2 _ _ _ r2 k =>
      cases k
      refine ⟨_, pss_cons (ps_if (pt_cmpR (op_eqD hr.units) (pv 1) (pe_tup pa_nil) (nomark _)) (pss_one (ps_ret pe_bl)) pss_nil)
        (pss_cons (ps_for PassesOwn.never rfl (pi_list (pv 0)) (pg_name (i := 2) sc27.nd rfl (Or.inl rfl)) (pss_one (ps_if (pt_not (pt_val (pe_cl c hr (Nat.le_refl _) pass0 (by rfl) (pa_cons (pv 1) (pa_cons (pv 2) pa_nil))))) (pss_one (ps_ret pe_bl)) pss_nil))) (pss_one (ps_ret pe_bl))), ?_⟩
      refine s_if (b := decide (one = [])) (eb_test (ev_op (ev_var rfl r2) (ev_tup ea_nil (Nat.zero_le _)) (opD_eqS (b := [])))) sg (fun e H1 n1 => ?_) (fun e H1 n1 => ?_)
      · refine s_ret ev_bl (sg.trans n1) (fun v G3 H3 n3 r3 => q v G3 H3 ((Nx.keep sg n1).trans n3) ?_)
        unfold meetsAll
        rw [if_pos (of_decide_eq_true e)]
        exact r3
      · have hne : one ≠ [] := of_decide_eq_false e
        refine s_forL (ds := fam.map encS) (ev_var rfl r1) (sg.trans n1) (fun G1 H2 n2 => ⟨fun i σ' H' => Same H2 H' ∧ (∃ y, σ' = [some v1, some v2, y]) ∧ (fam.take i).all (fun o => sharePt one o) = true, ⟨Same.refl _, ⟨none, rfl⟩, rfl⟩, fun i σ' H' p => p.1, fun i d x σ' H' hd rx p => ?_, fun σ' H' p => ?_⟩)
        · obtain ⟨s1, ⟨y, rfl⟩, e1⟩ := p
          obtain ⟨o, ho, rfl⟩ := map_at hd
          refine s_if (eb_not (eb_B (ev_call (ea2 (ev_var rfl (r2.up n2.gg)) (ev_var rfl rx)) ⟨one, o, rfl, rfl⟩))) (n2.gh.trans s1) (fun e2 H3 n3 => ?_) (fun e2 H3 n3 => ?_)
          · refine s_ret ev_bl ((n2.gh.trans s1).trans n3) (fun v G4 H4 n4 r4 => q v G4 H4 (((Nx.keep sg n1).trans n2).trans ((Nx.keep n2.gh (s1.trans n3)).trans n4)) ?_)
            rw [meets_no hne ho (by simpa using e2)]
            exact r4
          · exact ⟨s1.trans n3, ⟨_, rfl⟩, all_take ho e1 (by simpa using e2)⟩
        · obtain ⟨s1, ⟨y, rfl⟩, e1⟩ := p
          dsimp only
          refine s_ret ev_bl (n2.gh.trans s1) (fun v G4 H4 n4 r4 => q v G4 H4 (((Nx.keep sg n1).trans n2).trans ((Nx.keep n2.gh s1).trans n4)) ?_)
          rw [List.length_map, List.take_length] at e1
          unfold meetsAll
          rw [if_neg hne, e1]
          exact r4
/-! in_order -/
theorem sc22 : FnScope ["sets", "one"] ["sets"] (defScope (topS 22)) := ⟨rfl, rfl, rfl, by decide +kernel, rfl, by decide +kernel, by decide +kernel⟩
def R22 : List PyData → PyData → Prop := fun ds r => ∃ fam : F, ds = [encL fam] ∧ fam.Nodup ∧ (∀ s ∈ fam, s ≠ []) ∧ fam.length ≤ 64 ∧ r = encF (inOrder fam)
theorem R22_len (ds : List PyData) (r : PyData) (h : R22 ds r) : ds.length = 1 := by
  obtain ⟨n, rfl, _⟩ := h
  rfl
theorem ok22 {f : Addr} {fd : FuncData} (F : Fun K "in_order" "in_order" (topS 22) f fd) (b : Bt mg) : FnOk P w K mg base CX0 1 f fd ["sets"] (spR R22) := by
  refine F.ok sc22 (spR_len R22_len) (fun cdv A outer s H vs Q E hr h => ?_)
  obtain ⟨G, ds, r, sg, k, ⟨fam, rfl, nd, hne, hl, rfl⟩, q⟩ := h
  cases k with
  | @cons v1 _ _ _ r1 k =>
    cases k
    refine ⟨_, pss_one (ps_ret (pe_callTy call_tuple_of (by rfl) b.tuple (by decide +kernel) (pa_cons (pe_callB (cr_sortK (by rfl) hr.units) (by rfl) b.sorted (by decide +kernel) (pa_cons
      (pe_callTy (cr_dictT (by rfl) hr.units) (by rfl) b.dict (by decide +kernel) (pa_cons
        (pe_lc (own := [("one", 1)]) (g := gName 1) (tt := tYes) (by rfl) sc22.nd (pi_list (pv 0)) (blkOk_by (own := [("one", 1)]) (N := ["sets", "one"]) (sc := defScope (topS 22)) (by decide +kernel))
            (fun _ _ _ _ _ => pg_name (i := 1) sc22.nd rfl (Or.inl rfl)) (fun _ _ _ _ _ => pts_nil) (fun _ _ _ _ _ => pe_tup (pa_cons (pv 1) (pa_cons pe_bl pa_nil)))) pa_nil)) pa_nil)) pa_nil))), ?_⟩
    refine s_ret (d := encF (inOrder fam)) (ev_cb (ea1 (ev_sortDict (f := fam) ?_ nd hne (by omega))) callD_tuple) sg q
    refine (ev_lcL (bs := fam) (enc := encS) (keep := fun _ => true) (f := fun s => PyData.tuple [encS s, .bool true]) (ev_var rfl r1) (by omega) (fun _ => rfl) (fun _ _ _ _ _ _ => eb_yes) (fun t ht _ G4 x s4 rx => ?_)).is (by rw [filt_all])
    exact ev_tup (ea2 (ev_var rfl rx) ev_bl) (by show 2 ≤ 100000; decide)
end Ms

set_option Elab.async false
set_option linter.all false
set_option maxRecDepth 100000
/-! all_choices -/
namespace Ms
open PySem PySem.Spec PyProof.Rows L2
variable {P : Program} {w : World} {K : PySem.W.Frag} {mg : Str → Option Value} {base : Heap}
/-- longer.extend(e), longer the list at D -/
theorem lci_ext {G1 H1 H : Hp} {D : Addr} {ds es : List PyData} {σ : Sl} {te : TE} {i : Nat} {N : Hp → Prop} (hD : H1 D = none) (h : LcI G1 H1 D ds H) (hv : σ[i]? = some (some (.ref D))) (he : EvD te σ G1 (.list es)) (hl : ds.length + es.length ≤ sizeLine)
    (hN : ∀ H', LcI G1 H1 D (ds ++ es) H' → N H') : tBM K "list" rExtend (tVar i) (tCons te tNil) σ H (fun _ H' => N H') := by
  obtain ⟨Gi, vs', e, r, s1, s2, s3, fr, gD⟩ := h.ex
  refine ⟨.ref D, hv, Or.inl ⟨rfl, vs', SqL.of e⟩, (he.up s2) H s3 _ fun y G4 H4 n4 r4 => ?_⟩
  cases r4 with
  | @lst b zs _ e4 k4 =>
    have hDn : H D ≠ none := by
      rw [e]
      exact fun z => by cases z
    have g4 : G4 D = none := by rw [n4.fr D hDn, gD]
    have e5 : H4 D = some (.lst vs') := n4.hh _ _ e
    have u4 : Same G4 (upd H4 D (.lst (vs' ++ zs))) := fun b o q => by
      rw [upd_ne (fun z => by rw [z, g4] at q; cases q)]
      exact n4.gh b o q
    refine ⟨D, b, vs', zs, rfl, rfl, e5, n4.gh _ _ e4, by rw [r.len, k4.len]; exact hl, hN _ ⟨G4, vs' ++ zs, upd_same, (r.up n4.gg).app k4, ?_, s2.trans n4.gg, u4, fun a ha => ?_, g4⟩⟩
    · intro b o q
      rw [upd_ne (ne_of_none q hD)]
      exact n4.hh b o (s1 b o q)
    · have ha3 : H a ≠ none := by
        cases q : H1 a with
        | none => exact absurd q ha
        | some o =>
          rw [s1 _ _ q]
          exact fun z => by cases z
      rw [n4.fr a ha3, fr a ha]
/-- for x in xs, xs a name -/
theorem s_forLv {σ : Sl} {G H : Hp} {v : V} {D : Ends} {tu : TS} {ds : List PyData} {i j : Nat} (h : σ[i]? = some (some v)) (r : Rp G v (.list ds)) (s : Same G H)
    (k : ∃ Pv : Nat → Sl → Hp → Prop, Pv 0 σ H ∧ (∀ i σ' H', Pv i σ' H' → Same G H') ∧
      (∀ i d x σ' H', ds[i]? = some d → Rp G x d → Pv i σ' H' → tu { D with nx := Pv (i + 1), ct := Pv (i + 1), bk := D.nx } (σ'.set j (some x)) H') ∧ ∀ σ' H', Pv ds.length σ' H' → D.nx σ' H') :
    tFor (iList K (tVar i)) (gName j) tu D σ H := by
  refine ⟨v, h, ?_⟩
  cases r with
  | @lst a vs _ e kk =>
    obtain ⟨Pv, p0, ps, pt, pd⟩ := k
    refine ⟨a, rfl, ⟨_, SqL.of (s _ _ e)⟩, for_list (K := K) (a := a) (xs := vs) Pv p0 (fun i σ' H' _ p => SqL.of (ps i σ' H' p _ _ e)) (fun i x σ' H' hx p => ?_) (fun σ' H' p => pd σ' H' (by rw [← kk.len]; exact p))⟩
    obtain ⟨d, hd, rd⟩ := kk.at hx
    exact pt i d x σ' H' hd rd p
/-! the plain side -/
def st (n i : Nat) : List F := ((setsBelow n).take i).foldl (step n) [[]]
def nx (n : Nat) (one : S) (some : F) : List F := ([one, otherPts n one].filter fun two => meetsAll some two).map fun two => some ++ [two]
theorem st_succ {n i : Nat} {one : S} (h : (setsBelow n)[i]? = some one) : st n (i + 1) = step n (st n i) one := by
  unfold st
  rw [take_more h, List.foldl_append]
  rfl
theorem st_all {n : Nat} : st n (setsBelow n).length = allChoices n := by
  unfold st
  rw [List.take_length]
  rfl
theorem nx_len (n : Nat) (one : S) (some : F) : (nx n one some).length ≤ 2 := by
  unfold nx
  rw [List.length_map]
  exact List.length_filter_le _ _
theorem flat_len {n : Nat} {one : S} : ∀ l : List F, (l.flatMap (nx n one)).length ≤ 2 * l.length
  | [] => Nat.le_refl _
  | x :: l => by
    have := flat_len l (n := n) (one := one)
    have := nx_len n one x
    rw [List.flatMap_cons, List.length_append, List.length_cons]
    omega
theorem step_no {n : Nat} {found : List F} {one : S} (h : inI 0 one = false) : step n found one = found.flatMap (nx n one) := by
  unfold step
  rw [h, if_neg Bool.false_ne_true]
  rfl
theorem step_yes {n : Nat} {found : List F} {one : S} (h : inI 0 one = true) : step n found one = found := by
  unfold step
  rw [h, if_pos rfl]
theorem fold_len (n : Nat) : ∀ (l : F) (found : List F), (l.foldl (step n) found).length ≤ 2 ^ (l.countP fun s => !inI 0 s) * found.length
  | [], found => by simp
  | x :: l, found => by
    rw [List.foldl_cons, List.countP_cons]
    refine Nat.le_trans (fold_len n l _) ?_
    cases h : inI 0 x with
    | true =>
      rw [step_yes h]
      simp
    | false =>
      rw [step_no h]
      have := flat_len (n := n) (one := x) found
      simp only [Bool.not_false, if_true, Nat.pow_succ]
      rw [Nat.mul_assoc]
      exact Nat.mul_le_mul_left _ this
theorem cnt16 {n : Nat} (h : n ≤ 5) : (setsBelow n).countP (fun s => !inI 0 s) ≤ 16 := by
  have h6 : n < 6 := by omega
  match n, h6 with
  | 0, _ => decide +kernel
  | 1, _ => decide +kernel
  | 2, _ => decide +kernel
  | 3, _ => decide +kernel
  | 4, _ => decide +kernel
  | 5, _ => decide +kernel
theorem st_len {n i : Nat} (h : n ≤ 5) : (st n i).length ≤ 65536 := by
  have h1 := fold_len n ((setsBelow n).take i) [[]]
  have h2 : ((setsBelow n).take i).countP (fun s => !inI 0 s) ≤ 16 := Nat.le_trans (List.Sublist.countP_le (List.take_sublist i _)) (cnt16 h)
  have h3 : 2 ^ (((setsBelow n).take i).countP fun s => !inI 0 s) ≤ 2 ^ 16 := Nat.pow_le_pow_right (by decide) h2
  unfold st
  have : ([[]] : List F).length = 1 := rfl
  rw [this, Nat.mul_one] at h1
  exact Nat.le_trans h1 h3
theorem fold_elem (n m : Nat) : ∀ (l : F) (found : List F), (∀ f ∈ found, f.length ≤ m) → ∀ f ∈ l.foldl (step n) found, f.length ≤ m + l.length
  | [], found, h, f, hf => h f hf
  | x :: l, found, h, f, hf => by
    rw [List.foldl_cons] at hf
    have := fold_elem n (m + 1) l (step n found x) (fun g hg => by
      cases e : inI 0 x with
      | true =>
        rw [step_yes e] at hg
        exact Nat.le_succ_of_le (h g hg)
      | false =>
        rw [step_no e] at hg
        obtain ⟨k, hk, hg⟩ := List.mem_flatMap.mp hg
        unfold nx at hg
        obtain ⟨t, _, rfl⟩ := List.mem_map.mp hg
        rw [List.length_append]
        exact Nat.succ_le_succ (h k hk)) f hf
    rw [List.length_cons]
    omega
theorem below_len {n : Nat} (h : n ≤ 8) : (setsBelow n).length ≤ 256 := by
  unfold setsBelow
  rw [(isort_perm _).length_eq]
  exact grow_small h
theorem st_elem {n i : Nat} (h : n ≤ 8) {f : F} (hf : f ∈ st n i) : f.length ≤ 256 := by
  have := fold_elem n 0 ((setsBelow n).take i) [[]] (fun f hf => by
    have : f = [] := by simpa using hf
    rw [this]
    exact Nat.le_refl _) f hf
  have := below_len h
  rw [List.length_take] at *
  omega
/-! the walk -/
theorem sc30 : FnScope ["n", "found", "one", "longer", "some", "two"] ["n"] (defScope (topS 30)) := ⟨rfl, rfl, rfl, by decide +kernel, rfl, by decide +kernel, by decide +kernel⟩
def R30 : List PyData → PyData → Prop := fun ds r => ∃ n : Nat, ds = [.int (n : Int)] ∧ n ≤ 5 ∧ r = .list ((allChoices n).map encL)
theorem R30_len (ds : List PyData) (r : PyData) (h : R30 ds r) : ds.length = 1 := by
  obtain ⟨n, rfl, _⟩ := h
  rfl
theorem encL_cat {f : F} {s : S} : encL (f ++ [s]) = .list (f.map encS ++ [encS s]) := by
  unfold encL
  rw [List.map_append]
  rfl
theorem flat_take {α β : Type} {g : α → List β} {l : List α} {i : Nat} {x : α} (h : l[i]? = some x) : (l.take (i + 1)).flatMap g = (l.take i).flatMap g ++ g x := by
  rw [take_more h, List.flatMap_append]
  simp
theorem ok30 {f : Addr} {fd : FuncData} (F : Fun K "all_choices" "all_choices" (topS 30) f fd) (c23 : Cl P w K mg base CX0 1 "sets_below" (spR R23)) (c25 : Cl P w K mg base CX0 1 "other_points" (spR R25)) (c27 : Cl P w K mg base CX0 2 "meets_all" (spR R27)) :
    FnOk P w K mg base CX0 3 f fd ["n"] (spR R30) := by
  refine F.ok sc30 (spR_len R30_len) (fun cdv A outer s H vs Q E hr h => ?_)
  obtain ⟨G, ds, r, sg, k, ⟨n, rfl, h5, rfl⟩, q⟩ := h
  cases k with
  | @cons v1 _ _ _ r1 k =>
    cases k
    refine ⟨_, pss_cons (ps_set (i := 1) sc30.nd rfl (Or.inl rfl) (pe_lst (pa_cons (pe_lst pa_nil) pa_nil)))
      (pss_cons (ps_for PassesOwn.never rfl (pi_tup (pe_cl c23 hr (by decide) pass0 (by rfl) (pa_cons (pv 0) pa_nil))) (pg_name (i := 2) sc30.nd rfl (Or.inl rfl))
        (pss_one (ps_if (pt_cmpR op_notIn_seq pe_int (pv 2) (by rfl))
          (pss_cons (ps_set (i := 3) sc30.nd rfl (Or.inl rfl) (pe_lst pa_nil))
          (pss_cons (ps_for PassesOwn.never rfl (pi_list (pv 1)) (pg_name (i := 4) sc30.nd rfl (Or.inr rfl))
            (pss_one (ps_expr (pe_bm PySem.F.plainAttrs_list PySem.F.slot_list_extend PySem.F.type_list_extend mt_extend (pv 3) (pa_cons
              (pe_lc (own := [("two", 5)]) (g := gName 5) (tt := tB (tCall (spR R27) [] E0 (tCons (tVar 4) (tCons (tVar 5) tNil)))) (by rfl) sc30.nd (pi_tup (pe_tup (pa_cons (pv 2) (pa_cons (pe_cl c25 hr (by decide) pass0 (by rfl) (pa_cons (pv 0) (pa_cons (pv 2) pa_nil))) pa_nil))))
                (blkOk_by (own := [("two", 5)]) (N := ["n", "found", "one", "longer", "some", "two"]) (sc := defScope (topS 30)) (by decide +kernel))
                (fun _ _ _ _ _ => pg_name (i := 5) sc30.nd rfl (Or.inl rfl)) (fun _ _ _ _ _ => pts_one (pt_val (pe_cl (j := 2) c27 hr (by decide) pass0 (by rfl) (pa_cons (pv 4) (pa_cons (pv 5) pa_nil))))) (fun _ _ _ _ _ => pe_op op_cat (pv 4) (pe_lst (pa_cons (pv 5) pa_nil)))) pa_nil)))))
          (pss_one (ps_set (i := 1) sc30.nd rfl (Or.inl rfl) (pv 3))))) pss_nil)))
      (pss_one (ps_ret (pv 1)))), ?_⟩
    refine s_asg (d := .list ((st n 0).map encL)) (ev_lst (ea1 (ev_lst ea_nil (Nat.zero_le _))) (by show 1 ≤ 100000; decide)) sg (fun v G1 H1 n1 rv => ?_)
    dsimp only
    refine s_forT (ds := (setsBelow n).map encS) (ev_call (ea1 (ev_var rfl (r1.up n1.gg))) ⟨n, rfl, by omega, rfl⟩) n1.gh (fun Ga Ha na => ⟨fun i σ' H' => ∃ G' v y2 y3 y4 y5, σ' = [some v1, some v, y2, y3, y4, y5] ∧ Nx Ga Ha G' H' ∧ Rp G' v (.list ((st n i).map encL)),
      ⟨Ga, v, none, none, none, none, rfl, .refl na.gh, rv.up na.gg⟩, fun i σ' H' p => ?_, fun i d x σ' H' hd rx p => ?_, fun σ' H' p => ?_⟩)
    · obtain ⟨_, _, _, _, _, _, _, n2, _⟩ := p
      exact n2.hh
    · obtain ⟨G', v, y2, y3, y4, y5, rfl, n2, rv⟩ := p
      obtain ⟨one, ho, rfl⟩ := map_at hd
      refine s_if (eb_test (ev_op ev_int (ev_var rfl (rx.up n2.gg)) (opD_notIn (ns := one)))) n2.gh (fun e3 H3 n3 => ?_) (fun e3 H3 n3 => ?_)
      · have e3 : inI 0 one = false := by simpa using e3
        -- longer = []
        refine ⟨Nat.zero_le _, fun D hD => ?_⟩
        have g3 : Same G' H3 := n2.gh.trans n3
        have r1' : Rp G' v1 (.int (n : Int)) := (r1.up (n1.trans na).gg).up n2.gg
        have rx' := rx.up n2.gg
        -- the inner loop
        refine s_forLv (ds := (st n i).map encL) (i := 1) rfl rv (g3.trans (same_new hD)) ⟨fun j σ' H' => (∃ y4 y5, σ' = [some v1, some v, some x, some (.ref D), y4, y5]) ∧ LcI G' H3 D ((((st n i).take j).flatMap (nx n one)).map encL) H', ⟨⟨_, _, rfl⟩, LcI.start g3 hD⟩, ?_, ?_, ?_⟩
        · intro j σ' H' p
          obtain ⟨_, _, _, _, s1, _⟩ := p.2.ex
          exact g3.trans s1
        · intro j d z σ' H' hd rz p
          obtain ⟨⟨y4, y5, rfl⟩, L⟩ := p
          obtain ⟨so, hso, rfl⟩ := map_at hd
          have hsl := st_elem (n := n) (i := i) (by omega) (List.mem_of_getElem? hso)
          have hfl := flat_len (n := n) (one := one) ((st n i).take j)
          have hst := st_len (i := i) h5
          refine lci_ext (es := (nx n one so).map encL) hD L rfl ?_ ?_ (fun H' L' => ⟨⟨_, _, rfl⟩, ?_⟩)
          · refine (ev_lcT (bs := [one, otherPts n one]) (enc := encS) (keep := fun two => meetsAll so two) (f := fun two => encL (so ++ [two])) (ev_tup (ea2 (ev_var rfl rx') (ev_call (ea2 (ev_var rfl r1') (ev_var rfl rx')) ⟨n, one, rfl, by omega, rfl⟩)) (by show 2 ≤ 100000; decide))
              (by show 2 < 100000; decide) (fun _ => rfl) (fun two _ G4 y s4 ry => ?_) (fun two _ _ G4 y s4 ry => ?_)).is ?_
            · exact eb_B (ev_call (ea2 (ev_var rfl (rz.up s4)) (ev_var rfl ry)) ⟨so, two, rfl, rfl⟩)
            · rw [encL_cat]
              exact ev_op (ev_var rfl (rz.up s4)) (ev_lst (ea1 (ev_var rfl ry)) (by show 1 ≤ 100000; decide)) (opD_cat (by rw [List.length_map]; show so.length + 1 ≤ 100000; omega))
            · unfold nx
              rw [List.map_map]
              rfl
          · rw [List.length_map, List.length_map]
            have := nx_len n one so
            rw [List.length_take] at hfl
            rw [sizeLine_eq]
            omega
          · rw [flat_take hso, List.map_append]
            exact L'
        · intro σ' H' p
          obtain ⟨⟨y4, y5, rfl⟩, L⟩ := p
          obtain ⟨G5, n5, r5⟩ := L.fin hD
          refine ⟨.ref D, rfl, ?_⟩
          rw [List.length_map, List.take_length, ← step_no (n := n) e3, ← st_succ ho] at r5
          exact ⟨G5, _, _, _, _, _, rfl, (n2.trans (.keep n2.gh n3)).trans n5, r5⟩
      · refine ⟨G', v, _, y3, y4, y5, rfl, n2.trans (.keep n2.gh n3), ?_⟩
        rw [st_succ ho, step_yes (by simpa using e3)]
        exact rv
    · obtain ⟨G', v, y2, y3, y4, y5, rfl, n2, rv⟩ := p
      dsimp only
      rw [List.length_map, st_all] at rv
      exact s_ret (ev_var rfl rv) n2.gh (fun v' G3 H3 n3 rv' => q v' G3 H3 ((n1.trans na).trans (n2.trans n3)) rv')
end Ms

set_option Elab.async false
set_option linter.all false
set_option maxRecDepth 100000
/-! TooGreat, need_few, full_many, all_full -/
namespace Ms
open PySem PySem.Spec PyProof.Rows L2
variable {P : Program} {w : World} {K : PySem.W.Frag} {mg : Str → Option Value} {base : Heap}
/-- the class TooGreat at C, its __init__ at fI -/
structure TgC (K : PySem.W.Frag) (C : Addr) : Prop where
  ox : OexC K C
  nM : PySem.W.findIn K (.ref C) "many" = some none
  nO : PySem.W.findIn K (.ref C) "most" = some none
theorem scI : FnScope ["self", "many", "most"] ["self", "many", "most"] (defScope (inClass (topS 13) 0)) := ⟨rfl, rfl, rfl, by decide +kernel, rfl, by decide +kernel, by decide +kernel⟩
def spI (K : PySem.W.Frag) (C : Addr) : Sp := fun vs H Q _ => ∃ (a : Addr) (x y : V), vs = [.ref a, x, y] ∧ TgC K C ∧ H a = some (exo a C none) ∧
  ∀ dx, H dx = none → dx ≠ a → Q .non (upd (upd (upd H dx (exd dx [("many", x)])) a (exo a C (some dx))) dx (exd dx [("most", y), ("many", x)]))
theorem okI {C f : Addr} {fd : FuncData} (F : Fun K "__init__" "TooGreat.__init__" (inClass (topS 13) 0) f fd) : FnOk P w K mg base CX0 1 f fd ["self", "many", "most"] (spI K C) := by
  refine F.ok scI (fun vs H Q E h => ?_) (fun cdv A outer s H vs Q E hr h => ?_)
  · obtain ⟨a, x, y, rfl, _⟩ := h
    rfl
  · obtain ⟨a, x, y, rfl, T, ea, q⟩ := h
    refine ⟨_, pss_cons (ps_ost (pv 0) (pv 1)) (pss_one (ps_ost (pv 0) (pv 2))), ?_⟩
    refine ⟨x, rfl, .ref a, rfl, a, C, rfl, T.ox, T.nM, Or.inl ⟨ea, fun dx hd hne => ?_⟩⟩
    refine ⟨y, rfl, .ref a, rfl, a, C, rfl, T.ox, T.nO, Or.inr ⟨dx, [("many", x)], upd_same, ?_, by show 1 ≤ 900; decide, q dx hd hne⟩⟩
    rw [upd_ne hne]
    exact upd_same
/-! need_few -/
theorem sc20 : FnScope ["many", "most"] ["many", "most"] (defScope (topS 20)) := ⟨rfl, rfl, rfl, by decide +kernel, rfl, by decide +kernel, by decide +kernel⟩
/-- what a refusal leaves -/
def Ref (C : Addr) (E : XK) (H : Hp) (m k : Int) : Prop := ∀ d H2, Same H H2 → H d = none → H2 d = some (.xd [("most", .int k), ("many", .int m)]) → E (.ref C) (some d) H2
def sp20 (C : Addr) : Sp := fun vs H Q E => ∃ m k : Int, vs = [.int m, .int k] ∧ (m ≤ k → ∀ H2, Same H H2 → Q .non H2) ∧ (k < m → Ref C E H m k)
theorem ok20 {C fI : Addr} {fdI : FuncData} {f : Addr} {fd : FuncData} (T : TgC K C) (iC : PySem.W.findIn K (.ref C) "__init__" = some (some (.ref fI))) (tI : PySem.W.typeIn K (.ref fI) = some (.type "function"))
    (FI : FnOk P w K mg base CX0 1 fI fdI ["self", "many", "most"] (spI K C)) (bI : Binds K fdI ["self", "many", "most"] []) (gC : mg "TooGreat" = some (.ref C))
    (F : Fun K "need_few" "need_few" (topS 20) f fd) : FnOk P w K mg base (L2N.CX P w) 3 f fd ["many", "most"] (sp20 C) := by
  refine okN F sc20 (fun vs H Q E h => ?_) (fun cdv A outer s H vs Q E hr h => ?_)
  · obtain ⟨m, k, rfl, _⟩ := h
    rfl
  · obtain ⟨m, k, rfl, h1, h2⟩ := h
    refine ⟨_, pss_one (ps_if (pt_cmpR op_gt (pv 0) (pv 1) (nomark _)) (pss_one (L2N.ps_raise rfl (L2N.takes_of rfl rfl rfl rfl) (pmk_oexN T.ox iC tI FI hr bI pass0 (by rfl) gC (pa_cons (pv 0) (pa_cons (pv 1) pa_nil))))) pss_nil), ?_⟩
    refine s_if (G := fun _ => none) (eb_test (ev_op (ev_var rfl (.int m)) (ev_var rfl (.int k)) opD_B)) (fun _ _ e => by cases e) (fun e H1 n1 => ?_) (fun e H1 n1 => ?_)
    · refine ⟨_, rfl, _, rfl, by show 2 ≤ 1000; decide, fun a ha => ⟨a, .int m, .int k, rfl, T, upd_same, fun dx hd hne => ⟨rfl, dx, _, ?_, upd_same, ?_, ?_⟩⟩⟩
      · rw [upd_ne hne.symm]
        exact upd_same
      · rw [upd_ne hne] at hd
        exact hd
      · rw [upd_ne hne] at hd
        refine h2 (by simpa using e) dx _ (fun b o z => ?_) (n1.free hd) upd_same
        have z1 := n1 _ _ z
        have b1 : b ≠ a := ne_of_none z1 ha
        have b2 : b ≠ dx := ne_of_none z1 hd
        rw [upd_ne b2, del_ne b1, upd_ne b2, upd_ne b1, upd_ne b2, upd_ne b1]
        exact z1
    · exact h1 (by simpa using e) H1 n1
/-! full_many, all_full -/
theorem sc31 : FnScope ["n"] ["n"] (defScope (topS 31)) := ⟨rfl, rfl, rfl, by decide +kernel, rfl, by decide +kernel, by decide +kernel⟩
theorem sc32 : FnScope ["n", "some"] ["n"] (defScope (topS 32)) := ⟨rfl, rfl, rfl, by decide +kernel, rfl, by decide +kernel, by decide +kernel⟩
/-- an answer where n is no more than 5, else a refusal -/
def spX (C : Addr) (val : Nat → PyData) : Sp := fun vs H Q E => ∃ n : Nat, vs = [.int (n : Int)] ∧ 1 ≤ n ∧ n ≤ 8 ∧ (n ≤ 5 → ∃ G, Same G H ∧ ∀ v G2 H2, Nx G H G2 H2 → Rp G2 v (val n) → Q v H2) ∧ (5 < n → Ref C E H (n : Int) 5)
theorem spX_len {C : Addr} {val : Nat → PyData} (vs : List V) (H : Hp) (Q : VK) (E : XK) (h : spX C val vs H Q E) : vs.length = 1 := by
  obtain ⟨n, rfl, _⟩ := h
  rfl
theorem Ref.up {C : Addr} {E : XK} {H H1 : Hp} {m k : Int} (r : Ref C E H m k) (s : Same H H1) : Ref C E H1 m k := fun d H2 s2 h => r d H2 (s.trans s2) (s.free h)
/-- need_ground(n); need_few(n, MOST_TOLD) -/
theorem s_need {C : Addr} {E : XK} {D : Ends} {G H : Hp} {σ : Sl} {n : Nat} {tu : TS} (hv : σ[0]? = some (some (.int (n : Int)))) (h1 : 1 ≤ n) (h8 : n ≤ 8) (sg : Same G H)
    (k1 : n ≤ 5 → ∀ H2, Same H H2 → tu D σ H2) (k2 : 5 < n → Ref C E H (n : Int) 5) :
    tSeq (tDrop (tCall (spR R19) [] E0 (tCons (tVar 0) tNil))) (tSeq (tDrop (tCall (sp20 C) [] E (tCons (tVar 0) (tCons (tC (.int 5)) tNil)))) tu) D σ H := by
  refine s_drop (d := .none) (ev_call (ea1 (ev_var hv (.int _))) ⟨n, rfl, by omega, by omega, rfl⟩) sg (fun H1 n1 => ?_)
  refine ⟨.int (n : Int), hv, n, 5, rfl, fun h H2 n2 => k1 (by omega) H2 (n1.trans n2), fun h => (k2 (by omega)).up n1⟩
theorem ok31 {C : Addr} {f : Addr} {fd : FuncData} {tk : Tok} (F : Fun K "full_many" "full_many" (topS 31) f fd) (b : Bt mg) (c19 : Cl P w K mg base CX0 4 "need_ground" (spR R19)) (c20 : Cl P w K mg base (L2N.CX P w) 3 "need_few" (sp20 C)) (c30 : Cl P w K mg base CX0 3 "all_choices" (spR R30))
    (hm : mg "MOST_TOLD" = some (.int 5 tk)) : FnOk P w K mg base (L2N.CX P w) 5 f fd ["n"] (spX C fun n => .int ((allChoices n).length : Int)) := by
  refine okN F sc31 spX_len (fun cdv A outer s H vs Q E hr h => ?_)
  obtain ⟨n, rfl, h1, h8, k1, k2⟩ := h
  refine ⟨_, pss_cons (ps_expr (pe_cl c19 hr (by decide) pass0 (by rfl) (pa_cons (pv 0) pa_nil)))
    (pss_cons (ps_expr (pe_cl (E := E) c20 hr (by decide) (L2N.passes_call (L2N.takes_of rfl rfl rfl rfl) (fun _ _ _ _ h => h)) (by rfl) (pa_cons (pv 0) (pa_cons (pe_glob (v := .int 5) (by rfl) hm ⟨tk, rfl⟩) pa_nil))))
    (pss_one (ps_ret (pe_callB call_len_seq (by rfl) b.len PySem.boot_len (pa_cons (pe_cl c30 hr (by decide) pass0 (by rfl) (pa_cons (pv 0) pa_nil)) pa_nil))))), ?_⟩
  refine s_need (C := C) (E := E) (G := fun _ => none) rfl h1 h8 (fun _ _ e => by cases e) (fun h5 H2 n2 => ?_) k2
  obtain ⟨G, sg, q⟩ := k1 h5
  exact s_ret (d := .int ((allChoices n).length : Int)) ((ev_cb (ea1 (ev_call (ea1 (ev_var rfl (.int _))) ⟨n, rfl, h5, rfl⟩)) callD_lenL).is (by rw [List.length_map])) (sg.trans n2) (fun v G3 H3 n3 r3 => q v G3 H3 ((Nx.keep sg n2).trans n3) r3)
theorem ok_fams {n : Nat} (h : (allChoices n).all okFam = true) {f : F} (hf : f ∈ allChoices n) : f.Nodup ∧ (∀ s ∈ f, s ≠ []) ∧ f.length ≤ 64 ∧ f ≠ [] := by
  have := List.all_eq_true.mp h f hf
  unfold okFam at this
  simp only [Bool.and_eq_true, decide_eq_true_eq, List.all_eq_true] at this
  obtain ⟨⟨⟨h1, h2⟩, h3⟩, h4⟩ := this
  refine ⟨h1, fun s hs e => ?_, h3, fun e => ?_⟩
  · have := h2 s hs
    rw [e] at this
    cases this
  · rw [e] at h4
    cases h4
theorem ord_ne {f : F} (h : f ≠ []) : inOrder f ≠ [] := fun e => by
  have := (isort_perm (lt := ltS) f).length_eq
  unfold inOrder at e
  rw [e] at this
  exact h (List.eq_nil_of_length_eq_zero this.symm)
theorem ok32 {C : Addr} {f : Addr} {fd : FuncData} {tk : Tok} (F : Fun K "all_full" "all_full" (topS 32) f fd) (b : Bt mg) (c19 : Cl P w K mg base CX0 4 "need_ground" (spR R19)) (c20 : Cl P w K mg base (L2N.CX P w) 3 "need_few" (sp20 C)) (c30 : Cl P w K mg base CX0 3 "all_choices" (spR R30))
    (c22 : Cl P w K mg base CX0 1 "in_order" (spR R22)) (hm : mg "MOST_TOLD" = some (.int 5 tk)) (hc : ∀ n, 1 ≤ n → n ≤ 5 → (allChoices n).all okFam = true ∧ (allChoices n).length ≤ 1000) :
    FnOk P w K mg base (L2N.CX P w) 5 f fd ["n"] (spX C fun n => .list ((allFull n).map encF)) := by
  refine okN F sc32 spX_len (fun cdv A outer s H vs Q E hr h => ?_)
  obtain ⟨n, rfl, h1, h8, k1, k2⟩ := h
  refine ⟨_, pss_cons (ps_expr (pe_cl c19 hr (by decide) pass0 (by rfl) (pa_cons (pv 0) pa_nil)))
    (pss_cons (ps_expr (pe_cl (E := E) c20 hr (by decide) (L2N.passes_call (L2N.takes_of rfl rfl rfl rfl) (fun _ _ _ _ h => h)) (by rfl) (pa_cons (pv 0) (pa_cons (pe_glob (v := .int 5) (by rfl) hm ⟨tk, rfl⟩) pa_nil))))
    (pss_one (ps_ret (pe_callB (cr_so (enc := encF) hr.units) (by rfl) b.sorted (by decide +kernel) (pa_cons
      (pe_lc (own := [("some", 1)]) (g := gName 1) (tt := tYes) (by rfl) sc32.nd (pi_list (pe_cl c30 hr (by decide) pass0 (by rfl) (pa_cons (pv 0) pa_nil))) (blkOk_by (own := [("some", 1)]) (N := ["n", "some"]) (sc := defScope (topS 32)) (by decide +kernel))
            (fun _ _ _ _ _ => pg_name (i := 1) sc32.nd rfl (Or.inl rfl)) (fun _ _ _ _ _ => pts_nil) (fun _ _ _ _ _ => pe_cl (j := 4) c22 hr (by decide) pass0 (by rfl) (pa_cons (pv 1) pa_nil))) pa_nil))))), ?_⟩
  refine s_need (C := C) (E := E) (G := fun _ => none) rfl h1 h8 (fun _ _ e => by cases e) (fun h5 H2 n2 => ?_) k2
  obtain ⟨G, sg, q⟩ := k1 h5
  obtain ⟨hf, hl⟩ := hc n h1 h5
  refine s_ret (d := .list ((allFull n).map encF)) (ev_cb (ea1 ?_) (callD_sortF (ff := (allChoices n).map inOrder) (fun f hfm => ?_) (by rw [List.length_map]; omega))) (sg.trans n2) (fun v G3 H3 n3 r3 => q v G3 H3 ((Nx.keep sg n2).trans n3) r3)
  · refine (ev_lcL (bs := allChoices n) (enc := encL) (keep := fun _ => true) (f := fun f => encF (inOrder f)) (ev_call (ea1 (ev_var rfl (.int _))) ⟨n, rfl, h5, rfl⟩) (by omega) (fun _ => rfl) (fun _ _ _ _ _ _ => eb_yes) (fun f hfm _ G4 x s4 rx => ?_)).is ?_
    · obtain ⟨a1, a2, a3, _⟩ := ok_fams hf hfm
      exact ev_call (ea1 (ev_var rfl rx)) ⟨f, rfl, a1, a2, a3, rfl⟩
    · rw [filt_all, List.map_map]
      rfl
  · obtain ⟨g, hg, rfl⟩ := List.mem_map.mp hfm
    exact ord_ne (ok_fams hf hg).2.2.2
end Ms

set_option Elab.async false
set_option linter.all false
set_option maxRecDepth 100000
/-! the law's own defs: sets -/
namespace Ms
open PySem PySem.Spec PyProof.Rows L2
variable {P : Program} {w : World} {K : PySem.W.Frag} {mg : Str → Option Value} {base : Heap}
theorem sc34 : FnScope ["_law_n", "_law_found", "_law_point", "_law_one"] ["_law_n"] (defScope (topS 34)) := ⟨rfl, rfl, rfl, by decide +kernel, rfl, by decide +kernel, by decide +kernel⟩
def R34 : List PyData → PyData → Prop := fun ds r => ∃ n : Nat, ds = [.int (n : Int)] ∧ n ≤ 8 ∧ r = encL (setsBelow n)
theorem R34_len (ds : List PyData) (r : PyData) (h : R34 ds r) : ds.length = 1 := by
  obtain ⟨n, rfl, _⟩ := h
  rfl
theorem ok34 {f : Addr} {fd : FuncData} (F : Fun K "_law_sets" "_law_sets" (topS 34) f fd) (b : Bt mg) : FnOk P w K mg base CX0 1 f fd ["_law_n"] (spR R34) := by
  refine F.ok sc34 (spR_len R34_len) (fun cdv A outer s H vs Q E hr h => ?_)
  obtain ⟨G, ds, r, sg, k, ⟨n, rfl, h8, rfl⟩, q⟩ := h
  cases k with
  | @cons v1 _ _ _ r1 k =>
    cases k
    refine ⟨_, pss_cons (ps_set (i := 1) sc34.nd rfl (Or.inl rfl) (pe_lst (pa_cons (pe_tup pa_nil) pa_nil)))
      (pss_cons (ps_for PassesOwn.never rfl (pi_range1 (by rfl) b.range (pa_cons (pv 0) pa_nil)) (pg_name (i := 2) sc34.nd rfl (Or.inr rfl))
        (pss_one (ps_set (i := 1) sc34.nd rfl (Or.inl rfl) (pe_op op_cat (pv 1)
          (pe_lc (own := [("_law_one", 3)]) (g := gName 3) (tt := tYes) (te := tOp (rCatA K) (tVar 3) (tTup (tCons (tVar 2) tNil))) (by rfl) sc34.nd (pi_list (pv 1)) (blkOk_by (own := [("_law_one", 3)]) (N := ["_law_n", "_law_found", "_law_point", "_law_one"]) (sc := defScope (topS 34)) (by decide +kernel))
            (fun _ _ _ _ _ => pg_name (i := 3) sc34.nd rfl (Or.inl rfl)) (fun _ _ _ _ _ => pts_nil) (fun _ _ _ _ _ => pe_op op_catA (pv 3) (pe_tup (pa_cons (pv 2) pa_nil))))))))
      (pss_one (ps_ret (pe_callB (cr_so (enc := encS) hr.units) (by rfl) b.sorted (by decide +kernel) (pa_cons (pv 1) pa_nil))))), ?_⟩
    refine s_asg (d := .list ((grow 0).map encS)) (ev_lst (ea1 (ev_tup ea_nil (Nat.zero_le _))) (by decide)) sg (fun v G1 H1 n1 rv => ?_)
    dsimp only
    refine s_forR (ea1 (ev_var rfl (r1.up n1.gg))) (by omega) n1.gh (fun H2 s2 => ⟨fun i σ' H' => ∃ G' v y2 y3, σ' = [some v1, some v, y2, y3] ∧ Nx G H G' H' ∧ Rp G' v (.list ((grow i).map encS)), ⟨G1, v, none, none, rfl, n1.trans (.keep n1.gh s2), rv⟩, fun i σ' H' hi p => ?_, fun σ' H' p => ?_⟩)
    · obtain ⟨G', v, y2, y3, rfl, n2, rv⟩ := p
      refine s_asg (d := .list ((grow (i + 1)).map encS)) ?_ n2.gh (fun v' G3 H3 n3 rv' => ⟨G3, v', _, _, rfl, n2.trans n3, rv'⟩)
      rw [← grow_step]
      have hg := grow_small (n := i) (by omega)
      refine ev_op (ev_var rfl rv) (ev_lcL (enc := encS) (keep := fun _ => true) (f := fun s => encS (s ++ [(i : Int)])) (ev_var rfl rv) (by omega) (fun _ => rfl) (fun _ _ _ _ _ _ => eb_yes) (fun t ht _ G4 x s4 rx => ?_)) (opD_cat ?_)
      · rw [encS_cat]
        have := grow_elem i t ht
        exact ev_op (ev_var rfl rx) (ev_tup (ea1 (ev_var rfl (.int _))) (by show 1 ≤ 100000; decide)) (opD_catA (by rw [List.length_map]; show t.length + 1 ≤ 100000; omega))
      · rw [List.length_map, List.length_map, filt_all]
        omega
    · obtain ⟨G', v, y2, y3, rfl, n2, rv⟩ := p
      dsimp only
      refine s_ret (d := encL (setsBelow n)) ?_ n2.gh (fun v' G3 H3 n3 rv' => q v' G3 H3 (n2.trans n3) rv')
      have hg := grow_small h8
      exact ev_cb (ea1 (ev_var rfl rv)) (callD_sortS (.inr (grow_first n)) (by omega))
theorem sc35 : FnScope ["_law_n", "_law_one", "_law_point"] ["_law_n", "_law_one"] (defScope (topS 35)) := ⟨rfl, rfl, rfl, by decide +kernel, rfl, by decide +kernel, by decide +kernel⟩
theorem ok35 {f : Addr} {fd : FuncData} (F : Fun K "_law_rest" "_law_rest" (topS 35) f fd) (b : Bt mg) : FnOk P w K mg base CX0 1 f fd ["_law_n", "_law_one"] (spR R25) := by
  refine F.ok sc35 (spR_len R25_len) (fun cdv A outer s H vs Q E hr h => ?_)
  obtain ⟨G, ds, r, sg, k, ⟨n, one, rfl, h8, rfl⟩, q⟩ := h
  cases k with
  | @cons v1 _ _ _ r1 k =>
    cases k with
    | @cons v2 _ _ _ r2 k =>
      cases k
      refine ⟨_, pss_one (ps_ret (pe_callTy call_tuple_of (by rfl) b.tuple (by decide +kernel) (pa_cons
          (pe_lc (own := [("_law_point", 2)]) (g := gName 2) (tt := tTest (tOp (rIn _ true) (tVar 2) (tVar 1))) (by rfl) sc35.nd (pi_range1 (by rfl) b.range (pa_cons (pv 0) pa_nil)) (blkOk_by (own := [("_law_point", 2)]) (N := ["_law_n", "_law_one", "_law_point"]) (sc := defScope (topS 35)) (by decide +kernel))
            (fun _ _ _ _ _ => pg_name (i := 2) sc35.nd rfl (Or.inl rfl)) (fun _ _ _ _ _ => pts_one (pt_cmpR op_notIn_seq (pv 2) (pv 1) (by rfl))) (fun _ _ _ _ _ => pv 2)) pa_nil))), ?_⟩
      refine s_ret (d := encS (otherPts n one)) (ev_cb (ea1 (ev_lcR (keep := fun p => !inI p one) (f := PyData.int) (ea1 (ev_var rfl r1)) (by omega) (fun _ => rfl) (fun p => ?_) (fun p _ => ev_var rfl (.int p)))) callD_tuple) sg q
      exact eb_test (ev_op (ev_var rfl (.int p)) (ev_var rfl r2) opD_notIn)
/-! _law_share -/
theorem sc36 : FnScope ["_law_one", "_law_other", "_law_point"] ["_law_one", "_law_other"] (defScope (topS 36)) := ⟨rfl, rfl, rfl, by decide +kernel, rfl, by decide +kernel, by decide +kernel⟩
def R36 : List PyData → PyData → Prop := fun ds r => ∃ a b : S, ds = [encS a, encS b] ∧ a.length ≤ 1000 ∧ r = .bool (shareL a b)
theorem R36_len (ds : List PyData) (r : PyData) (h : R36 ds r) : ds.length = 2 := by
  obtain ⟨n, one, rfl, _⟩ := h
  rfl
theorem ok36 {f : Addr} {fd : FuncData} (F : Fun K "_law_share" "_law_share" (topS 36) f fd) (b : Bt mg) : FnOk P w K mg base CX0 1 f fd ["_law_one", "_law_other"] (spR R36) := by
  refine F.ok sc36 (spR_len R36_len) (fun cdv A outer s H vs Q E hr h => ?_)
  obtain ⟨G, ds, r, sg, k, ⟨x, y, rfl, hl, rfl⟩, q⟩ := h
  cases k with
  | @cons v1 _ _ _ r1 k =>
    cases k with
    | @cons v2 _ _ _ r2 k =>
      cases k
      refine ⟨_, pss_one (ps_ret (pe_cmpR op_gt (pe_callB call_len_seq (by rfl) b.len PySem.boot_len (pa_cons
          (pe_lc (own := [("_law_point", 2)]) (g := gName 2) (tt := tTest (tOp (rIn _ false) (tVar 2) (tVar 1))) (by rfl) sc36.nd (pi_tup (pv 0)) (blkOk_by (own := [("_law_point", 2)]) (N := ["_law_one", "_law_other", "_law_point"]) (sc := defScope (topS 36)) (by decide +kernel))
            (fun _ _ _ _ _ => pg_name (i := 2) sc36.nd rfl (Or.inl rfl)) (fun _ _ _ _ _ => pts_one (pt_cmpR op_in_seq (pv 2) (pv 1) (by rfl))) (fun _ _ _ _ _ => pv 2)) pa_nil)) pe_int (nomark _))), ?_⟩
      refine s_ret (d := .bool (shareL x y)) ?_ sg q
      refine (ev_op (ev_cb (ea1 (ev_lcT (bs := x) (enc := PyData.int) (keep := fun p => inI p y) (f := PyData.int) (ev_var rfl r1) (by omega) (fun _ => rfl) (fun p _ G4 z s4 rz => ?_) (fun p _ _ G4 z s4 rz => ev_var rfl rz))) callD_lenL) ev_int opD_B).is ?_
      · exact eb_test (ev_op (ev_var rfl rz) (ev_var rfl (r2.up s4)) opD_in)
      · unfold shareL
        rw [List.length_map]
/-! _law_meets: a tuple or a list of sets -/
def encX (l : Bool) (f : F) : PyData := if l then encL f else encF f
theorem sc41 : FnScope ["_law_family", "_law_one", "_law_other"] ["_law_family"] (defScope (topS 41)) := ⟨rfl, rfl, rfl, by decide +kernel, rfl, by decide +kernel, by decide +kernel⟩
def R41 : List PyData → PyData → Prop := fun ds r => ∃ (l : Bool) (f : F), ds = [encX l f] ∧ (∀ s ∈ f, s.length ≤ 1000) ∧ r = .bool (meetsL f)
theorem R41_len (ds : List PyData) (r : PyData) (h : R41 ds r) : ds.length = 1 := by
  obtain ⟨l, f, rfl, _⟩ := h
  rfl
/-- for x in xs, xs a name, a known list or tuple -/
def iSq (K : PySem.W.Frag) (l : Bool) (te : TE) : TI := if l then iList K te else iTup K te
theorem pi_sq {X : Cx} {tg e : Expr} {te : TE} (l : Bool) (h : PE X e te) (h1 : PI X tg e (iList X.K te)) (h2 : PI X tg e (iTup X.K te)) : PI X tg e (iSq X.K l te) := by
  cases l with
  | true => exact h1
  | false => exact h2
theorem s_forX {l : Bool} {σ : Sl} {G H : Hp} {v : V} {D : Ends} {tu : TS} {f : F} {i j : Nat} (h : σ[i]? = some (some v)) (r : Rp G v (encX l f)) (s : Same G H)
    (k : ∃ Pv : Nat → Sl → Hp → Prop, Pv 0 σ H ∧ (∀ i σ' H', Pv i σ' H' → Same G H') ∧
      (∀ i t x σ' H', f[i]? = some t → Rp G x (encS t) → Pv i σ' H' → tu { D with nx := Pv (i + 1), ct := Pv (i + 1), bk := D.nx } (σ'.set j (some x)) H') ∧ ∀ σ' H', Pv f.length σ' H' → D.nx σ' H') :
    tFor (iSq K l (tVar i)) (gName j) tu D σ H := by
  obtain ⟨Pv, p0, ps, pt, pd⟩ := k
  cases l with
  | true =>
    refine s_forLv (ds := f.map encS) h r s ⟨Pv, p0, ps, fun i d x σ' H' hd rx p => ?_, fun σ' H' p => pd σ' H' (by rw [List.length_map] at p; exact p)⟩
    obtain ⟨t, ht, rfl⟩ := map_at hd
    exact pt i t x σ' H' ht rx p
  | false =>
    refine ⟨v, h, ?_⟩
    have r : Rp G v (.tuple (f.map encS)) := r
    cases r with
    | @tup a vs _ e kk =>
      refine ⟨a, rfl, ⟨_, SqT.of (s _ _ e)⟩, for_tup (K := K) (a := a) (xs := vs) Pv p0 (fun i σ' H' _ p => SqT.of (ps i σ' H' p _ _ e)) (fun i x σ' H' hx p => ?_) (fun σ' H' p => pd σ' H' (by rw [kk.len, List.length_map] at p; exact p))⟩
      obtain ⟨t, ht, rd⟩ := rpl_map_at kk hx
      exact pt i t x σ' H' ht rd p
theorem meetsL_no {f : F} {i j : Nat} {a b : S} (ha : f[i]? = some a) (hb : f[j]? = some b) (e : shareL a b = false) : meetsL f = false := by
  refine Bool.eq_false_iff.mpr fun z => ?_
  have h1 := List.all_eq_true.mp z a (List.mem_of_getElem? ha)
  have h2 := List.all_eq_true.mp h1 b (List.mem_of_getElem? hb)
  rw [e] at h2
  cases h2
theorem ok41 {f : Addr} {fd : FuncData} (F : Fun K "_law_meets" "_law_meets" (topS 41) f fd) (c : Cl P w K mg base CX0 1 "_law_share" (spR R36)) : FnOk P w K mg base CX0 2 f fd ["_law_family"] (spR R41) := by
  refine F.ok sc41 (spR_len R41_len) (fun cdv A outer s H vs Q E hr h => ?_)
  obtain ⟨G, ds, r, sg, k, ⟨l, fam, rfl, hl, rfl⟩, q⟩ := h
  cases k with
  | @cons v1 _ _ _ r1 k =>
    cases k
    refine ⟨_, pss_cons (ps_for PassesOwn.never rfl (pi_sq l (pv 0) (pi_list (pv 0)) (pi_tup (pv 0))) (pg_name (i := 1) sc41.nd rfl (Or.inl rfl))
        (pss_one (ps_for PassesOwn.never rfl (pi_sq l (pv 0) (pi_list (pv 0)) (pi_tup (pv 0))) (pg_name (i := 2) sc41.nd rfl (Or.inl rfl))
          (pss_one (ps_if (pt_not (pt_val (pe_cl c hr (Nat.le_refl _) pass0 (by rfl) (pa_cons (pv 1) (pa_cons (pv 2) pa_nil))))) (pss_one (ps_ret pe_bl)) pss_nil)))))
      (pss_one (ps_ret pe_bl)), ?_⟩
    refine s_forX (f := fam) rfl r1 sg ⟨fun i σ' H' => Same H H' ∧ (∃ y z, σ' = [some v1, y, z]) ∧ (fam.take i).all (fun a => fam.all fun b => shareL a b) = true, ⟨Same.refl _, ⟨none, none, rfl⟩, rfl⟩, fun i σ' H' p => sg.trans p.1, fun i a x σ' H' ha rx p => ?_, fun σ' H' p => ?_⟩
    · obtain ⟨s1, ⟨y, z, rfl⟩, e1⟩ := p
      refine s_forX (f := fam) rfl r1 (sg.trans s1) ⟨fun j σ' H' => Same H H' ∧ (∃ z, σ' = [some v1, some x, z]) ∧ (fam.take j).all (fun b => shareL a b) = true, ⟨s1, ⟨_, rfl⟩, rfl⟩, fun i σ' H' p => sg.trans p.1, fun j b y σ' H' hb ry p => ?_, fun σ' H' p => ?_⟩
      · obtain ⟨s2, ⟨z, rfl⟩, e2⟩ := p
        refine s_if (eb_not (eb_B (ev_call (ea2 (ev_var rfl rx) (ev_var rfl ry)) ⟨a, b, rfl, hl a (List.mem_of_getElem? ha), rfl⟩))) (sg.trans s2) (fun e3 H3 n3 => ?_) (fun e3 H3 n3 => ?_)
        · refine s_ret ev_bl ((sg.trans s2).trans n3) (fun v G4 H4 n4 r4 => q v G4 H4 ((Nx.keep sg (s2.trans n3)).trans n4) ?_)
          rw [meetsL_no ha hb (by simpa using e3)]
          exact r4
        · exact ⟨s2.trans n3, ⟨_, rfl⟩, all_take hb e2 (by simpa using e3)⟩
      · obtain ⟨s2, ⟨z, rfl⟩, e2⟩ := p
        rw [List.take_length] at e2
        exact ⟨s2, ⟨_, _, rfl⟩, all_take ha e1 e2⟩
    · obtain ⟨s1, ⟨y, z, rfl⟩, e1⟩ := p
      dsimp only
      rw [List.take_length] at e1
      refine s_ret ev_bl (sg.trans s1) (fun v G4 H4 n4 r4 => q v G4 H4 ((Nx.keep sg s1).trans n4) ?_)
      have : meetsL fam = true := e1
      rw [this]
      exact r4
/-! _law_one_of_each -/
theorem sc43 : FnScope ["_law_n", "_law_family", "_law_one"] ["_law_n", "_law_family"] (defScope (topS 43)) := ⟨rfl, rfl, rfl, by decide +kernel, rfl, by decide +kernel, by decide +kernel⟩
def R43 : List PyData → PyData → Prop := fun ds r => ∃ (n : Nat) (f : F), ds = [.int (n : Int), encF f] ∧ n ≤ 8 ∧ r = .bool (oneEach n f)
theorem R43_len (ds : List PyData) (r : PyData) (h : R43 ds r) : ds.length = 2 := by
  obtain ⟨l, f, rfl, _⟩ := h
  rfl
theorem ok43 {f : Addr} {fd : FuncData} (F : Fun K "_law_one_of_each" "_law_one_of_each" (topS 43) f fd) (b : Bt mg) (c34 : Cl P w K mg base CX0 1 "_law_sets" (spR R34)) (c35 : Cl P w K mg base CX0 1 "_law_rest" (spR R25)) : FnOk P w K mg base CX0 2 f fd ["_law_n", "_law_family"] (spR R43) := by
  refine F.ok sc43 (spR_len R43_len) (fun cdv A outer s H vs Q E hr h => ?_)
  obtain ⟨G, ds, r, sg, k, ⟨n, fam, rfl, h8, rfl⟩, q⟩ := h
  cases k with
  | @cons v1 _ _ _ r1 k =>
    cases k with
    | @cons v2 _ _ _ r2 k =>
      cases k
      have hu : A.units + 200 < cLine := by
        have := hr.un
        show A.units + 200 < cLine
        have e : (A.deeper (envOfC "_law_one_of_each" (defScope (topS 43)) s.heap.objs.size f cdv)).units = A.units + 3 := rfl
        omega
      refine ⟨_, pss_one (ps_ret (pe_cmpR op_eq (pe_callB call_len_seq (by rfl) b.len PySem.boot_len (pa_cons
          (pe_lc (own := [("_law_one", 2)]) (g := gName 2) (tt := tTest (tOp rEq (tOp (rInT K) (tVar 2) (tVar 1)) (tOp (rInT K) (tCall (spR R25) [] E0 (tCons (tVar 0) (tCons (tVar 2) tNil))) (tVar 1)))) (by rfl) sc43.nd (pi_list (pe_cl c34 hr (Nat.le_refl _) pass0 (by rfl) (pa_cons (pv 0) pa_nil))) (blkOk_by (own := [("_law_one", 2)]) (N := ["_law_n", "_law_family", "_law_one"]) (sc := defScope (topS 43)) (by decide +kernel))
            (fun _ _ _ _ _ => pg_name (i := 2) sc43.nd rfl (Or.inl rfl)) (fun _ _ _ _ _ => pts_one (pt_cmpR op_eq (pe_cmpR (op_inT (by show A.units + 3 + 66 < cLine; omega)) (pv 2) (pv 1) (by rfl)) (pe_cmpR (op_inT (by show A.units + 3 + 66 < cLine; omega)) (pe_cl (j := 1) c35 hr (Nat.le_refl _) pass0 (by rfl) (pa_cons (pv 0) (pa_cons (pv 2) pa_nil))) (pv 1) (by rfl)) (nomark _))) (fun _ _ _ _ _ => pv 2)) pa_nil)) pe_int (nomark _))), ?_⟩
      refine s_ret (d := .bool (oneEach n fam)) ?_ sg q
      have hb := below_len h8
      refine (ev_op (ev_cb (ea1 (ev_lcL (bs := setsBelow n) (enc := encS) (keep := fun s => inF s fam == inF (otherPts n s) fam) (f := encS) (ev_call (ea1 (ev_var rfl r1)) ⟨n, rfl, h8, rfl⟩) (by omega) (fun _ => rfl) (fun p _ G4 z s4 rz => ?_) (fun p _ _ G4 z s4 rz => ev_var rfl rz))) callD_lenL) ev_int opD_eqI).is ?_
      · exact eb_test (ev_op (ev_op (ev_var rfl rz) (ev_var rfl (r2.up s4)) opD_inF) (ev_op (ev_call (ea2 (ev_var rfl (r1.up s4)) (ev_var rfl rz)) ⟨n, p, rfl, h8, rfl⟩) (ev_var rfl (r2.up s4)) opD_inF) opD_eqB)
      · unfold oneEach
        rw [List.length_map]
end Ms

set_option Elab.async false
set_option linter.all false
set_option maxRecDepth 100000
/-! _law_ways, _law_cell_at -/
namespace Ms
open PySem PySem.Spec PyProof.Rows L2
variable {P : Program} {w : World} {K : PySem.W.Frag} {mg : Str → Option Value} {base : Heap}
def sw (n i : Nat) : List F := ((setsBelow n).take i).foldl (stepW n) [[]]
theorem sw_succ {n i : Nat} {one : S} (h : (setsBelow n)[i]? = some one) : sw n (i + 1) = stepW n (sw n i) one := by
  unfold sw
  rw [take_more h, List.foldl_append]
  rfl
theorem foldW_len (n : Nat) : ∀ (l : F) (found : List F), (l.foldl (stepW n) found).length ≤ 2 ^ l.length * found.length
  | [], found => by simp
  | x :: l, found => by
    rw [List.foldl_cons, List.length_cons, Nat.pow_succ, Nat.mul_assoc]
    refine Nat.le_trans (foldW_len n l _) (Nat.mul_le_mul_left _ ?_)
    unfold stepW
    split
    · rw [List.length_append, List.length_map, List.length_map]
      omega
    · omega
theorem below_len4 {n : Nat} (h : n ≤ 4) : (setsBelow n).length ≤ 16 := by
  unfold setsBelow
  rw [(isort_perm _).length_eq, grow_len]
  exact Nat.pow_le_pow_right (n := 2) (by decide) h
theorem sw_len {n i : Nat} (h : n ≤ 4) : (sw n i).length ≤ 65536 := by
  have h1 := foldW_len n ((setsBelow n).take i) [[]]
  have h2 : ((setsBelow n).take i).length ≤ 16 := by
    rw [List.length_take]
    exact Nat.le_trans (Nat.min_le_right _ _) (below_len4 h)
  have h3 : 2 ^ ((setsBelow n).take i).length ≤ 2 ^ 16 := Nat.pow_le_pow_right (by decide) h2
  have : ([[]] : List F).length = 1 := rfl
  rw [this, Nat.mul_one] at h1
  exact Nat.le_trans h1 h3
theorem below_elem {n : Nat} {s : S} (h : s ∈ setsBelow n) : s.length ≤ n := grow_elem n s ((isort_perm _).mem_iff.mp h)
theorem other_len {n : Nat} {one : S} : (otherPts n one).length ≤ n := by
  unfold otherPts
  refine Nat.le_trans (List.length_filter_le _ _) ?_
  unfold pts
  rw [List.length_map, List.length_range]
  exact Nat.le_refl _
theorem foldW_elem (n m : Nat) : ∀ (l : F) (found : List F), (∀ s ∈ l, s.length ≤ n) → (∀ f ∈ found, f.length ≤ m ∧ ∀ s ∈ f, s.length ≤ n) → ∀ f ∈ l.foldl (stepW n) found, f.length ≤ m + l.length ∧ ∀ s ∈ f, s.length ≤ n
  | [], found, _, h, f, hf => h f hf
  | x :: l, found, hl, h, f, hf => by
    rw [List.foldl_cons] at hf
    have add : ∀ (t : S), t.length ≤ n → ∀ g ∈ found, (g ++ [t]).length ≤ m + 1 ∧ ∀ s ∈ g ++ [t], s.length ≤ n := fun t ht g hg => by
      refine ⟨?_, fun s hs => ?_⟩
      · rw [List.length_append]
        exact Nat.succ_le_succ (h g hg).1
      · rcases List.mem_append.mp hs with q | q
        · exact (h g hg).2 s q
        · have : s = t := by simpa using q
          rw [this]
          exact ht
    have := foldW_elem n (m + 1) l (stepW n found x) (fun s hs => hl s (List.mem_cons_of_mem _ hs)) (fun g hg => by
      unfold stepW at hg
      split at hg
      · rcases List.mem_append.mp hg with hg | hg
        · obtain ⟨k, hk, rfl⟩ := List.mem_map.mp hg
          exact add x (hl x List.mem_cons_self) k hk
        · obtain ⟨k, hk, rfl⟩ := List.mem_map.mp hg
          exact add _ other_len k hk
      · exact ⟨Nat.le_succ_of_le (h g hg).1, (h g hg).2⟩) f hf
    rw [List.length_cons]
    exact ⟨by omega, this.2⟩
theorem sw_elem {n i : Nat} (h : n ≤ 8) {f : F} (hf : f ∈ sw n i) : f.length ≤ 256 ∧ ∀ s ∈ f, s.length ≤ n := by
  have := foldW_elem n 0 ((setsBelow n).take i) [[]] (fun s hs => below_elem (List.mem_of_mem_take hs)) (fun f hf => by
    have : f = [] := by simpa using hf
    rw [this]
    exact ⟨Nat.le_refl _, fun s hs => by cases hs⟩) f hf
  have hb := below_len h
  rw [List.length_take] at this
  exact ⟨by omega, this.2⟩
/-! the walk -/
def rTupO (K : PySem.W.Frag) : List V → Hp → VK → Prop := fun xs H Q => ∃ p ys, xs = [V.ref p] ∧ ((SqL K H p ys ∧ ∀ l, H l = none → Q (.ref l) (upd H l (.tup ys))) ∨ (SqT K H p ys ∧ Q (.ref p) H))
theorem sc40 : FnScope ["_law_n", "_law_found", "_law_one", "_law_some"] ["_law_n"] (defScope (topS 40)) := ⟨rfl, rfl, rfl, by decide +kernel, rfl, by decide +kernel, by decide +kernel⟩
def R40 : List PyData → PyData → Prop := fun ds r => ∃ n : Nat, ds = [.int (n : Int)] ∧ n ≤ 4 ∧ (((setsBelow n).foldl (stepW n) [[]]).filter meetsL).all okFam = true ∧ r = .list ((ways n).map encF)
theorem R40_len (ds : List PyData) (r : PyData) (h : R40 ds r) : ds.length = 1 := by
  obtain ⟨n, rfl, _⟩ := h
  rfl
theorem okF_of {f : F} (this : okFam f = true) : f.Nodup ∧ (∀ s ∈ f, s ≠ []) ∧ f.length ≤ 64 ∧ f ≠ [] := by
  unfold okFam at this
  simp only [Bool.and_eq_true, decide_eq_true_eq, List.all_eq_true] at this
  obtain ⟨⟨⟨h1, h2⟩, h3⟩, h4⟩ := this
  refine ⟨h1, fun s hs e => ?_, h3, fun e => ?_⟩
  · have := h2 s hs
    rw [e] at this
    cases this
  · rw [e] at h4
    cases h4
theorem ok40 {f : Addr} {fd : FuncData} (F : Fun K "_law_ways" "_law_ways" (topS 40) f fd) (b : Bt mg) (c34 : Cl P w K mg base CX0 1 "_law_sets" (spR R34)) (c35 : Cl P w K mg base CX0 1 "_law_rest" (spR R25)) (c41 : Cl P w K mg base CX0 2 "_law_meets" (spR R41)) :
    FnOk P w K mg base CX0 3 f fd ["_law_n"] (spR R40) := by
  refine F.ok sc40 (spR_len R40_len) (fun cdv A outer s H vs Q E hr h => ?_)
  obtain ⟨G, ds, r, sg, k, ⟨n, rfl, h4, hw, rfl⟩, q⟩ := h
  cases k with
  | @cons v1 _ _ _ r1 k =>
    cases k
    refine ⟨_, pss_cons (ps_set (i := 1) sc40.nd rfl (Or.inl rfl) (pe_lst (pa_cons (pe_lst pa_nil) pa_nil)))
      (pss_cons (ps_for PassesOwn.never rfl (pi_list (pe_cl c34 hr (by decide) pass0 (by rfl) (pa_cons (pv 0) pa_nil))) (pg_name (i := 2) sc40.nd rfl (Or.inr rfl))
        (pss_one (ps_if (pt_cmpR op_in_seq pe_int (pv 2) (by rfl))
          (pss_one (ps_set (i := 1) sc40.nd rfl (Or.inl rfl) (pe_op op_cat
            (pe_lc (own := [("_law_some", 3)]) (g := gName 3) (tt := tYes) (by rfl) sc40.nd (pi_list (pv 1)) (blkOk_by (own := [("_law_some", 3)]) (N := ["_law_n", "_law_found", "_law_one", "_law_some"]) (sc := defScope (topS 40)) (by decide +kernel))
              (fun _ _ _ _ _ => pg_name (i := 3) sc40.nd rfl (Or.inl rfl)) (fun _ _ _ _ _ => pts_nil) (fun _ _ _ _ _ => pe_op op_cat (pv 3) (pe_lst (pa_cons (pv 2) pa_nil))))
            (pe_lc (own := [("_law_some", 3)]) (g := gName 3) (tt := tYes) (by rfl) sc40.nd (pi_list (pv 1)) (blkOk_by (own := [("_law_some", 3)]) (N := ["_law_n", "_law_found", "_law_one", "_law_some"]) (sc := defScope (topS 40)) (by decide +kernel))
              (fun _ _ _ _ _ => pg_name (i := 3) sc40.nd rfl (Or.inl rfl)) (fun _ _ _ _ _ => pts_nil) (fun _ _ _ _ _ => pe_op op_cat (pv 3) (pe_lst (pa_cons (pe_cl (j := 2) c35 hr (by decide) pass0 (by rfl) (pa_cons (pv 0) (pa_cons (pv 2) pa_nil))) pa_nil))))))) pss_nil)))
      (pss_one (ps_ret (pe_callB (cr_so (enc := encF) hr.units) (by rfl) b.sorted (by decide +kernel) (pa_cons
        (pe_lc (own := [("_law_some", 3)]) (g := gName 3) (tt := tB (tCall (spR R41) [] E0 (tCons (tVar 3) tNil))) (te := tCB (rTupO K) (tCons (tCB (rSo encS) (tCons (tVar 3) tNil)) tNil)) (by rfl) sc40.nd (pi_list (pv 1)) (blkOk_by (own := [("_law_some", 3)]) (N := ["_law_n", "_law_found", "_law_one", "_law_some"]) (sc := defScope (topS 40)) (by decide +kernel))
              (fun _ _ _ _ _ => pg_name (i := 3) sc40.nd rfl (Or.inl rfl)) (fun _ _ _ _ _ => pts_one (pt_val (pe_cl (j := 2) c41 hr (by decide) pass0 (by rfl) (pa_cons (pv 3) pa_nil))))
              (fun _ _ _ _ _ => pe_callTy call_tuple_of (by rfl) b.tuple (by decide +kernel) (pa_cons (pe_callB (cr_so (enc := encS) hr.units) (by rfl) b.sorted (by decide +kernel) (pa_cons (pv 3) pa_nil)) pa_nil))) pa_nil))))), ?_⟩
    refine s_asg (d := .list ((sw n 0).map encL)) (ev_lst (ea1 (ev_lst ea_nil (Nat.zero_le _))) (by show 1 ≤ 100000; decide)) sg (fun v G1 H1 n1 rv => ?_)
    dsimp only
    refine s_forL (ds := (setsBelow n).map encS) (ev_call (ea1 (ev_var rfl (r1.up n1.gg))) ⟨n, rfl, by omega, rfl⟩) n1.gh (fun Ga Ha na => ⟨fun i σ' H' => ∃ G' v y2 y3, σ' = [some v1, some v, y2, y3] ∧ Nx Ga Ha G' H' ∧ Rp G' v (.list ((sw n i).map encL)),
      ⟨Ga, v, none, none, rfl, .refl na.gh, rv.up na.gg⟩, fun i σ' H' p => ?_, fun i d x σ' H' hd rx p => ?_, fun σ' H' p => ?_⟩)
    · obtain ⟨_, _, _, _, _, n2, _⟩ := p
      exact n2.hh
    · obtain ⟨G', v, y2, y3, rfl, n2, rv⟩ := p
      obtain ⟨one, ho, rfl⟩ := map_at hd
      have r1' : Rp G' v1 (.int (n : Int)) := (r1.up (n1.trans na).gg).up n2.gg
      have rx' := rx.up n2.gg
      have hsl := sw_len (i := i) h4
      refine s_if (eb_test (ev_op ev_int (ev_var rfl rx') (opD_in (ns := one)))) n2.gh (fun e3 H3 n3 => ?_) (fun e3 H3 n3 => ?_)
      · refine s_asg (d := .list ((sw n (i + 1)).map encL)) ?_ (n2.gh.trans n3) (fun v' G4 H4 n4 rv' => ⟨G4, v', _, _, rfl, (n2.trans (.keep n2.gh n3)).trans n4, rv'⟩)
        refine (ev_op (ev_lcL (bs := sw n i) (enc := encL) (keep := fun _ => true) (f := fun f => encL (f ++ [one])) (ev_var rfl rv) (by omega) (fun _ => rfl) (fun _ _ _ _ _ _ => eb_yes) (fun f hfm _ G4 y s4 ry => ?_))
          (ev_lcL (bs := sw n i) (enc := encL) (keep := fun _ => true) (f := fun f => encL (f ++ [otherPts n one])) (ev_var rfl rv) (by omega) (fun _ => rfl) (fun _ _ _ _ _ _ => eb_yes) (fun f hfm _ G4 y s4 ry => ?_)) (opD_cat ?_)).is ?_
        · have := (sw_elem (by omega) hfm).1
          rw [encL_cat]
          exact ev_op (ev_var rfl ry) (ev_lst (ea1 (ev_var rfl (rx'.up s4))) (by show 1 ≤ 100000; decide)) (opD_cat (by rw [List.length_map]; show f.length + 1 ≤ 100000; omega))
        · have := (sw_elem (by omega) hfm).1
          rw [encL_cat]
          exact ev_op (ev_var rfl ry) (ev_lst (ea1 (ev_call (ea2 (ev_var rfl (r1'.up s4)) (ev_var rfl (rx'.up s4))) ⟨n, one, rfl, by omega, rfl⟩)) (by show 1 ≤ 100000; decide)) (opD_cat (by rw [List.length_map]; show f.length + 1 ≤ 100000; omega))
        · have := sw_len (i := i + 1) h4
          rw [sw_succ ho] at this
          unfold stepW at this
          rw [if_pos e3, List.length_append, List.length_map, List.length_map] at this
          rw [filt_all, List.length_map, List.length_map]
          omega
        · rw [filt_all, sw_succ ho]
          unfold stepW
          rw [if_pos e3, List.map_append, List.map_map, List.map_map]
          rfl
      · refine ⟨G', v, _, y3, rfl, n2.trans (.keep n2.gh n3), ?_⟩
        rw [sw_succ ho]
        unfold stepW
        rw [if_neg (by rw [e3]; exact Bool.false_ne_true)]
        exact rv
    · obtain ⟨G', v, y2, y3, rfl, n2, rv⟩ := p
      dsimp only
      rw [List.length_map] at rv
      have hsl := sw_len (n := n) (i := (setsBelow n).length) h4
      have el : sw n (setsBelow n).length = (setsBelow n).foldl (stepW n) [[]] := by
        unfold sw
        rw [List.take_length]
      rw [← el] at hw
      refine s_ret (d := .list ((ways n).map encF)) ?_ n2.gh (fun v' G3 H3 n3 rv' => q v' G3 H3 ((n1.trans na).trans (n2.trans n3)) rv')
      unfold ways
      rw [← el]
      have hle := List.length_filter_le meetsL (sw n (setsBelow n).length)
      refine ev_cb (ea1 ?_) (callD_sortF (ff := ((sw n (setsBelow n).length).filter meetsL).map inOrder) (fun f hfm => ?_) (by rw [List.length_map]; omega))
      · refine (ev_lcL (bs := sw n (setsBelow n).length) (enc := encL) (keep := meetsL) (f := fun f => encF (inOrder f)) (ev_var rfl rv) (by omega) (fun _ => rfl) (fun f hfm G4 y s4 ry => ?_) (fun f hfm kf G4 y s4 ry => ?_)).is ?_
        · exact eb_B (ev_call (ea1 (ev_var rfl ry)) ⟨true, f, rfl, fun s hs => Nat.le_trans ((sw_elem (by omega) hfm).2 s hs) (by omega), rfl⟩)
        · obtain ⟨a1, a2, a3, a4⟩ := okF_of (List.all_eq_true.mp hw f (List.mem_filter.mpr ⟨hfm, kf⟩))
          exact ev_cb (ea1 (ev_cb (ea1 (ev_var rfl ry)) (callD_sortS (.inl a2) (by omega)))) callD_tuple
        · rw [List.map_map]
          rfl
      · obtain ⟨g, hg, rfl⟩ := List.mem_map.mp hfm
        exact ord_ne (okF_of (List.all_eq_true.mp hw g hg)).2.2.2
/-! _law_cell_at -/
theorem sc39 : FnScope ["_law_script", "_law_k"] ["_law_script", "_law_k"] (defScope (topS 39)) := ⟨rfl, rfl, rfl, by decide +kernel, rfl, by decide +kernel, by decide +kernel⟩
def sp39 (K : PySem.W.Frag) : Sp := fun vs H Q _ => ∃ (a : Addr) (ns : List Int) (k : Nat), vs = [.ref a, .int (k : Int)] ∧ SqL K H a (ns.map V.int) ∧ Q (.int (ns.getD k 0)) H
theorem ok39 {f : Addr} {fd : FuncData} (F : Fun K "_law_cell_at" "_law_cell_at" (topS 39) f fd) (b : Bt mg) : FnOk P w K mg base CX0 1 f fd ["_law_script", "_law_k"] (sp39 K) := by
  refine F.ok sc39 (fun vs H Q E h => ?_) (fun cdv A outer s H vs Q E hr h => ?_)
  · obtain ⟨a, ns, k, rfl, _⟩ := h
    rfl
  · obtain ⟨a, ns, k, rfl, hS, q⟩ := h
    refine ⟨_, pss_cons (ps_if (pt_cmpR op_lt (pv 1) (pe_callB call_len_seq (by rfl) b.len PySem.boot_len (pa_cons (pv 0) pa_nil)) (nomark _)) (pss_one (ps_ret (pe_ix ix_list (pv 0) (pv 1) (fun _ _ => rfl)))) pss_nil)
      (pss_one (ps_ret pe_int)), ?_⟩
    refine ⟨.int (k : Int), rfl, .ref a, rfl, a, _, rfl, .inl hS, _, _, rfl, rfl, _, rfl, ite2 (fun e => ?_) (fun e => ?_)⟩
    · have e' : (k : Int) < ((ns.map V.int).length : Int) := of_decide_eq_true e
      rw [List.length_map] at e'
      have hk : k < ns.length := by omega
      refine ⟨.ref a, rfl, .int (k : Int), rfl, a, _, (k : Int), .int (ns.getD k 0), rfl, rfl, hS, atI_nat ?_, q⟩
      rw [List.getElem?_map, List.getElem?_eq_getElem hk, List.getD_eq_getElem?_getD, List.getElem?_eq_getElem hk]
      rfl
    · have e' : ¬ (k : Int) < ((ns.map V.int).length : Int) := fun z => e (decide_eq_true z)
      rw [List.length_map] at e'
      have hk : ns.length ≤ k := by omega
      have : ns.getD k 0 = 0 := by
        rw [List.getD_eq_getElem?_getD, List.getElem?_eq_none hk]
        rfl
      rw [this] at q
      exact q
end Ms

set_option Elab.async false
set_option linter.all false
set_option maxRecDepth 100000
/-! _law_same -/
namespace Ms
open PySem PySem.Spec PyProof.Rows L2
variable {P : Program} {w : World} {K : PySem.W.Frag} {mg : Str → Option Value} {base : Heap}
/-- data of depth below k -/
def Gd : Nat → PyData → Prop
  | 0, _ => False
  | k + 1, d => (∃ i : Int, d = .int i) ∨ ∃ ds : List PyData, (d = .list ds ∨ d = .tuple ds) ∧ ∀ x ∈ ds, Gd k x
def Rsm (k : Nat) : List PyData → PyData → Prop := fun ds r => ∃ d, Gd k d ∧ ds = [d, d] ∧ r = .bool true
theorem Rsm_len {k : Nat} (ds : List PyData) (r : PyData) (h : Rsm k ds r) : ds.length = 2 := by
  obtain ⟨d, _, rfl, _⟩ := h
  rfl
def rIsN0 : R2 := fun x y H Q => y = .non ∧ Q (.bl (decide (x = .non))) H
def tIs (K : PySem.W.Frag) (i : Nat) (n : String) : TE := tCB (rIsi K) (tCons (tVar i) (tCons (tC (.ty n)) tNil))
def rLenO (K : PySem.W.Frag) : List V → Hp → VK → Prop := fun xs H Q => ∃ p ys, xs = [V.ref p] ∧ (SqL K H p ys ∨ SqT K H p ys) ∧ Q (.int ys.length) H
def tLenO (K : PySem.W.Frag) (i : Nat) : TE := tCB (rLenO K) (tCons (tVar i) tNil)
def tSame (K : PySem.W.Frag) (tl : TS) : TS :=
  tSeq (tIfS (tTest (tOp rIsN0 (tVar 1) (tC .non))) tNever tNext)
  (tSeq (tIfS (tB (tIs K 1 "bool")) tNever tNext)
  (tSeq (tIfS (tB (tIs K 1 "int")) (tRet (tAndV (tIs K 0 "int") (tAndV (tNotV (tIs K 0 "bool")) (tOp rEq (tVar 0) (tVar 1))))) tNext)
  (tSeq (tIfS (tB (tIs K 1 "str")) tNever tNext)
  (tSeq (tIfS (tOr (tTest (tOp rNe (tIs K 1 "list") (tIs K 0 "list"))) (tTest (tOp rNe (tIs K 1 "tuple") (tIs K 0 "tuple")))) tNever tNext)
  (tSeq (tIfS (tTest (tOp rNe (tLenO K 0) (tLenO K 1))) tNever tNext) tl)))))
theorem eb_isN {te : TE} {σ : Sl} {G : Hp} {d : PyData} (h : EvD te σ G d) (hd : d ≠ .none) : EvB (tTest (tOp rIsN0 te (tC .non))) σ G false := fun H s Q q =>
  h H s _ fun v G1 H1 n1 r1 => by
    have hv : decide (v = V.non) = false := decide_eq_false fun e => by
      subst e
      cases r1
      exact hd rfl
    exact ⟨rfl, _, rfl, by rw [hv]; exact q H1 n1.hh⟩
section
variable {σ : Sl} {G H : Hp} {v0 v1 : V} {tl : TS}
theorem same_int {Q : VK} {i : Int} (h0 : σ[0]? = some (some v0)) (h1 : σ[1]? = some (some v1)) (r0 : Rp G v0 (.int i)) (r1 : Rp G v1 (.int i)) (sg : Same G H) (q : ∀ v G2 H2, Nx G H G2 H2 → Rp G2 v (.bool true) → Q v H2) :
    tSame K tl (dE Q) σ H := by
  refine s_if (eb_isN (ev_var h1 r1) (fun e => by cases e)) sg (fun e => nomatch e) (fun _ H1 n1 => ?_)
  have s1 := sg.trans n1
  refine s_if (eb_B (ev_isi (ev_var h1 r1) k_int_bool)) s1 (fun e => nomatch e) (fun _ H2 n2 => ?_)
  have s2 := s1.trans n2
  refine s_if (eb_B (ev_isi (ev_var h1 r1) k_int_int)) s2 (fun _ H3 n3 => ?_) (fun e => nomatch e)
  have s3 := s2.trans n3
  refine s_ret (d := .bool true) ?_ s3 (fun v G4 H4 n4 r4 => q v G4 H4 ((Nx.keep sg ((n1.trans n2).trans n3)).trans n4) r4)
  exact (ev_andV (ev_isi (ev_var h0 r0) k_int_int) (fun _ => ev_andV (ev_notV (ev_isi (ev_var h0 r0) k_int_bool)) (fun _ => ev_op (ev_var h0 r0) (ev_var h1 r1) opD_eqI))).is (by simp)
theorem same_seq {D : Ends} {d : PyData} {ds : List PyData} (hd : d = .list ds ∨ d = .tuple ds) (h0 : σ[0]? = some (some v0)) (h1 : σ[1]? = some (some v1)) (r0 : Rp G v0 d) (r1 : Rp G v1 d) (sg : Same G H) (q : ∀ H2, Same H H2 → tl D σ H2) :
    tSame K tl D σ H := by
  have hN : d ≠ .none := by rcases hd with rfl | rfl <;> exact fun e => by cases e
  have kk : ∀ n b, (n = "bool" ∧ b = false) ∨ (n = "int" ∧ b = false) ∨ (n = "str" ∧ b = false) → PySem.W.kitOne K (.type (tyD d)) (.type n) = some b := fun n b h => by
    rcases hd with rfl | rfl <;> rcases h with ⟨rfl, rfl⟩ | ⟨rfl, rfl⟩ | ⟨rfl, rfl⟩
    · exact k_list_bool
    · exact k_list_int
    · exact k_list_str
    · exact k_tuple_bool
    · exact k_tuple_int
    · exact k_tuple_str
  have kl : ∃ b, PySem.W.kitOne K (.type (tyD d)) (.type "list") = some b := by
    rcases hd with rfl | rfl
    · exact ⟨_, k_list_list⟩
    · exact ⟨_, k_tuple_list⟩
  have kt : ∃ b, PySem.W.kitOne K (.type (tyD d)) (.type "tuple") = some b := by
    rcases hd with rfl | rfl
    · exact ⟨_, k_list_tuple⟩
    · exact ⟨_, k_tuple_tuple⟩
  obtain ⟨bl, kl⟩ := kl
  obtain ⟨bt, kt⟩ := kt
  refine s_if (eb_isN (ev_var h1 r1) hN) sg (fun e => nomatch e) (fun _ H1 n1 => ?_)
  have s1 := sg.trans n1
  refine s_if (eb_B (ev_isi (ev_var h1 r1) (kk "bool" false (.inl ⟨rfl, rfl⟩)))) s1 (fun e => nomatch e) (fun _ H2 n2 => ?_)
  have s2 := s1.trans n2
  refine s_if (eb_B (ev_isi (ev_var h1 r1) (kk "int" false (.inr (.inl ⟨rfl, rfl⟩))))) s2 (fun e => nomatch e) (fun _ H3 n3 => ?_)
  have s3 := s2.trans n3
  refine s_if (eb_B (ev_isi (ev_var h1 r1) (kk "str" false (.inr (.inr ⟨rfl, rfl⟩))))) s3 (fun e => nomatch e) (fun _ H4 n4 => ?_)
  have s4 := s3.trans n4
  refine s_if (b := false) ((eb_or (eb_test (ev_op (ev_isi (ev_var h1 r1) kl) (ev_isi (ev_var h0 r0) kl) opD_neB)) (fun _ => eb_test (ev_op (ev_isi (ev_var h1 r1) kt) (ev_isi (ev_var h0 r0) kt) opD_neB))).is (by simp)) s4 (fun e => nomatch e) (fun _ H5 n5 => ?_)
  have s5 := s4.trans n5
  have lens : ∀ i v, σ[i]? = some (some v) → Rp G v d → EvD (tLenO K i) σ G (.int ds.length) := fun i v h r => by
    rcases hd with rfl | rfl
    · exact ev_cb (ea1 (ev_var h r)) callD_lenL
    · exact ev_cb (ea1 (ev_var h r)) callD_lenT
  refine s_if (b := false) ((eb_test (ev_op (lens 0 v0 h0 r0) (lens 1 v1 h1 r1) opD_neI)).is (by simp)) s5 (fun e => nomatch e) (fun _ H6 n6 => ?_)
  exact q H6 (((((n1.trans n2).trans n3).trans n4).trans n5).trans n6)
end
theorem sc38 : FnScope ["_law_found", "_law_due", "_law_one", "_law_other"] ["_law_found", "_law_due"] (defScope (topS 38)) := ⟨rfl, rfl, rfl, by decide +kernel, rfl, by decide +kernel, by decide +kernel⟩
/-- a turn of the loop -/
theorem same_turn {R : List PyData → PyData → Prop} {G H : Hp} {v0 v1 x y : V} {y2 y3 : Option V} {T : Addr} {d : PyData} {D : Ends} (rx : Rp G x d) (ry : Rp G y d) (hR : R [d, d] (.bool true)) (sg : Same G H) (hT : H T = none)
    (k : ∀ H2, Same H H2 → D.nx [some v0, some v1, some x, some y] H2) :
    gTup K 2 (gCons (gName 2) (gCons (gName 3) gNil)) (.ref T) [some v0, some v1, y2, y3] (upd H T (.tup [x, y])) fun σ2 H2 =>
      tIfS (tNot (tB (tCall (spR R) [] E0 (tCons (tVar 2) (tCons (tVar 3) tNil))))) tNever tNext D σ2 H2 := by
  refine ⟨T, [x, y], rfl, SqT.of upd_same, rfl, x, [y], rfl, y, [], rfl, rfl, ?_⟩
  have s2 : Same G (upd H T (.tup [x, y])) := sg.trans (same_new hT)
  refine s_if (b := false) ((eb_not (eb_B (ev_call (ea2 (ev_var rfl rx) (ev_var rfl ry)) hR))).is rfl) s2 (fun e => nomatch e) (fun _ H2 n2 => ?_)
  exact k H2 ((same_new hT).trans n2)
theorem two_at {G : Hp} {xs ys : List V} {ds : List PyData} {i : Nat} {x y : V} (kx : RpL G xs ds) (ky : RpL G ys ds) (hx : xs[i]? = some x) (hy : ys[i]? = some y) : ∃ d, d ∈ ds ∧ Rp G x d ∧ Rp G y d := by
  obtain ⟨d, hd, rx⟩ := kx.at hx
  obtain ⟨e, he, ry⟩ := ky.at hy
  rw [hd] at he
  cases he
  exact ⟨d, List.mem_of_getElem? hd, rx, ry⟩
theorem ok38 {f : Addr} {fd : FuncData} (F : Fun K "_law_same" "_law_same" (topS 38) f fd) (b : Bt mg) (hm : mg "_law_same" = some (.ref f)) (hb : Binds K fd ["_law_found", "_law_due"] []) :
    ∀ k, FnOk P w K mg base CX0 k f fd ["_law_found", "_law_due"] (spR (Rsm k))
  | 0 => ⟨spR_len Rsm_len, fun A outer s H args us vs Q E hr e0 hbd r h => by
      obtain ⟨_, _, _, _, _, ⟨_, hg, _⟩, _⟩ := h
      exact hg.elim⟩
  | k + 1 => by
    have c : Cl P w K mg base CX0 k "_law_same" (spR (Rsm k)) := ⟨f, fd, _, ok38 F b hm hb k, hm, F.kp, hb⟩
    refine F.ok sc38 (spR_len Rsm_len) (fun cdv A outer s H vs Q E hr h => ?_)
    obtain ⟨G, ds, r, sg, kk, ⟨d, hg, rfl, rfl⟩, q⟩ := h
    cases kk with
    | @cons v0 _ _ _ r0 kk =>
      cases kk with
      | @cons v1 _ _ _ r1 kk =>
        cases kk
        refine ⟨tSame K (tSeq (tFor (RZ.iZipA K (tCons (tVar 0) (tCons (tVar 1) tNil))) (gTup K 2 (gCons (gName 2) (gCons (gName 3) gNil))) (tIfS (tNot (tB (tCall (spR (Rsm k)) [] E0 (tCons (tVar 2) (tCons (tVar 3) tNil))))) tNever tNext)) (tRet (tC (.bl true)))), ?_, ?_⟩
        · exact pss_cons (ps_if (pt_cmpR op_isN (pv 1) pe_non (nomark _)) pss_never pss_nil)
            (pss_cons (ps_if (pt_val (pe_callB call_isi (by rfl) b.isinstance (by decide +kernel) (pa_cons (pv 1) (pa_cons (pe_bltn (v := .ty "bool") (by rfl) b.bool (by decide +kernel) rfl) pa_nil)))) pss_never pss_nil)
            (pss_cons (ps_if (pt_val (pe_callB call_isi (by rfl) b.isinstance (by decide +kernel) (pa_cons (pv 1) (pa_cons (pe_bltn (v := .ty "int") (by rfl) b.int (by decide +kernel) rfl) pa_nil))))
              (pss_one (ps_ret (pe_and (pe_callB call_isi (by rfl) b.isinstance (by decide +kernel) (pa_cons (pv 0) (pa_cons (pe_bltn (v := .ty "int") (by rfl) b.int (by decide +kernel) rfl) pa_nil)))
                (pe_and (pe_not (pe_callB call_isi (by rfl) b.isinstance (by decide +kernel) (pa_cons (pv 0) (pa_cons (pe_bltn (v := .ty "bool") (by rfl) b.bool (by decide +kernel) rfl) pa_nil)))) (pe_one (pe_cmpR op_eq (pv 0) (pv 1) (nomark _))))))) pss_nil)
            (pss_cons (ps_if (pt_val (pe_callB call_isi (by rfl) b.isinstance (by decide +kernel) (pa_cons (pv 1) (pa_cons (pe_bltn (v := .ty "str") (by rfl) b.str (by decide +kernel) rfl) pa_nil)))) pss_never pss_nil)
            (pss_cons (ps_if (PW.pt (pw_or (pt_cmpR op_ne (pe_callB call_isi (by rfl) b.isinstance (by decide +kernel) (pa_cons (pv 1) (pa_cons (pe_bltn (v := .ty "list") (by rfl) b.list (by decide +kernel) rfl) pa_nil))) (pe_callB call_isi (by rfl) b.isinstance (by decide +kernel) (pa_cons (pv 0) (pa_cons (pe_bltn (v := .ty "list") (by rfl) b.list (by decide +kernel) rfl) pa_nil))) (nomark _))
              (pw_or1 (pt_cmpR op_ne (pe_callB call_isi (by rfl) b.isinstance (by decide +kernel) (pa_cons (pv 1) (pa_cons (pe_bltn (v := .ty "tuple") (by rfl) b.tuple (by decide +kernel) rfl) pa_nil))) (pe_callB call_isi (by rfl) b.isinstance (by decide +kernel) (pa_cons (pv 0) (pa_cons (pe_bltn (v := .ty "tuple") (by rfl) b.tuple (by decide +kernel) rfl) pa_nil))) (nomark _))))) pss_never pss_nil)
            (pss_cons (ps_if (pt_cmpR op_ne (pe_callB call_len_seq (by rfl) b.len PySem.boot_len (pa_cons (pv 0) pa_nil)) (pe_callB call_len_seq (by rfl) b.len PySem.boot_len (pa_cons (pv 1) pa_nil)) (nomark _)) pss_never pss_nil)
            (pss_cons (ps_for PassesOwn.never rfl (RZ.pi_zipA (by rfl) b.zip (pa_cons (pv 0) (pa_cons (pv 1) pa_nil))) (pg_tup rfl (pgs_cons (pg_name (i := 2) sc38.nd rfl (Or.inl rfl)) (pgs_cons (pg_name (i := 3) sc38.nd rfl (Or.inl rfl)) pgs_nil)))
              (pss_one (ps_if (pt_not (pt_val (pe_cl c hr (Nat.le_refl _) pass0 (by rfl) (pa_cons (pv 2) (pa_cons (pv 3) pa_nil))))) pss_never pss_nil)))
            (pss_one (ps_ret pe_bl))))))))
        · rcases hg with ⟨i, rfl⟩ | ⟨ds, hd, hgd⟩
          · exact same_int rfl rfl r0 r1 sg q
          · refine same_seq hd rfl rfl r0 r1 sg (fun H2 s2 => ?_)
            have s3 := sg.trans s2
            have fin : ∀ H', Same H2 H' → ∀ y2 y3, tRet (tC (.bl true)) (dE Q) [some v0, some v1, y2, y3] H' := fun H' s4 y2 y3 =>
              s_ret ev_bl (s3.trans s4) (fun v G4 H4 n4 r4 => q v G4 H4 ((Nx.keep sg (s2.trans s4)).trans n4) r4)
            rcases hd with rfl | rfl
            · cases r0 with
              | @lst a xs _ e0 k0 =>
                cases r1 with
                | @lst a2 ys _ e1 k1 =>
                  refine ⟨.ref a, rfl, .ref a2, rfl, a, a2, xs, ys, rfl, .inl ⟨SqL.of (s3 _ _ e0), SqL.of (s3 _ _ e1), RZ.for_zipL (by rw [k0.len, k1.len]) (fun i σ' H' => Same H2 H' ∧ ∃ y2 y3, σ' = [some (.ref a), some (.ref a2), y2, y3]) ⟨Same.refl _, none, none, rfl⟩
                    (fun i σ' H' p => ⟨SqL.of (s3.trans p.1 _ _ e0), SqL.of (s3.trans p.1 _ _ e1)⟩) (fun i x y T σ' H' hx hy p hT => ?_) (fun σ' H' p => ?_)⟩⟩
                  · obtain ⟨s4, y2, y3, rfl⟩ := p
                    obtain ⟨di, hmem, rx, ry⟩ := two_at k0 k1 hx hy
                    exact same_turn rx ry ⟨di, hgd di hmem, rfl, rfl⟩ (s3.trans s4) hT (fun H5 s5 => ⟨s4.trans s5, _, _, rfl⟩)
                  · obtain ⟨s4, y2, y3, rfl⟩ := p
                    exact fin H' s4 y2 y3
            · cases r0 with
              | @tup a xs _ e0 k0 =>
                cases r1 with
                | @tup a2 ys _ e1 k1 =>
                  refine ⟨.ref a, rfl, .ref a2, rfl, a, a2, xs, ys, rfl, .inr ⟨SqT.of (s3 _ _ e0), SqT.of (s3 _ _ e1), RZ.for_zipT (by rw [k0.len, k1.len]) (fun i σ' H' => Same H2 H' ∧ ∃ y2 y3, σ' = [some (.ref a), some (.ref a2), y2, y3]) ⟨Same.refl _, none, none, rfl⟩
                    (fun i σ' H' p => ⟨SqT.of (s3.trans p.1 _ _ e0), SqT.of (s3.trans p.1 _ _ e1)⟩) (fun i x y T σ' H' hx hy p hT => ?_) (fun σ' H' p => ?_)⟩⟩
                  · obtain ⟨s4, y2, y3, rfl⟩ := p
                    obtain ⟨di, hmem, rx, ry⟩ := two_at k0 k1 hx hy
                    exact same_turn rx ry ⟨di, hgd di hmem, rfl, rfl⟩ (s3.trans s4) hT (fun H5 s5 => ⟨s4.trans s5, _, _, rfl⟩)
                  · obtain ⟨s4, y2, y3, rfl⟩ := p
                    exact fin H' s4 y2 y3
end Ms

set_option Elab.async false
set_option linter.all false
set_option maxRecDepth 100000
/-! _law_same and _law_kinds while an error is handled -/
namespace Ms
open PySem PySem.Spec PyProof.Rows L2
variable {P : Program} {w : World} {K : PySem.W.Frag} {mg : Str → Option Value} {base : Heap}
/-- ints and lists of them, of depth below k -/
def GdH : Nat → PyData → Prop
  | 0, _ => False
  | k + 1, d => (∃ i : Int, d = .int i) ∨ ∃ ds : List PyData, d = .list ds ∧ ∀ x ∈ ds, GdH k x
def RsmH (k : Nat) : List PyData → PyData → Prop := fun ds r => ∃ d, GdH k d ∧ ds = [d, d] ∧ r = .bool true
theorem RsmH_len {k : Nat} (ds : List PyData) (r : PyData) (h : RsmH k ds r) : ds.length = 2 := by
  obtain ⟨d, _, rfl, _⟩ := h
  rfl
theorem ok38H {f : Addr} {fd : FuncData} (F : Fun K "_law_same" "_law_same" (topS 38) f fd) (b : Bt mg) (hm : mg "_law_same" = some (.ref f)) (hb : Binds K fd ["_law_found", "_law_due"] []) :
    ∀ k, FnE P w K mg base CX0 k f fd ["_law_found", "_law_due"] (fun _ => spR (RsmH k))
  | 0 => ⟨fun _ => spR_len RsmH_len, fun A outer s H args us vs Q E p hr hot hpin e0 hbd r h => by
      obtain ⟨_, _, _, _, _, ⟨_, hg, _⟩, _⟩ := h
      exact hg.elim⟩
  | k + 1 => by
    have c := ok38H F b hm hb k
    refine fnE_of F sc38 (fun _ => spR_len RsmH_len) (fun cdv A outer s H vs Q E p hot hr h => ?_)
    obtain ⟨G, ds, r, sg, kk, ⟨d, hg, rfl, rfl⟩, q⟩ := h
    cases kk with
    | @cons v0 _ _ _ r0 kk =>
      cases kk with
      | @cons v1 _ _ _ r1 kk =>
        cases kk
        have hc : L2H.HotC (L2H.cxH CX0 P w K mg base ["_law_found", "_law_due", "_law_one", "_law_other"] "_law_same" (defScope (topS 38)) f cdv A outer s H E p).nox := ⟨p, ⟨hot.1, hot.2⟩, List.mem_cons_self⟩
        refine ⟨tSame K (tSeq (tFor (iZipN K (tCons (tVar 0) (tCons (tVar 1) tNil))) (gTup K 2 (gCons (gName 2) (gCons (gName 3) gNil))) (tIfS (tNot (tB (tCall (spR (RsmH k)) [] E0 (tCons (tVar 2) (tCons (tVar 3) tNil))))) tNever tNext)) (tRet (tC (.bl true)))), PSs.nox ?_, ?_⟩
        · exact pss_cons (ps_if (pt_cmpR op_isN (pv 1) pe_non (nomark _)) pss_never pss_nil)
            (pss_cons (ps_if (pt_val (pe_callB call_isi (by rfl) b.isinstance (by decide +kernel) (pa_cons (pv 1) (pa_cons (pe_bltn (v := .ty "bool") (by rfl) b.bool (by decide +kernel) rfl) pa_nil)))) pss_never pss_nil)
            (pss_cons (ps_if (pt_val (pe_callB call_isi (by rfl) b.isinstance (by decide +kernel) (pa_cons (pv 1) (pa_cons (pe_bltn (v := .ty "int") (by rfl) b.int (by decide +kernel) rfl) pa_nil))))
              (pss_one (ps_ret (pe_and (pe_callB call_isi (by rfl) b.isinstance (by decide +kernel) (pa_cons (pv 0) (pa_cons (pe_bltn (v := .ty "int") (by rfl) b.int (by decide +kernel) rfl) pa_nil)))
                (pe_and (pe_not (pe_callB call_isi (by rfl) b.isinstance (by decide +kernel) (pa_cons (pv 0) (pa_cons (pe_bltn (v := .ty "bool") (by rfl) b.bool (by decide +kernel) rfl) pa_nil)))) (pe_one (pe_cmpR op_eq (pv 0) (pv 1) (nomark _))))))) pss_nil)
            (pss_cons (ps_if (pt_val (pe_callB call_isi (by rfl) b.isinstance (by decide +kernel) (pa_cons (pv 1) (pa_cons (pe_bltn (v := .ty "str") (by rfl) b.str (by decide +kernel) rfl) pa_nil)))) pss_never pss_nil)
            (pss_cons (ps_if (PW.pt (pw_or (pt_cmpR op_ne (pe_callB call_isi (by rfl) b.isinstance (by decide +kernel) (pa_cons (pv 1) (pa_cons (pe_bltn (v := .ty "list") (by rfl) b.list (by decide +kernel) rfl) pa_nil))) (pe_callB call_isi (by rfl) b.isinstance (by decide +kernel) (pa_cons (pv 0) (pa_cons (pe_bltn (v := .ty "list") (by rfl) b.list (by decide +kernel) rfl) pa_nil))) (nomark _))
              (pw_or1 (pt_cmpR op_ne (pe_callB call_isi (by rfl) b.isinstance (by decide +kernel) (pa_cons (pv 1) (pa_cons (pe_bltn (v := .ty "tuple") (by rfl) b.tuple (by decide +kernel) rfl) pa_nil))) (pe_callB call_isi (by rfl) b.isinstance (by decide +kernel) (pa_cons (pv 0) (pa_cons (pe_bltn (v := .ty "tuple") (by rfl) b.tuple (by decide +kernel) rfl) pa_nil))) (nomark _))))) pss_never pss_nil)
            (pss_cons (ps_if (pt_cmpR op_ne (pe_callB call_len_seq (by rfl) b.len PySem.boot_len (pa_cons (pv 0) pa_nil)) (pe_callB call_len_seq (by rfl) b.len PySem.boot_len (pa_cons (pv 1) pa_nil)) (nomark _)) pss_never pss_nil)
            (pss_cons (L2H.ps_forH PassesOwn.never hc (pi_zipN (by rfl) b.zip (pa_cons (pv 0) (pa_cons (pv 1) pa_nil))) (pg_tupN hc (pgs_cons (pg_name (i := 2) sc38.nd rfl (Or.inl rfl)) (pgs_cons (pg_name (i := 3) sc38.nd rfl (Or.inl rfl)) pgs_nil)))
              (pss_one (ps_if (pt_not (pt_val (pe_callE (sp := fun _ => spR (RsmH k)) (p := p) c hr ⟨hot.1, hot.2⟩ List.mem_cons_self (by rfl) hm F.kp hb (pa_cons (pv 2) (pa_cons (pv 3) pa_nil))))) pss_never pss_nil)))
            (pss_one (ps_ret pe_bl))))))))
        · rcases hg with ⟨i, rfl⟩ | ⟨ds, rfl, hgd⟩
          · exact same_int rfl rfl r0 r1 sg q
          · refine same_seq (.inl rfl) rfl rfl r0 r1 sg (fun H2 s2 => ?_)
            have s3 := sg.trans s2
            have fin : ∀ H', Same H2 H' → ∀ y2 y3, tRet (tC (.bl true)) (dE Q) [some v0, some v1, y2, y3] H' := fun H' s4 y2 y3 =>
              s_ret ev_bl (s3.trans s4) (fun v G4 H4 n4 r4 => q v G4 H4 ((Nx.keep sg (s2.trans s4)).trans n4) r4)
            cases r0 with
            | @lst a xs _ e0 k0 =>
              cases r1 with
              | @lst a2 ys _ e1 k1 =>
                refine ⟨.ref a, rfl, .ref a2, rfl, a, a2, xs, ys, rfl, SqL.of (s3 _ _ e0), SqL.of (s3 _ _ e1), for_zipN rfl (by rw [k0.len, k1.len]) (fun i σ' H' => Same H2 H' ∧ ∃ y2 y3, σ' = [some (.ref a), some (.ref a2), y2, y3]) ⟨Same.refl _, none, none, rfl⟩
                  (fun i σ' H' p => ⟨SqL.of (s3.trans p.1 _ _ e0), SqL.of (s3.trans p.1 _ _ e1)⟩) (fun i x y T σ' H' hx hy p hT => ?_) (fun σ' H' p => ?_)⟩
                · obtain ⟨s4, y2, y3, rfl⟩ := p
                  obtain ⟨di, hmem, rx, ry⟩ := two_at k0 k1 hx hy
                  exact same_turn rx ry ⟨di, hgd di hmem, rfl, rfl⟩ (s3.trans s4) hT (fun H5 s5 => ⟨s4.trans s5, _, _, rfl⟩)
                · obtain ⟨s4, y2, y3, rfl⟩ := p
                  exact fin H' s4 y2 y3
/-! _law_kinds -/
/-- a class's name in the module: an error of C is (b) or is not of it -/
def Kn (K : PySem.W.Frag) (mg : Str → Option Value) (C : Addr) (x : Str) (b : Bool) : Prop := ∃ D : Addr, mg x = some (.ref D) ∧ PySem.W.kitOne K (.ref C) (.ref D) = some b
structure KnAll (K : PySem.W.Frag) (mg : Str → Option Value) (C : Addr) : Prop where
  k0 : Kn K mg C "NoGround" false
  k1 : Kn K mg C "NoFamily" false
  k2 : Kn K mg C "NoSet" false
  k3 : Kn K mg C "NoNumber" false
  k4 : Kn K mg C "NoOrder" false
  k5 : Kn K mg C "NoRing" false
  k6 : Kn K mg C "NotFull" false
  k7 : Kn K mg C "NoSizes" false
  k8 : Kn K mg C "NoMeeting" false
  k9 : Kn K mg C "TooGreat" true
  k10 : Kn K mg C "NoRow" false
  k11 : Kn K mg C "NoText" false
  kV : PySem.W.kitOne K (.ref C) (.type "ValueError") = some true
  ec : ExcC K C
theorem sc37 : FnScope ["_law_e", "_law_found"] ["_law_e"] (defScope (topS 37)) := ⟨rfl, rfl, rfl, by decide +kernel, rfl, by decide +kernel, by decide +kernel⟩
/-- p the handled error, of class C, with its fields fs -/
def spK (C : Addr) : SpE := fun p vs H Q _ => ∃ (d : Addr) (fs : List (Str × V)), vs = [.ref p.1] ∧ Zc (.ref C) (some d) p.2 ∧ (∃ vs, p.2.data = .fields vs) ∧ H d = some (.xd fs) ∧ ∀ H', Same H H' → Q (.int 9) H'
def tKi (K : PySem.W.Frag) (C a d : Addr) (c : V) : TE := tCB (rIsP K C a d) (tCons (tVar 0) (tCons (tC c) tNil))
theorem ev_ki {K : PySem.W.Frag} {C a d : Addr} {fs : List (Str × V)} {σ : Sl} {G : Hp} {c : V} {cv : Value} {b : Bool} (h0 : σ[0]? = some (some (.ref a))) (hc : ClsV c cv) (hk : PySem.W.kitOne K (.ref C) cv = some b) (hd : G d = some (.xd fs)) : EvD (tKi K C a d c) σ G (.bool b) := fun H s Q q =>
  ⟨.ref a, h0, c, cv, b, fs, rfl, fun u r => hc.eq r, hk, s _ _ hd, q _ G H (.refl s) (.bl b)⟩
theorem one_known {H : Hp} {d : Addr} {o : HO} (e : H d = some o) : ∃ G : Hp, Same G H ∧ G d = some o := by
  refine ⟨fun b => if b = d then some o else none, fun b u z => ?_, if_pos rfl⟩
  have z' : (if b = d then some o else none) = some u := z
  by_cases hb : b = d
  · rw [if_pos hb] at z'
    rw [hb, e]
    exact z'
  · rw [if_neg hb] at z'
    cases z'
theorem ok37 {C : Addr} {f : Addr} {fd : FuncData} (F : Fun K "_law_kinds" "_law_kinds" (topS 37) f fd) (b : Bt mg) (kn : KnAll K mg C) : FnE P w K mg base CX0 1 f fd ["_law_e"] (spK C) := by
  refine fnE_of F sc37 (fun p vs H Q E h => ?_) (fun cdv A outer s H vs Q E p hot hr h => ?_)
  · obtain ⟨d, fs, rfl, _⟩ := h
    rfl
  · obtain ⟨d, fs, rfl, hz, hf, ea, q⟩ := h
    obtain ⟨D0, m0, c0⟩ := kn.k0
    obtain ⟨D1, m1, c1⟩ := kn.k1
    obtain ⟨D2, m2, c2⟩ := kn.k2
    obtain ⟨D3, m3, c3⟩ := kn.k3
    obtain ⟨D4, m4, c4⟩ := kn.k4
    obtain ⟨D5, m5, c5⟩ := kn.k5
    obtain ⟨D6, m6, c6⟩ := kn.k6
    obtain ⟨D7, m7, c7⟩ := kn.k7
    obtain ⟨D8, m8, c8⟩ := kn.k8
    obtain ⟨D9, m9, c9⟩ := kn.k9
    obtain ⟨D10, m10, c10⟩ := kn.k10
    obtain ⟨D11, m11, c11⟩ := kn.k11
    have hpn : ∀ {l : List (Addr × Obj)}, p ∈ p :: l := List.mem_cons_self
    refine ⟨_, pss_cons (ps_set (i := 1) sc37.nd rfl (Or.inl rfl) (pe_lst (pa_cons (pe_callB (call_isP (p := p) kn.ec hpn hz hf) (by rfl) b.isinstance (by decide +kernel) (pa_cons (pv 0) (pa_cons (pe_glob (v := .ref D0) (by rfl) m0 rfl) pa_nil))) (pa_cons (pe_callB (call_isP (p := p) kn.ec hpn hz hf) (by rfl) b.isinstance (by decide +kernel) (pa_cons (pv 0) (pa_cons (pe_glob (v := .ref D1) (by rfl) m1 rfl) pa_nil)))
        (pa_cons (pe_callB (call_isP (p := p) kn.ec hpn hz hf) (by rfl) b.isinstance (by decide +kernel) (pa_cons (pv 0) (pa_cons (pe_glob (v := .ref D2) (by rfl) m2 rfl) pa_nil))) (pa_cons (pe_callB (call_isP (p := p) kn.ec hpn hz hf) (by rfl) b.isinstance (by decide +kernel) (pa_cons (pv 0) (pa_cons (pe_glob (v := .ref D3) (by rfl) m3 rfl) pa_nil))) pa_nil))))))
      (pss_cons (ps_set (i := 1) sc37.nd rfl (Or.inl rfl) (pe_op op_cat (pv 1) (pe_lst (pa_cons (pe_callB (call_isP (p := p) kn.ec hpn hz hf) (by rfl) b.isinstance (by decide +kernel) (pa_cons (pv 0) (pa_cons (pe_glob (v := .ref D4) (by rfl) m4 rfl) pa_nil))) (pa_cons (pe_callB (call_isP (p := p) kn.ec hpn hz hf) (by rfl) b.isinstance (by decide +kernel) (pa_cons (pv 0) (pa_cons (pe_glob (v := .ref D5) (by rfl) m5 rfl) pa_nil)))
        (pa_cons (pe_callB (call_isP (p := p) kn.ec hpn hz hf) (by rfl) b.isinstance (by decide +kernel) (pa_cons (pv 0) (pa_cons (pe_glob (v := .ref D6) (by rfl) m6 rfl) pa_nil))) (pa_cons (pe_callB (call_isP (p := p) kn.ec hpn hz hf) (by rfl) b.isinstance (by decide +kernel) (pa_cons (pv 0) (pa_cons (pe_glob (v := .ref D7) (by rfl) m7 rfl) pa_nil))) pa_nil)))))))
      (pss_cons (ps_set (i := 1) sc37.nd rfl (Or.inl rfl) (pe_op op_cat (pv 1) (pe_lst (pa_cons (pe_callB (call_isP (p := p) kn.ec hpn hz hf) (by rfl) b.isinstance (by decide +kernel) (pa_cons (pv 0) (pa_cons (pe_glob (v := .ref D8) (by rfl) m8 rfl) pa_nil))) (pa_cons (pe_callB (call_isP (p := p) kn.ec hpn hz hf) (by rfl) b.isinstance (by decide +kernel) (pa_cons (pv 0) (pa_cons (pe_glob (v := .ref D9) (by rfl) m9 rfl) pa_nil)))
        (pa_cons (pe_callB (call_isP (p := p) kn.ec hpn hz hf) (by rfl) b.isinstance (by decide +kernel) (pa_cons (pv 0) (pa_cons (pe_glob (v := .ref D10) (by rfl) m10 rfl) pa_nil))) (pa_cons (pe_callB (call_isP (p := p) kn.ec hpn hz hf) (by rfl) b.isinstance (by decide +kernel) (pa_cons (pv 0) (pa_cons (pe_glob (v := .ref D11) (by rfl) m11 rfl) pa_nil))) pa_nil)))))))
      (pss_cons (ps_if (PW.pt (pw_or (pt_not (pt_val (pe_callB (call_isP (p := p) kn.ec hpn hz hf) (by rfl) b.isinstance (by decide +kernel) (pa_cons (pv 0) (pa_cons (pe_bltn (v := .ty "ValueError") (by rfl) b.verr (by decide +kernel) rfl) pa_nil)))))
          (pw_or1 (pt_cmpR op_ne (pe_bm PySem.F.plainAttrs_list PySem.F.slot_list_count PySem.F.type_list_count mt_cntB (pv 1) (pa_cons pe_bl pa_nil)) pe_int (nomark _))))) pss_never pss_nil)
      (pss_one (ps_ret (pe_bm PySem.F.plainAttrs_list PySem.F.slot_list_index PySem.F.type_list_index mt_index (pv 1) (pa_cons pe_bl pa_nil))))))), ?_⟩
    -- the reading
    obtain ⟨G, sg, gd⟩ := one_known ea
    have one : ∀ {G' : Hp} {σ : Sl} {D : Addr} {x : Bool}, Same G G' → σ[0]? = some (some (.ref p.1)) → PySem.W.kitOne K (.ref C) (.ref D) = some x → EvD (tKi K C p.1 d (.ref D)) σ G' (.bool x) := fun s1 h0 hk => ev_ki h0 (.own _) hk (s1 _ _ gd)
    refine s_asg (d := .list ([false, false, false, false].map .bool)) (ev_lst (ea_cons (one (.refl _) rfl c0) (ea_cons (one (.refl _) rfl c1) (ea2 (one (.refl _) rfl c2) (one (.refl _) rfl c3)))) (by decide)) sg (fun v1 G1 H1 n1 r1 => ?_)
    refine s_asg (d := .list ([false, false, false, false, false, false, false, false].map .bool)) ((ev_op (ev_var rfl r1) (ev_lst (ea_cons (one n1.gg rfl c4) (ea_cons (one n1.gg rfl c5) (ea2 (one n1.gg rfl c6) (one n1.gg rfl c7)))) (by decide)) (opD_cat (by decide))).is rfl) n1.gh (fun v2 G2 H2 n2 r2 => ?_)
    have g2 := n1.gg.trans n2.gg
    refine s_asg (d := .list ([false, false, false, false, false, false, false, false, false, true, false, false].map .bool)) ((ev_op (ev_var rfl r2) (ev_lst (ea_cons (one g2 rfl c8) (ea_cons (one g2 rfl c9) (ea2 (one g2 rfl c10) (one g2 rfl c11)))) (by decide)) (opD_cat (by decide))).is rfl) n2.gh (fun v3 G3 H3 n3 r3 => ?_)
    have g3 := g2.trans n3.gg
    refine s_if (b := false) ((eb_or (eb_not (eb_B (ev_ki rfl (.ty _) kn.kV (g3 _ _ gd)))) (fun _ => eb_test (ev_op (ev_bmL (ev_var rfl r3) (ea1 ev_bl) mtD_cntB) ev_int opD_neI))).is (by decide)) n3.gh (fun e => nomatch e) (fun _ H4 s4 => ?_)
    refine s_ret (d := .int 9) (ev_bmL (ev_var rfl r3) (ea1 ev_bl) (mtD_idxB (j := 9) rfl (fun m hm c hc => ?_))) (n3.gh.trans s4) (fun v G5 H5 n5 r5 => ?_)
    · have : m = 0 ∨ m = 1 ∨ m = 2 ∨ m = 3 ∨ m = 4 ∨ m = 5 ∨ m = 6 ∨ m = 7 ∨ m = 8 := by omega
      rcases this with rfl | rfl | rfl | rfl | rfl | rfl | rfl | rfl | rfl <;> (cases hc; exact fun z => by cases z)
    · cases r5
      exact q H5 ((((n1.trans n2).trans n3).hh.trans s4).trans n5.hh)
end Ms

set_option Elab.async false
set_option linter.all false
set_option maxRecDepth 100000
/-! _law_refused -/
namespace Ms
open PySem PySem.Spec PyProof.Rows L2
variable {P : Program} {w : World} {K : PySem.W.Frag} {mg : Str → Option Value} {base : Heap}
theorem pe_clS {X : Cx} {CX : CXT} {k j : Nat} {x : Str} {sp : Sp} {E : Sl → XK} {p pos : Pos} {e : Expr} {es : List Expr} {t : TA} (c : Cl X.prog X.w X.K X.mg X.base CX k x sp) (hr : Room j X.A) (hk : k ≤ j) (hx : ∀ σ, PassesAt CX X σ (E σ)) (hg : Gl X x) (ha : PA X (e :: es) t)
    (hdb : (x == ("__debug__" : Str)) = false := by decide) (he : starEach (e :: es) X.env = (false, eval e X.env) :: starEach es X.env := by rfl) (hpl : (backTo pos (starEach es X.env)).any (·.1) = false := by rfl) :
    PE X (.Call (.Name x p) (e :: es) [] pos) (tCallS sp E t) := by
  obtain ⟨f, fd, ps, F, hm, kp, b⟩ := c.ex
  exact pe_callS F (hr.mono hk) hg hm kp b hx ha hdb he hpl
/-- kinds(e), e the error that the suite holds in slot i -/
def tKs (i : Nat) (C a : Addr) (cls : Value) (d : Option Addr) : TE := fun σ H Q => σ[i]? = some (some (.ref a)) ∧ cls = .ref C ∧ ∃ (dd : Addr) (fs : List (Str × V)), d = some dd ∧ H dd = some (.xd fs) ∧ ∀ H', Same H H' → Q (.int 9) H'
def tSuite (C a : Addr) (cls : Value) (d : Option Addr) : TS := tRet (tAndV (tOp rEq (tKs 2 C a cls d) (tC (.int 9)))
  (tCall (spR (RsmH 2)) [] E0 (tCons (tLst (tCons (tXf a cls d C "many" (tVar 2)) (tCons (tXf a cls d C "most" (tVar 2)) tNil))) (tCons (tLst (tCons (tVar 1) (tCons (tC (.int 5)) tNil))) tNil))))
theorem suite_ok {C a d : Addr} {D : Ends} {way n : Int} {H : Hp} (hd : H d = some (.xd [("most", .int 5), ("many", .int n)])) (q : ∀ H', Same H H' → D.rt (.bl true) H') :
    tSuite C a (.ref C) (some d) D [some (.int way), some (.int n), some (.ref a)] H := by
  obtain ⟨G, sg, gd⟩ := one_known hd
  refine s_ret (d := .bool true) ?_ sg (fun v G1 H1 n1 r1 => ?_)
  · have e1 : EvD (tKs 2 C a (.ref C) (some d)) [some (.int way), some (.int n), some (.ref a)] G (.int 9) := fun H s Q q => ⟨rfl, rfl, d, _, rfl, s _ _ gd, fun H' s' => q (.int 9) G H' (.keep s s') (.int 9)⟩
    have e2 : EvD (tXf a (.ref C) (some d) C "many" (tVar 2)) [some (.int way), some (.int n), some (.ref a)] G (.int n) := fun H s Q q => ⟨.ref a, rfl, rfl, rfl, d, _, .int n, rfl, s _ _ gd, rfl, q _ G H (.refl s) (.int n)⟩
    have e3 : EvD (tXf a (.ref C) (some d) C "most" (tVar 2)) [some (.int way), some (.int n), some (.ref a)] G (.int 5) := fun H s Q q => ⟨.ref a, rfl, rfl, rfl, d, _, .int 5, rfl, s _ _ gd, rfl, q _ G H (.refl s) (.int 5)⟩
    refine (ev_andV (ev_op e1 ev_int opD_eqI) (fun _ => ev_call (r := .bool true) (ea2 (ev_lst (ea2 e2 e3) (by show 2 ≤ 100000; decide)) (ev_lst (ea2 (ev_var rfl (.int n)) ev_int) (by show 2 ≤ 100000; decide))) ⟨.list [.int n, .int 5], ?_, rfl, rfl⟩)).is rfl
    refine .inr ⟨_, rfl, fun x hx => ?_⟩
    rcases List.mem_cons.mp hx with rfl | hx
    · exact .inl ⟨n, rfl⟩
    · have : x = .int 5 := by simpa using hx
      exact .inl ⟨5, this⟩
  · cases r1
    exact q H1 n1.hh
def tBody (C : Addr) (v1 v2 : Nat → PyData) (W : WX) : TS := tSeq (tIfS (tTest (tOp rEq (tVar 0) (tC (.int 0)))) (tDrop (tCallS (spX C v1) (WE W) (tCons (tVar 1) tNil))) tNext)
  (tIfS (tTest (tOp rEq (tVar 0) (tC (.int 1)))) (tDrop (tCallS (spX C v2) (WE W) (tCons (tVar 1) tNil))) tNext)
theorem sc42 : FnScope ["_law_way", "_law_n", "_law_e"] ["_law_way", "_law_n"] (defScope (topS 42)) := ⟨rfl, rfl, rfl, by decide +kernel, rfl, by decide +kernel, by decide +kernel⟩
def sp42 : Sp := fun vs H Q _ => ∃ (way : Int) (n : Nat), vs = [.int way, .int (n : Int)] ∧ (way = 0 ∨ way = 1) ∧ 6 ≤ n ∧ n ≤ 8 ∧ ∀ H', Same H H' → Q (.bl true) H'
abbrev v31 : Nat → PyData := fun n => .int ((allChoices n).length : Int)
abbrev v32 : Nat → PyData := fun n => .list ((allFull n).map encF)
theorem ok42 {C M : Addr} {f f37 f38 : Addr} {fd fd37 fd38 : FuncData} (F : Fun K "_law_refused" "_law_refused" (topS 42) f fd) (b : Bt mg) (T : TgC K C) (xf : XfC K C) (gM : mg "MeetError" = some (.ref M)) (eM : PySem.W.exmOne K (.ref C) (.ref M) = some true)
    (c31 : Cl P w K mg base (L2N.CX P w) 5 "full_many" (spX C v31)) (c32 : Cl P w K mg base (L2N.CX P w) 5 "all_full" (spX C v32))
    (G37 : FnE P w K mg base CX0 1 f37 fd37 ["_law_e"] (spK C)) (m37 : mg "_law_kinds" = some (.ref f37)) (kp37 : PySem.W.keepIn K (.ref f37) = true) (b37 : Binds K fd37 ["_law_e"] [])
    (G38 : FnE P w K mg base CX0 2 f38 fd38 ["_law_found", "_law_due"] (fun _ => spR (RsmH 2))) (m38 : mg "_law_same" = some (.ref f38)) (kp38 : PySem.W.keepIn K (.ref f38) = true) (b38 : Binds K fd38 ["_law_found", "_law_due"] []) :
    FnOk P w K mg base CX0 6 f fd ["_law_way", "_law_n"] sp42 := by
  refine F.ok sc42 (fun vs H Q E h => ?_) (fun cdv A outer s H vs Q E hr h => ?_)
  · obtain ⟨way, n, rfl, _⟩ := h
    rfl
  · obtain ⟨way, n, rfl, hw, h6, h8, q⟩ := h
    refine ⟨_, pss_cons (L2N.ps_try_as (i := 2) (c := .ref M) (tb := tBody C v31 v32) (ts := tSuite C) (Wout := fun _ _ _ _ => False) rfl rfl sc42.nd rfl rfl ⟨by rfl, by decide, .inl gM⟩ takesN0
        (fun W pn xe tk _ => ?_) (fun a oe cls d pn hz hf => ?_)) (pss_one (ps_ret pe_bl)), ?_⟩
    · exact pss_cons (ps_if (pt_cmpR op_eq (pv 0) pe_int (nomark _)) (pss_one (ps_expr (pe_clS c31 hr (Nat.le_refl _) (fun σ => L2N.passAt tk σ) (by rfl) (pa_cons (pv 1) pa_nil)))) pss_nil)
        (pss_one (ps_if (pt_cmpR op_eq (pv 0) pe_int (nomark _)) (pss_one (ps_expr (pe_clS c32 hr (Nat.le_refl _) (fun σ => L2N.passAt tk σ) (by rfl) (pa_cons (pv 1) pa_nil)))) pss_nil))
    · obtain ⟨vs, hv⟩ := id hf
      have hot : L2H.Hot1 (Cx.suite (cxOf CX0 P w K mg base ["_law_way", "_law_n", "_law_e"] "_law_refused" (defScope (topS 42)) f cdv A outer s H E).nox a ((a, oe) :: pn)).A (a, oe) := ⟨rfl, vs, hv, hz.2.2 vs hv⟩
      have rh : L2H.RoomH 5 (Cx.suite (cxOf CX0 P w K mg base ["_law_way", "_law_n", "_law_e"] "_law_refused" (defScope (topS 42)) f cdv A outer s H E).nox a ((a, oe) :: pn)).A := L2H.roomH_mark hr _
      refine pss_one (ps_ret (pe_and (pe_cmpR op_eq ?_ pe_int (nomark _)) (pe_one (pe_callE (sp := fun _ => spR (RsmH 2)) (p := (a, oe)) G38 (rh.mono (by decide)) hot List.mem_cons_self (by rfl) m38 kp38 b38
        (pa_cons (pe_lst (pa_cons (pe_xf xf T.nM hz.zc hf (pv 2)) (pa_cons (pe_xf xf T.nO hz.zc hf (pv 2)) pa_nil))) (pa_cons (pe_lst (pa_cons (pv 1) (pa_cons pe_int pa_nil))) pa_nil))))))
      refine ⟨fun pins s' σ H' Q' I h => ?_⟩
      obtain ⟨h0, hc, dd, fs, hd, hx, q'⟩ := h
      subst hc
      subst hd
      exact (pe_callE (sp := spK C) (p := (a, oe)) G37 (rh.mono (by decide)) hot List.mem_cons_self (by rfl) m37 kp37 b37 (pa_cons (pv 2) pa_nil)).run pins s' σ H' Q' I ⟨.ref a, h0, dd, fs, rfl, hz.zc, hf, hx, q'⟩
    · have refd : ∀ (H1 : Hp), Same H H1 → Ref C (WE (wAs K (.ref M) 2 (tSuite C) (fun _ _ _ _ => False) { nx := tRet (tC (.bl false)) (dE Q), rt := Q }) [some (.int way), some (.int (n : Int)), none]) H1 (n : Int) 5 := fun H1 s1 d H2 s2 hd0 hd => by
        refine ⟨true, eM, fun _ a ha => ?_, fun z => nomatch z⟩
        exact suite_ok hd (fun H' s' => q H' ((s1.trans s2).trans s'))
      have gs : Same (fun _ => none) H := fun _ _ e => by cases e
      refine s_if (eb_test (ev_op (ev_var rfl (.int way)) ev_int opD_eqI)) gs (fun e H1 n1 => ?_) (fun e H1 n1 => ?_)
      · exact ⟨.int (n : Int), rfl, n, rfl, by omega, h8, fun h => by omega, fun _ => refd H1 n1⟩
      · refine s_if (eb_test (ev_op (ev_var rfl (.int way)) ev_int opD_eqI)) (gs.trans n1) (fun e H2 n2 => ?_) (fun e2 H2 n2 => ?_)
        · exact ⟨.int (n : Int), rfl, n, rfl, by omega, h8, fun h => by omega, fun _ => refd H2 (n1.trans n2)⟩
        · rcases hw with rfl | rfl
          · simp at e
          · simp at e2
end Ms

set_option Elab.async false
set_option linter.all false
set_option maxRecDepth 100000
/-! sorted of a tuple of sets -/
namespace Ms
open PySem PySem.Spec PyProof.Rows L2 PySem.W
def rSortT : List V → Hp → VK → Prop := fun vs H Q => ∃ (G : Hp) (f : F), Same G H ∧ RpL G vs [encF f] ∧ (∀ s ∈ f, s ≠ []) ∧ f.length ≤ 100000 ∧
  ∀ v G2 H2, Nx G H G2 H2 → Rp G2 v (.list ((isort ltS f).map encS)) → Q v H2
theorem cr_sortT {X : Cx} (hu : X.A.units + 64 < cLine) : CallR X (.builtin "sorted") rSortT := by
  intro pins s σ H vs us Q I r h
  obtain ⟨G, f, sg, rl, hne, hl, q⟩ := h
  cases rl with
  | cons ra rt =>
    cases rt
    have ra' : Rp G _ (.tuple (f.map encS)) := ra
    cases ra' with
    | @tup a xs _ ea ka =>
      rw [Vals.ref1 r]
      obtain ⟨its, rv, ht, hz⟩ := I.tuple (SqT.of (sg _ _ ea))
      have hlen : its.length = f.length := by
        have e1 := rv.length
        have e2 := ka.len
        simp only [List.length_map] at e1 e2
        omega
      obtain ⟨o, ho0, hc0, n0, hd0⟩ := id ht
      refine Calls.call_function_entry kind_sorted plain_sorted entry_sorted (args_sorted1 _) ?_
      unfold Builtin.«sorted»
      refine wpAny_bind (m := checkCount "sorted" 1 1 _) (wpAny_pure ?_)
      refine wpAny_bind (wpAny_collect_seq (A := X.A.in1) a (T := "tuple") (.inr rfl) ho0 hc0 hd0 (fun h' keep => ?_) (by rw [List.size_toArray, hlen]; exact sz_of hl))
      have hl2 : its.length ≤ sizeLine := by
        rw [hlen]
        exact sz_of hl
      show wpAny _ _ (newList its >>= _) _ _ _
      refine wpAny_bind (wpAny_newList ?_ hl2)
      have ho : (h'.push (seqObj "list" its.toArray 0)).get? h'.objs.size = some (seqObj "list" its.toArray 0) := Heap.get?_push_size _ rfl
      have keep2 : ∀ b o, s.heap.get? b = some o → (h'.push (seqObj "list" its.toArray 0)).get? b = some o := fun b o e => Heap.get?_push_of_some _ (keep b o e)
      have I2 : Inv X pins σ H { s with heap := h'.push (seqObj "list" its.toArray 0) } := I.kept (t' := s.toks) keep2
      have ea2 : EachIs (fun u b => ∃ x, RelV x u ∧ Rp G x (encS b)) its f := each_of ka rv
      have er := each_reads I2 sg ea2
      have er2 : EachIs (fun u b => ∃ as, Reads (h'.push (seqObj "list" its.toArray 0)) u (encS b) as ∧ h'.objs.size ∉ as) its f := er.mono fun u b ⟨as, rd⟩ => ⟨as, rd, by
        rw [not_in_reads rd (D := h'.objs.size) (fun o e => by
          rw [ho] at e
          cases e
          rfl)]
        exact fun z => nomatch z⟩
      obtain ⟨c1, c2⟩ := can_S (.inl hne)
      have c2' : PySem.W.Sortable (f.map encS) := by
        rcases c2 with c2 | ⟨r0, e0, _⟩
        · exact c2
        · cases f with
          | nil => cases e0
          | cons s0 f0 =>
            have e1 : encS s0 = .tuple [] := (List.cons.inj e0).1
            have e2 : s0 = [] := by
              cases s0 with
              | nil => rfl
              | cons _ _ => exact absurd e1 (by simp [encS])
            exact absurd e2 (hne s0 List.mem_cons_self)
      refine wpAny_bind (wpAny_holding (list_sort_data (A := X.A.in1) (s := { s with heap := h'.push (seqObj "list" its.toArray 0) }) (R := fun u b => ∃ x, RelV x u ∧ Rp G x (encS b)) (enc := encS) ho ea2 er2 c1 c2' (sz_of hl) (fun b hb => ?_) fun out hol ho2 => ?_))
      · have := kd_S.dp b
        show X.A.units + 1 + 1 + (encS b).depth < cLine
        omega
      · refine wpAny_pure ⟨_, rfl, ?_⟩
        obtain ⟨ys, rv2, k2⟩ := of_each ho2
        rw [kd_S.sort lin_S f] at k2
        obtain ⟨c, hcc⟩ := sortedHeap_at (h := h'.push (seqObj "list" its.toArray 0)) (a := h'.objs.size) (vs := its) (out := out.toArray) ho
        have I1 : Inv X pins σ H { s with heap := h' } := I.kept (t' := s.toks) keep
        have fr : H h'.objs.size = none := I1.hok.fresh (Nat.le_refl _)
        have hlen2 : ys.length ≤ sizeLine := by
          rw [k2.len, List.length_map, (isort_perm f).length_eq]
          exact sz_of hl
        have hn := Nx.new (o := .lst ys) sg fr
        have keep3 : ∀ b o, h'.get? b = some o → (sortedHeap (h'.push (seqObj "list" its.toArray 0)) h'.objs.size its out.toArray).get? b = some o := fun b o e => by
          have hb := Heap.lt_size e
          rw [sortedHeap_old (Nat.ne_of_lt hb) (by rw [size_push']; exact Nat.lt_succ_of_lt hb)]
          exact Heap.get?_push_of_some _ e
        exact ⟨.ref _, upd H h'.objs.size (.lst ys), I1.laid (t' := s.toks) keep3 (Nat.le_refl _) ⟨hlen2, out, c, rv2, hcc⟩, rfl, q _ _ _ hn (.lst upd_same (k2.up hn.gg))⟩
theorem callD_sortT {f : F} (hne : ∀ s ∈ f, s ≠ []) (hl : f.length ≤ 100000) : CallD rSortT [encF f] (.list ((isort ltS f).map encS)) := fun G H xs s r Q q => ⟨G, f, s, r, hne, hl, q⟩
/-! for k, x in enumerate(xs) -/
theorem for_enum {K : PySem.W.Frag} {a : Addr} {xs : List V} {g : TG} {tb : TS} {D : Ends} {σ : L2.St} {H : Hp} (Pv : Nat → L2.St → Hp → Prop) (h0 : Pv 0 σ H) (hq : ∀ i σ H, Pv i σ H → SqL K H a xs)
    (hs : ∀ (i : Nat) (x : V) (T : Addr) (σ : L2.St) (H : Hp), xs[i]? = some x → Pv i σ H → H T = none → g (.ref T) σ (upd H T (.tup [.int (i : Nat), x])) fun σ2 H2 => tb { D with nx := Pv (i + 1), ct := Pv (i + 1), bk := D.nx } σ2 H2) (hd : ∀ σ H, Pv xs.length σ H → D.nx σ H) :
    ∃ W : Nat → Nat → L2.St → Hp → Prop, (∃ m, W 0 m σ H) ∧ ∀ i m σ H, W i m σ H →
      ((Ite K a).stop i H ∧ D.nx σ H) ∨ ((Ite K a).go i H ∧ ∃ N : L2.St → Hp → Prop, (∀ σ' H', N σ' H' → ∃ m', m' < m ∧ W (i + 1) m' σ' H') ∧ ∀ v H', (Ite K a).yld i H v H' → g v σ H' fun σ2 H2 => tb { D with nx := N, ct := N, bk := D.nx } σ2 H2) := by
  refine ⟨fun i m σ H => m = xs.length - i ∧ i ≤ xs.length ∧ Pv i σ H, ⟨xs.length, rfl, Nat.zero_le _, h0⟩, ?_⟩
  rintro i m σ H ⟨rfl, hi, p⟩
  have qx := hq i σ H p
  by_cases hlt : i < xs.length
  · have hx : xs[i]? = some xs[i] := List.getElem?_eq_getElem hlt
    refine .inr ⟨⟨xs, _, qx, hx⟩, Pv (i + 1), fun σ' H' p' => ⟨xs.length - (i + 1), by omega, rfl, hlt, p'⟩, fun v H' y => ?_⟩
    obtain ⟨T, x', rfl, hT, rfl, f1⟩ := y
    exact hs i x' T σ H (f1 xs qx) p hT
  · have e : i = xs.length := by omega
    subst e
    exact .inl ⟨⟨xs, qx, Nat.le_refl _⟩, hd σ H p⟩
end Ms

set_option Elab.async false
set_option linter.all false
set_option maxRecDepth 100000
/-! the law -/
namespace Ms
open PySem PySem.Spec PyProof.Rows L2
variable {P : Program} {w : World} {K : PySem.W.Frag} {mg : Str → Option Value} {base : Heap}
/-! the plain side -/
theorem fold_sets (n : Nat) : ∀ (l : F) (found : List F), (∀ s ∈ l, s.length ≤ n) → (∀ f ∈ found, ∀ s ∈ f, s.length ≤ n) → ∀ f ∈ l.foldl (step n) found, ∀ s ∈ f, s.length ≤ n
  | [], found, _, h, f, hf => h f hf
  | x :: l, found, hl, h, f, hf => by
    rw [List.foldl_cons] at hf
    refine fold_sets n l (step n found x) (fun s hs => hl s (List.mem_cons_of_mem _ hs)) (fun g hg => ?_) f hf
    cases e : inI 0 x with
    | true =>
      rw [step_yes e] at hg
      exact h g hg
    | false =>
      rw [step_no e] at hg
      obtain ⟨k, hk, hg⟩ := List.mem_flatMap.mp hg
      unfold nx at hg
      obtain ⟨t, ht, rfl⟩ := List.mem_map.mp hg
      have ht := (List.mem_filter.mp ht).1
      intro s hs
      rcases List.mem_append.mp hs with q | q
      · exact h k hk s q
      · have e1 : s = t := by simpa using q
        subst e1
        rcases List.mem_cons.mp ht with rfl | ht
        · exact hl _ List.mem_cons_self
        · have e2 : s = otherPts n x := by simpa using ht
          rw [e2]
          exact other_len
theorem all_sets {n : Nat} {f : F} (hf : f ∈ allChoices n) : ∀ s ∈ f, s.length ≤ n :=
  fold_sets n (setsBelow n) [[]] (fun s hs => below_elem hs) (fun g hg => by
    have : g = [] := by simpa using hg
    rw [this]
    exact fun s hs => by cases hs) f hf
structure ChkF (n : Nat) : Prop where
  many1 : (allChoices n).length = many n
  fams : (allChoices n).all okFam = true
  many2 : (allFull n).length = many n
  each : ∀ f ∈ allFull n, meetsL f = true ∧ oneEach n f = true ∧ inOrder f = f
  rise : rising (allFull n) = true
theorem chkF {n : Nat} (h : chk n = true) : ChkF n := by
  unfold chk at h
  simp only [Bool.and_eq_true, decide_eq_true_eq] at h
  obtain ⟨⟨⟨⟨h1, h2⟩, h3⟩, h4⟩, h5⟩ := h
  refine ⟨h1, h2, h3, fun f hf => ?_, h5⟩
  have := List.all_eq_true.mp h4 f hf
  simp only [Bool.and_eq_true, decide_eq_true_eq] at this
  exact ⟨this.1.1, this.1.2, this.2⟩
theorem full_fam {n : Nat} (c : ChkF n) {f : F} (hf : f ∈ allFull n) : (∀ s ∈ f, s ≠ []) ∧ (∀ s ∈ f, s.length ≤ n) ∧ f.length ≤ 64 := by
  have hf' := (isort_perm (lt := ltF) ((allChoices n).map inOrder)).mem_iff.mp hf
  obtain ⟨g, hg, rfl⟩ := List.mem_map.mp hf'
  obtain ⟨_, a2, a3, _⟩ := okF_of (List.all_eq_true.mp c.fams g hg)
  have pm := isort_perm (lt := ltS) g
  refine ⟨fun s hs => a2 s (pm.mem_iff.mp hs), fun s hs => all_sets hg s (pm.mem_iff.mp hs), ?_⟩
  show (isort ltS g).length ≤ 64
  rw [pm.length_eq]
  exact a3
theorem rise_at : ∀ {l : List F} {i : Nat} {a b : F}, rising l = true → l[i]? = some a → l[i + 1]? = some b → ltF a b = true
  | [], _, _, _, _, h, _ => by simp at h
  | [_], 0, _, _, _, _, h => by simp at h
  | [_], i + 1, _, _, _, h, _ => by simp at h
  | x :: y :: r, 0, a, b, h, h1, h2 => by
    have e1 : x = a := by simpa using h1
    have e2 : y = b := by simpa using h2
    subst e1 e2
    unfold rising at h
    simp only [Bool.and_eq_true] at h
    exact h.1
  | x :: y :: r, i + 1, a, b, h, h1, h2 => by
    unfold rising at h
    simp only [Bool.and_eq_true] at h
    exact rise_at h.2 (by simpa using h1) (by simpa using h2)
theorem many_at {n : Nat} (h1 : 1 ≤ n) (h5 : n ≤ 5) : ([.int 1, .int 2, .int 4, .int 12, .int 81] : List PyData)[n - 1]? = some (.int (many n : Int)) := by
  have h : n = 1 ∨ n = 2 ∨ n = 3 ∨ n = 4 ∨ n = 5 := by omega
  rcases h with rfl | rfl | rfl | rfl | rfl <;> rfl
theorem many_le {n : Nat} : many n ≤ 81 := by
  unfold many
  have : n - 1 = 0 ∨ n - 1 = 1 ∨ n - 1 = 2 ∨ n - 1 = 3 ∨ n - 1 = 4 ∨ n - 1 ≥ 5 := by omega
  rcases this with e | e | e | e | e | e
  · rw [e]; decide
  · rw [e]; decide
  · rw [e]; decide
  · rw [e]; decide
  · rw [e]; decide
  · rw [List.getD_eq_getElem?_getD, List.getElem?_eq_none (by simpa using e)]
    decide
theorem gd_int (k : Nat) (i : Int) : Gd (k + 1) (.int i) := .inl ⟨i, rfl⟩
theorem gd_S (s : S) : Gd 2 (encS s) := .inr ⟨_, .inr rfl, fun x hx => by
  obtain ⟨i, _, rfl⟩ := List.mem_map.mp hx
  exact gd_int 0 i⟩
theorem gd_up : ∀ {k : Nat} {d : PyData}, Gd k d → Gd (k + 1) d
  | 0, _, h => h.elim
  | k + 1, d, .inl h => .inl h
  | k + 1, d, .inr ⟨ds, hd, h⟩ => .inr ⟨ds, hd, fun x hx => gd_up (h x hx)⟩
theorem gd_F (f : F) : Gd 3 (encF f) := .inr ⟨_, .inr rfl, fun x hx => by
  obtain ⟨i, _, rfl⟩ := List.mem_map.mp hx
  exact gd_S i⟩
theorem gd_L (l : List F) : Gd 4 (.list (l.map encF)) := .inr ⟨_, .inl rfl, fun x hx => by
  obtain ⟨i, _, rfl⟩ := List.mem_map.mp hx
  exact gd_F i⟩
/-! evaluations -/
theorem ev_spX {C : Addr} {val : Nat → PyData} {E : XK} {i n : Nat} {σ : Sl} {G : Hp} (h : σ[i]? = some (some (.int (n : Int)))) (h1 : 1 ≤ n) (h5 : n ≤ 5) : EvD (tCall (spX C val) [] E (tCons (tVar i) tNil)) σ G (val n) := fun H s Q q =>
  ⟨.int (n : Int), h, n, rfl, h1, by omega, fun _ => ⟨G, s, q⟩, fun h => by omega⟩
theorem ev_39 {a : Addr} {ns : List Int} {k : Nat} {σ : Sl} {G H0 : Hp} (h : σ[0]? = some (some (.ref a))) (hS : SqL K H0 a (ns.map V.int)) (s0 : Same H0 G) : EvD (tCall (sp39 K) [] E0 (tCons (tVar 0) (tCons (tC (.int (k : Int))) tNil))) σ G (.int (ns.getD k 0)) := fun H s Q q =>
  ⟨.ref a, h, a, ns, k, rfl, (s0.trans s).seq hS, q _ G H (.refl s) (.int _)⟩
theorem ev_42 {way : Int} {g i : Nat} {σ : Sl} {G : Hp} (h : σ[i]? = some (some (.int (g : Int)))) (hw : way = 0 ∨ way = 1) (h6 : 6 ≤ g) (h8 : g ≤ 8) : EvD (tCall sp42 [] E0 (tCons (tC (.int way)) (tCons (tVar i) tNil))) σ G (.bool true) := fun H s Q q =>
  ⟨.int (g : Int), h, way, g, rfl, hw, h6, h8, fun H' s' => q _ G H' (.keep s s') (.bl true)⟩
theorem ev_lenK {l : Addr} {ys : List V} {i : Nat} {σ : Sl} {G : Hp} (h : σ[i]? = some (some (.ref l))) (e : G l = some (.lst ys)) : EvD (tLenO K i) σ G (.int (ys.length : Int)) := fun H s Q q =>
  ⟨.ref l, h, l, ys, rfl, .inl (SqL.of (s _ _ e)), q _ G H (.refl s) (.int _)⟩
theorem sc44 : FnScope ["_law_script", "_law_n", "_law_great", "_law_found", "_law_k", "_law_family"] ["_law_script"] (defScope (topS 44)) := ⟨rfl, rfl, rfl, by decide +kernel, rfl, by decide +kernel, by decide +kernel⟩
def spLaw (K : PySem.W.Frag) : Sp := fun vs H Q _ => ∃ (a : Addr) (ns : List Int), vs = [.ref a] ∧ SqL K H a (ns.map V.int) ∧ ∀ H', Q (.bl true) H'
theorem ok44 {C : Addr} {f : Addr} {fd : FuncData} (F : Fun K "law" "law" (topS 44) f fd) (b : Bt mg) (c39 : Cl P w K mg base CX0 1 "_law_cell_at" (sp39 K)) (c42 : Cl P w K mg base CX0 6 "_law_refused" sp42)
    (c31 : Cl P w K mg base (L2N.CX P w) 5 "full_many" (spX C v31)) (c32 : Cl P w K mg base (L2N.CX P w) 5 "all_full" (spX C v32)) (c38 : Cl P w K mg base CX0 4 "_law_same" (spR (Rsm 4)))
    (c40 : Cl P w K mg base CX0 3 "_law_ways" (spR R40)) (c41 : Cl P w K mg base CX0 2 "_law_meets" (spR R41)) (c43 : Cl P w K mg base CX0 2 "_law_one_of_each" (spR R43))
    (hc : ∀ n, 1 ≤ n → n ≤ 5 → chk n = true) (hw : ∀ n, 1 ≤ n → n ≤ 4 → chkW n = true) : FnOk P w K mg base CX0 7 f fd ["_law_script"] (spLaw K) := by
  refine F.ok sc44 (fun vs H Q E h => ?_) (fun cdv A outer s H vs Q E hr h => ?_)
  · obtain ⟨a, ns, rfl, _⟩ := h
    rfl
  · obtain ⟨a, ns, rfl, hS, q⟩ := h
    refine ⟨_, pss_cons (ps_set (i := 1) sc44.nd rfl (Or.inl rfl) (pe_op op_add pe_int (pe_op op_mod (pe_cl c39 hr (by decide) pass0 (by rfl) (pa_cons (pv 0) (pa_cons pe_int pa_nil))) pe_int)))
      (pss_cons (ps_set (i := 2) sc44.nd rfl (Or.inl rfl) (pe_op op_add pe_int (pe_op op_mod (pe_cl c39 hr (by decide) pass0 (by rfl) (pa_cons (pv 0) (pa_cons pe_int pa_nil))) pe_int)))
      (pss_cons (ps_if (PW.pt (pw_or (pt_not (pt_val (pe_cl c42 hr (by decide) pass0 (by rfl) (pa_cons pe_int (pa_cons (pv 2) pa_nil))))) (pw_or1 (pt_not (pt_val (pe_cl c42 hr (by decide) pass0 (by rfl) (pa_cons pe_int (pa_cons (pv 2) pa_nil)))))))) pss_never pss_nil)
      (pss_cons (ps_set (i := 3) sc44.nd rfl (Or.inl rfl) (pe_cl c32 hr (by decide) passN (by rfl) (pa_cons (pv 1) pa_nil)))
      (pss_cons (ps_if (PW.pt (pw_or (pt_not (pt_val (pe_cl c38 hr (by decide) pass0 (by rfl) (pa_cons (pe_cl c31 hr (by decide) passN (by rfl) (pa_cons (pv 1) pa_nil)) (pa_cons
            (pe_ix ix_list (pe_lst (pa_cons pe_int (pa_cons pe_int (pa_cons pe_int (pa_cons pe_int (pa_cons pe_int pa_nil)))))) (pe_op op_sub (pv 1) pe_int) (fun _ _ => rfl)) pa_nil)))))
          (pw_or1 (pt_cmpR op_ne (pe_callB call_len_seq (by rfl) b.len PySem.boot_len (pa_cons (pv 3) pa_nil))
            (pe_ix ix_list (pe_lst (pa_cons pe_int (pa_cons pe_int (pa_cons pe_int (pa_cons pe_int (pa_cons pe_int pa_nil)))))) (pe_op op_sub (pv 1) pe_int) (fun _ _ => rfl)) (nomark _))))) pss_never pss_nil)
      (pss_cons (ps_if (PW.pt (pw_and (pt_cmpR op_lt (pv 1) pe_int (nomark _)) (pw_and1 (pt_not (pt_val (pe_cl c38 hr (by decide) pass0 (by rfl) (pa_cons (pv 3) (pa_cons (pe_cl c40 hr (by decide) pass0 (by rfl) (pa_cons (pv 1) pa_nil)) pa_nil)))))))) pss_never pss_nil)
      (pss_cons (ps_for PassesOwn.never rfl (pi_enum (by rfl) b.enumerate (pa_cons (pv 3) pa_nil)) (pg_tup rfl (pgs_cons (pg_name (i := 4) sc44.nd rfl (Or.inl rfl)) (pgs_cons (pg_name (i := 5) sc44.nd rfl (Or.inl rfl)) pgs_nil)))
        (pss_cons (ps_if (PW.pt (pw_or (pt_not (pt_val (pe_callB call_isi (by rfl) b.isinstance (by decide +kernel) (pa_cons (pv 5) (pa_cons (pe_bltn (v := .ty "tuple") (by rfl) b.tuple (by decide +kernel) rfl) pa_nil)))))
            (pw_or (pt_not (pt_val (pe_cl c41 hr (by decide) pass0 (by rfl) (pa_cons (pv 5) pa_nil)))) (pw_or1 (pt_not (pt_val (pe_cl c43 hr (by decide) pass0 (by rfl) (pa_cons (pv 1) (pa_cons (pv 5) pa_nil))))))))) pss_never pss_nil)
        (pss_one (ps_if (PW.pt (pw_or (PW.pt (pw_and (pt_cmpR op_gt (pv 4) pe_int (nomark _)) (pw_and1 (pt_cmpR (op_geF hr.units) (pe_ix ix_list (pv 3) (pe_op op_sub (pv 4) pe_int) (fun _ _ => rfl)) (pv 5) (nomark _)))))
            (pw_or1 (pt_not (pt_val (pe_cl c38 hr (by decide) pass0 (by rfl) (pa_cons (pv 5) (pa_cons (pe_callTy call_tuple_of (by rfl) b.tuple (by decide +kernel) (pa_cons (pe_callB (cr_sortT hr.units) (by rfl) b.sorted (by decide +kernel) (pa_cons (pv 5) pa_nil)) pa_nil)) pa_nil)))))))) pss_never pss_nil))))
      (pss_cons (ps_expr (pe_bm PySem.F.plainAttrs_list PySem.F.slot_list_append PySem.F.type_list_append mt_append (pv 3) (pa_cons (pe_tup pa_nil) pa_nil)))
      (pss_one (ps_ret (pe_cmpR op_eq (pe_callB call_len_seq (by rfl) b.len PySem.boot_len (pa_cons (pe_cl c32 hr (by decide) passN (by rfl) (pa_cons (pv 1) pa_nil)) pa_nil)) (pe_op op_sub (pe_callB call_len_seq (by rfl) b.len PySem.boot_len (pa_cons (pv 3) pa_nil)) pe_int) (nomark _))))))))))), ?_⟩
    obtain ⟨n, hn, h1, h5⟩ : ∃ n : Nat, 1 + ns.getD 0 0 % 5 = (n : Int) ∧ 1 ≤ n ∧ n ≤ 5 := ⟨(1 + ns.getD 0 0 % 5).toNat, by omega, by omega, by omega⟩
    obtain ⟨g, hg, g6, g8⟩ : ∃ n : Nat, 6 + ns.getD 1 0 % 3 = (n : Int) ∧ 6 ≤ n ∧ n ≤ 8 := ⟨(6 + ns.getD 1 0 % 3).toNat, by omega, by omega, by omega⟩
    have cf := chkF (hc n h1 h5)
    have ml : many n ≤ 81 := many_le
    refine s_asg (d := .int (n : Int)) ((ev_op ev_int (ev_op (ev_39 (k := 0) rfl hS (Same.refl H)) ev_int (opD_C (by decide))) opD_I).is (congrArg PyData.int hn)) (Same.refl H) (fun u1 G1 H1 n1 r1 => ?_)
    have e1 := r1
    cases e1
    refine s_asg (d := .int (g : Int)) ((ev_op ev_int (ev_op (ev_39 (k := 1) rfl hS n1.gg) ev_int (opD_C (by decide))) opD_I).is (congrArg PyData.int hg)) n1.gh (fun u2 G2 H2 n2 r2 => ?_)
    have e2 := r2
    cases e2
    refine s_if (b := false) ((eb_or (eb_not (eb_B (ev_42 (way := 0) rfl (.inl rfl) g6 g8))) (fun _ => eb_not (eb_B (ev_42 (way := 1) rfl (.inr rfl) g6 g8)))).is rfl) n2.gh (fun e => nomatch e) (fun _ H3 s3 => ?_)
    refine s_asg (d := .list ((allFull n).map encF)) (ev_spX (val := v32) rfl h1 h5) (n2.gh.trans s3) (fun v3 G4 H4 n4 r4 => ?_)
    have ix : EvD (tOp (rIxL K) (tLst (tCons (tC (.int 1)) (tCons (tC (.int 2)) (tCons (tC (.int 4)) (tCons (tC (.int 12)) (tCons (tC (.int 81)) tNil)))))) (tOp (rI0 fun i j => .int (i - j)) (tVar 1) (tC (.int 1)))) [some (.ref a), some (.int (n : Int)), some (.int (g : Int)), some v3, none, none] G4 (.int (many n : Int)) :=
      ev_op (ev_lst (ea_cons ev_int (ea_cons ev_int (ea_cons ev_int (ea2 ev_int ev_int)))) (by show 5 ≤ 100000; decide)) ((ev_op (ev_var rfl (.int (n : Int))) ev_int opD_I).is (show PyData.int ((n : Int) - 1) = .int ((n - 1 : Nat) : Int) from congrArg _ (by omega))) (opD_ixL (many_at h1 h5))
    refine s_if (b := false) ((eb_or (eb_not (eb_B (ev_call (r := .bool true) (ea2 (ev_spX (val := v31) (n := n) rfl h1 h5) ix) ⟨.int (many n : Int), gd_int _ _, ?_, rfl⟩))) (fun _ => eb_test (ev_op (ev_cb (ea1 (ev_var rfl r4)) callD_lenL) ix opD_neI))).is ?_) n4.gh (fun e => nomatch e) (fun _ H5 s5 => ?_)
    · rw [List.length_map, cf.many2]
      simp
    · show [PyData.int ((allChoices n).length : Int), PyData.int (many n : Int)] = [PyData.int (many n : Int), PyData.int (many n : Int)]
      rw [cf.many1]
    have g5 : Same G4 H5 := n4.gh.trans s5
    refine s_if (b := false) ((eb_and (b := false) (eb_test (ev_op (ev_var rfl (.int (n : Int))) ev_int opD_B)) (fun e => ?_)).is (Bool.and_false _)) g5 (fun e => nomatch e) (fun _ H6 s6 => ?_)
    · have h4 : n ≤ 4 := by
        have e' : (n : Int) < 5 := by simpa using e
        omega
      have hww := hw n h1 h4
      unfold chkW at hww
      simp only [Bool.and_eq_true, decide_eq_true_eq] at hww
      refine (eb_not (eb_B (ev_call (r := .bool true) (ea2 (ev_var rfl r4) (ev_call (r := .list ((ways n).map encF)) (ea1 (ev_var rfl (.int (n : Int)))) ⟨n, rfl, h4, hww.2, rfl⟩)) ⟨.list ((allFull n).map encF), gd_L _, ?_, rfl⟩))).is rfl
      rw [← hww.1]
    have g6' : Same G4 H6 := g5.trans s6
    -- the loop
    cases r4 with
    | @lst l xs _ el kl =>
      refine ⟨.ref l, rfl, l, xs, rfl, SqL.of (g6' _ _ el), for_enum (fun i σ' H' => Same H6 H' ∧ ∃ y4 y5, σ' = [some (.ref a), some (.int (n : Int)), some (.int (g : Int)), some (.ref l), y4, y5]) ⟨Same.refl _, none, none, rfl⟩ (fun i σ' H' p => SqL.of (g6'.trans p.1 _ _ el)) (fun i x T σ' H' hx p hT => ?_) (fun σ' H' p => ?_)⟩
      · obtain ⟨s7, y4, y5, rfl⟩ := p
        obtain ⟨fam, hf, rx⟩ := rpl_map_at kl hx
        have hfm := List.mem_of_getElem? hf
        obtain ⟨m1, m2, m3⟩ := cf.each fam hfm
        obtain ⟨f1, f2, f3⟩ := full_fam cf hfm
        refine ⟨T, [.int (i : Int), x], rfl, SqT.of upd_same, rfl, .int (i : Int), [x], rfl, x, [], rfl, rfl, ?_⟩
        have s8 : Same G4 (upd H' T (.tup [.int (i : Int), x])) := (g6'.trans s7).trans (same_new hT)
        have rl : Rp G4 (.ref l) (.list ((allFull n).map encF)) := .lst el kl
        have e5 : EvD (tVar 5) [some (.ref a), some (.int (n : Int)), some (.int (g : Int)), some (.ref l), some (.int (i : Int)), some x] G4 (encF fam) := ev_var rfl rx
        refine s_if (b := false) ((eb_or (eb_not (eb_B (ev_isi e5 k_tuple_tuple))) (fun _ => eb_or (eb_not (eb_B (ev_call (r := .bool true) (ea1 e5) ⟨false, fam, rfl, fun s hs => Nat.le_trans (f2 s hs) (by omega), by rw [m1]⟩)))
          (fun _ => eb_not (eb_B (ev_call (r := .bool true) (ea2 (ev_var rfl (.int (n : Int))) e5) ⟨n, fam, rfl, by omega, by rw [m2]⟩))))).is rfl) s8 (fun e => nomatch e) (fun _ H9 s9 => ?_)
        have st : EvD (tCB (rTupO K) (tCons (tCB rSortT (tCons (tVar 5) tNil)) tNil)) [some (.ref a), some (.int (n : Int)), some (.int (g : Int)), some (.ref l), some (.int (i : Int)), some x] G4 (encF fam) := by
          have := ev_cb (ea1 (ev_cb (ea1 e5) (callD_sortT f1 (by omega)))) (callD_tuple (K := K))
          refine this.is ?_
          show encF (inOrder fam) = encF fam
          rw [m3]
        unfold tNext
        dsimp only
        refine s_if (b := false) ((eb_or (a := false) (b := false) ?_ (fun _ => (eb_not (eb_B (ev_call (R := Rsm 4) (r := .bool true) (ea2 e5 st) ⟨encF fam, gd_up (gd_F fam), rfl, rfl⟩))).is rfl)).is rfl) (s8.trans s9) (fun e => nomatch e) (fun _ H10 s10 => ?_)
        · refine (eb_and (b := false) (eb_test (ev_op (ev_var rfl (.int (i : Int))) ev_int opD_B)) (fun e => ?_)).is (Bool.and_false _)
          have hi : 0 < i := by
            have e' : (i : Int) > 0 := by simpa using e
            omega
          have hi2 : i - 1 + 1 = i := by omega
          have hlt : i < (allFull n).length := (List.getElem?_eq_some_iff.mp hf).1
          have hp : (allFull n)[i - 1]? = some (allFull n)[i - 1] := List.getElem?_eq_getElem (by omega)
          have lt := rise_at cf.rise hp (by rw [hi2]; exact hf)
          refine (eb_test (ev_op (ev_op (ev_var rfl rl) ((ev_op (ev_var rfl (.int (i : Int))) ev_int opD_I).is (show PyData.int ((i : Int) - 1) = .int ((i - 1 : Nat) : Int) from congrArg _ (by omega))) (opD_ixL (d := encF (allFull n)[i - 1]) (by rw [List.getElem?_map, hp]; rfl))) e5 opD_geF)).is ?_
          rw [lt]
          rfl
        · exact ⟨(s7.trans (same_new hT)).trans (s9.trans s10), _, _, rfl⟩
      · obtain ⟨s7, y4, y5, rfl⟩ := p
        have sl : Same G4 H' := g6'.trans s7
        have ll : xs.length = many n := by
          rw [kl.len, List.length_map, cf.many2]
        -- found.append(())
        refine ⟨.ref l, rfl, Or.inl ⟨rfl, xs, SqL.of (sl _ _ el)⟩, Nat.zero_le _, fun p hp => ?_⟩
        have e' : (upd H' p (.tup [])) l = some (.lst xs) := (same_new hp) _ _ (sl _ _ el)
        refine ⟨l, xs, .ref p, rfl, rfl, e', by rw [ll, sizeLine_eq]; omega, ?_⟩
        obtain ⟨G9, s9, el9⟩ := one_known (H := upd (upd H' p (.tup [])) l (.lst (xs ++ [.ref p]))) (d := l) upd_same
        dsimp only
        refine s_ret (d := .bool true) ((ev_op (ev_cb (ea1 (ev_spX (val := v32) rfl h1 h5)) callD_lenL) (ev_op (ev_lenK rfl el9) ev_int opD_I) opD_eqI).is ?_) s9 (fun v10 G10 H10 n10 r10 => ?_)
        · rw [List.length_map, cf.many2, List.length_append, ll]
          simp
        · cases r10
          exact q H10
end Ms

set_option Elab.async false
set_option linter.all false
set_option maxRecDepth 100000
/-! what the top has written -/
namespace Ms
open PySem PySem.Spec PyProof.Rows L2

theorem all_mk {P : Program} {w : World} {K : PySem.W.Frag} {h : Heap} {mg : Str → Option Value} {fa C M fI : Addr}
    {f16 : Addr} {od16 an16 : Option Addr} {sl16 : Array (Option Value)} {oc16 kV16 dc16 pm16 cd16 ct16 : Value}
    {f17 : Addr} {od17 an17 : Option Addr} {sl17 : Array (Option Value)} {oc17 kV17 dc17 pm17 cd17 ct17 : Value}
    {f18 : Addr} {od18 an18 : Option Addr} {sl18 : Array (Option Value)} {oc18 kV18 dc18 pm18 cd18 ct18 : Value}
    {f19 : Addr} {od19 an19 : Option Addr} {sl19 : Array (Option Value)} {oc19 kV19 dc19 pm19 cd19 ct19 : Value}
    {f20 : Addr} {od20 an20 : Option Addr} {sl20 : Array (Option Value)} {oc20 kV20 dc20 pm20 cd20 ct20 : Value}
    {f21 : Addr} {od21 an21 : Option Addr} {sl21 : Array (Option Value)} {oc21 kV21 dc21 pm21 cd21 ct21 : Value}
    {f22 : Addr} {od22 an22 : Option Addr} {sl22 : Array (Option Value)} {oc22 kV22 dc22 pm22 cd22 ct22 : Value}
    {f23 : Addr} {od23 an23 : Option Addr} {sl23 : Array (Option Value)} {oc23 kV23 dc23 pm23 cd23 ct23 : Value}
    {f25 : Addr} {od25 an25 : Option Addr} {sl25 : Array (Option Value)} {oc25 kV25 dc25 pm25 cd25 ct25 : Value}
    {f27 : Addr} {od27 an27 : Option Addr} {sl27 : Array (Option Value)} {oc27 kV27 dc27 pm27 cd27 ct27 : Value}
    {f30 : Addr} {od30 an30 : Option Addr} {sl30 : Array (Option Value)} {oc30 kV30 dc30 pm30 cd30 ct30 : Value}
    {f31 : Addr} {od31 an31 : Option Addr} {sl31 : Array (Option Value)} {oc31 kV31 dc31 pm31 cd31 ct31 : Value}
    {f32 : Addr} {od32 an32 : Option Addr} {sl32 : Array (Option Value)} {oc32 kV32 dc32 pm32 cd32 ct32 : Value}
    {f34 : Addr} {od34 an34 : Option Addr} {sl34 : Array (Option Value)} {oc34 kV34 dc34 pm34 cd34 ct34 : Value}
    {f35 : Addr} {od35 an35 : Option Addr} {sl35 : Array (Option Value)} {oc35 kV35 dc35 pm35 cd35 ct35 : Value}
    {f36 : Addr} {od36 an36 : Option Addr} {sl36 : Array (Option Value)} {oc36 kV36 dc36 pm36 cd36 ct36 : Value}
    {f37 : Addr} {od37 an37 : Option Addr} {sl37 : Array (Option Value)} {oc37 kV37 dc37 pm37 cd37 ct37 : Value}
    {f38 : Addr} {od38 an38 : Option Addr} {sl38 : Array (Option Value)} {oc38 kV38 dc38 pm38 cd38 ct38 : Value}
    {f39 : Addr} {od39 an39 : Option Addr} {sl39 : Array (Option Value)} {oc39 kV39 dc39 pm39 cd39 ct39 : Value}
    {f40 : Addr} {od40 an40 : Option Addr} {sl40 : Array (Option Value)} {oc40 kV40 dc40 pm40 cd40 ct40 : Value}
    {f41 : Addr} {od41 an41 : Option Addr} {sl41 : Array (Option Value)} {oc41 kV41 dc41 pm41 cd41 ct41 : Value}
    {f42 : Addr} {od42 an42 : Option Addr} {sl42 : Array (Option Value)} {oc42 kV42 dc42 pm42 cd42 ct42 : Value}
    {f43 : Addr} {od43 an43 : Option Addr} {sl43 : Array (Option Value)} {oc43 kV43 dc43 pm43 cd43 ct43 : Value}
    {f44 : Addr} {od44 an44 : Option Addr} {sl44 : Array (Option Value)} {oc44 kV44 dc44 pm44 cd44 ct44 : Value}
    {odI anI : Option Addr} {slI : Array (Option Value)} {ocI kVI dcI pmI cdI ctI : Value}
    {nm q : Str} {N : Addr} {bs : List Value} {sn : List Str} {sub : List Value} {ab : Bool} {col : Option Bool} {dd : Option Addr} {m0 m1 m2 m3 m5 : Option Value}
    {tk8 tk5 : Tok} {D0 D1 D2 D3 D4 D5 D6 D7 D8 D10 D11 : Addr}
    (X : K.In h) (G : h.Ns mainGlobals mg) (hfa : mg "law" = some (.ref fa))
    (a16 : PySem.W.nsIn K mainGlobals "is_whole" = some (some (.ref f16)))
    (l16 : K.lookup f16 = some ⟨oc16, od16, .func (PySem.W.fnOf "is_whole" "is_whole" (defArgs (topS 16)) (defBody (topS 16)) (defScope (topS 16)) .none kV16 dc16 pm16 an16 cd16 ct16), sl16⟩)
    (c16 : PySem.W.codeIn K cd16 "is_whole" = true)
    (k16 : PySem.W.keepIn K (.ref f16) = true)
    (a17 : PySem.W.nsIn K mainGlobals "is_from" = some (some (.ref f17)))
    (l17 : K.lookup f17 = some ⟨oc17, od17, .func (PySem.W.fnOf "is_from" "is_from" (defArgs (topS 17)) (defBody (topS 17)) (defScope (topS 17)) .none kV17 dc17 pm17 an17 cd17 ct17), sl17⟩)
    (c17 : PySem.W.codeIn K cd17 "is_from" = true)
    (k17 : PySem.W.keepIn K (.ref f17) = true)
    (a18 : PySem.W.nsIn K mainGlobals "ground_good" = some (some (.ref f18)))
    (l18 : K.lookup f18 = some ⟨oc18, od18, .func (PySem.W.fnOf "ground_good" "ground_good" (defArgs (topS 18)) (defBody (topS 18)) (defScope (topS 18)) .none kV18 dc18 pm18 an18 cd18 ct18), sl18⟩)
    (c18 : PySem.W.codeIn K cd18 "ground_good" = true)
    (k18 : PySem.W.keepIn K (.ref f18) = true)
    (a19 : PySem.W.nsIn K mainGlobals "need_ground" = some (some (.ref f19)))
    (l19 : K.lookup f19 = some ⟨oc19, od19, .func (PySem.W.fnOf "need_ground" "need_ground" (defArgs (topS 19)) (defBody (topS 19)) (defScope (topS 19)) .none kV19 dc19 pm19 an19 cd19 ct19), sl19⟩)
    (c19 : PySem.W.codeIn K cd19 "need_ground" = true)
    (k19 : PySem.W.keepIn K (.ref f19) = true)
    (a20 : PySem.W.nsIn K mainGlobals "need_few" = some (some (.ref f20)))
    (l20 : K.lookup f20 = some ⟨oc20, od20, .func (PySem.W.fnOf "need_few" "need_few" (defArgs (topS 20)) (defBody (topS 20)) (defScope (topS 20)) .none kV20 dc20 pm20 an20 cd20 ct20), sl20⟩)
    (c20 : PySem.W.codeIn K cd20 "need_few" = true)
    (k20 : PySem.W.keepIn K (.ref f20) = true)
    (a21 : PySem.W.nsIn K mainGlobals "share_point" = some (some (.ref f21)))
    (l21 : K.lookup f21 = some ⟨oc21, od21, .func (PySem.W.fnOf "share_point" "share_point" (defArgs (topS 21)) (defBody (topS 21)) (defScope (topS 21)) .none kV21 dc21 pm21 an21 cd21 ct21), sl21⟩)
    (c21 : PySem.W.codeIn K cd21 "share_point" = true)
    (k21 : PySem.W.keepIn K (.ref f21) = true)
    (a22 : PySem.W.nsIn K mainGlobals "in_order" = some (some (.ref f22)))
    (l22 : K.lookup f22 = some ⟨oc22, od22, .func (PySem.W.fnOf "in_order" "in_order" (defArgs (topS 22)) (defBody (topS 22)) (defScope (topS 22)) .none kV22 dc22 pm22 an22 cd22 ct22), sl22⟩)
    (c22 : PySem.W.codeIn K cd22 "in_order" = true)
    (k22 : PySem.W.keepIn K (.ref f22) = true)
    (a23 : PySem.W.nsIn K mainGlobals "sets_below" = some (some (.ref f23)))
    (l23 : K.lookup f23 = some ⟨oc23, od23, .func (PySem.W.fnOf "sets_below" "sets_below" (defArgs (topS 23)) (defBody (topS 23)) (defScope (topS 23)) .none kV23 dc23 pm23 an23 cd23 ct23), sl23⟩)
    (c23 : PySem.W.codeIn K cd23 "sets_below" = true)
    (k23 : PySem.W.keepIn K (.ref f23) = true)
    (a25 : PySem.W.nsIn K mainGlobals "other_points" = some (some (.ref f25)))
    (l25 : K.lookup f25 = some ⟨oc25, od25, .func (PySem.W.fnOf "other_points" "other_points" (defArgs (topS 25)) (defBody (topS 25)) (defScope (topS 25)) .none kV25 dc25 pm25 an25 cd25 ct25), sl25⟩)
    (c25 : PySem.W.codeIn K cd25 "other_points" = true)
    (k25 : PySem.W.keepIn K (.ref f25) = true)
    (a27 : PySem.W.nsIn K mainGlobals "meets_all" = some (some (.ref f27)))
    (l27 : K.lookup f27 = some ⟨oc27, od27, .func (PySem.W.fnOf "meets_all" "meets_all" (defArgs (topS 27)) (defBody (topS 27)) (defScope (topS 27)) .none kV27 dc27 pm27 an27 cd27 ct27), sl27⟩)
    (c27 : PySem.W.codeIn K cd27 "meets_all" = true)
    (k27 : PySem.W.keepIn K (.ref f27) = true)
    (a30 : PySem.W.nsIn K mainGlobals "all_choices" = some (some (.ref f30)))
    (l30 : K.lookup f30 = some ⟨oc30, od30, .func (PySem.W.fnOf "all_choices" "all_choices" (defArgs (topS 30)) (defBody (topS 30)) (defScope (topS 30)) .none kV30 dc30 pm30 an30 cd30 ct30), sl30⟩)
    (c30 : PySem.W.codeIn K cd30 "all_choices" = true)
    (k30 : PySem.W.keepIn K (.ref f30) = true)
    (a31 : PySem.W.nsIn K mainGlobals "full_many" = some (some (.ref f31)))
    (l31 : K.lookup f31 = some ⟨oc31, od31, .func (PySem.W.fnOf "full_many" "full_many" (defArgs (topS 31)) (defBody (topS 31)) (defScope (topS 31)) .none kV31 dc31 pm31 an31 cd31 ct31), sl31⟩)
    (c31 : PySem.W.codeIn K cd31 "full_many" = true)
    (k31 : PySem.W.keepIn K (.ref f31) = true)
    (a32 : PySem.W.nsIn K mainGlobals "all_full" = some (some (.ref f32)))
    (l32 : K.lookup f32 = some ⟨oc32, od32, .func (PySem.W.fnOf "all_full" "all_full" (defArgs (topS 32)) (defBody (topS 32)) (defScope (topS 32)) .none kV32 dc32 pm32 an32 cd32 ct32), sl32⟩)
    (c32 : PySem.W.codeIn K cd32 "all_full" = true)
    (k32 : PySem.W.keepIn K (.ref f32) = true)
    (a34 : PySem.W.nsIn K mainGlobals "_law_sets" = some (some (.ref f34)))
    (l34 : K.lookup f34 = some ⟨oc34, od34, .func (PySem.W.fnOf "_law_sets" "_law_sets" (defArgs (topS 34)) (defBody (topS 34)) (defScope (topS 34)) .none kV34 dc34 pm34 an34 cd34 ct34), sl34⟩)
    (c34 : PySem.W.codeIn K cd34 "_law_sets" = true)
    (k34 : PySem.W.keepIn K (.ref f34) = true)
    (a35 : PySem.W.nsIn K mainGlobals "_law_rest" = some (some (.ref f35)))
    (l35 : K.lookup f35 = some ⟨oc35, od35, .func (PySem.W.fnOf "_law_rest" "_law_rest" (defArgs (topS 35)) (defBody (topS 35)) (defScope (topS 35)) .none kV35 dc35 pm35 an35 cd35 ct35), sl35⟩)
    (c35 : PySem.W.codeIn K cd35 "_law_rest" = true)
    (k35 : PySem.W.keepIn K (.ref f35) = true)
    (a36 : PySem.W.nsIn K mainGlobals "_law_share" = some (some (.ref f36)))
    (l36 : K.lookup f36 = some ⟨oc36, od36, .func (PySem.W.fnOf "_law_share" "_law_share" (defArgs (topS 36)) (defBody (topS 36)) (defScope (topS 36)) .none kV36 dc36 pm36 an36 cd36 ct36), sl36⟩)
    (c36 : PySem.W.codeIn K cd36 "_law_share" = true)
    (k36 : PySem.W.keepIn K (.ref f36) = true)
    (a37 : PySem.W.nsIn K mainGlobals "_law_kinds" = some (some (.ref f37)))
    (l37 : K.lookup f37 = some ⟨oc37, od37, .func (PySem.W.fnOf "_law_kinds" "_law_kinds" (defArgs (topS 37)) (defBody (topS 37)) (defScope (topS 37)) .none kV37 dc37 pm37 an37 cd37 ct37), sl37⟩)
    (c37 : PySem.W.codeIn K cd37 "_law_kinds" = true)
    (k37 : PySem.W.keepIn K (.ref f37) = true)
    (a38 : PySem.W.nsIn K mainGlobals "_law_same" = some (some (.ref f38)))
    (l38 : K.lookup f38 = some ⟨oc38, od38, .func (PySem.W.fnOf "_law_same" "_law_same" (defArgs (topS 38)) (defBody (topS 38)) (defScope (topS 38)) .none kV38 dc38 pm38 an38 cd38 ct38), sl38⟩)
    (c38 : PySem.W.codeIn K cd38 "_law_same" = true)
    (k38 : PySem.W.keepIn K (.ref f38) = true)
    (a39 : PySem.W.nsIn K mainGlobals "_law_cell_at" = some (some (.ref f39)))
    (l39 : K.lookup f39 = some ⟨oc39, od39, .func (PySem.W.fnOf "_law_cell_at" "_law_cell_at" (defArgs (topS 39)) (defBody (topS 39)) (defScope (topS 39)) .none kV39 dc39 pm39 an39 cd39 ct39), sl39⟩)
    (c39 : PySem.W.codeIn K cd39 "_law_cell_at" = true)
    (k39 : PySem.W.keepIn K (.ref f39) = true)
    (a40 : PySem.W.nsIn K mainGlobals "_law_ways" = some (some (.ref f40)))
    (l40 : K.lookup f40 = some ⟨oc40, od40, .func (PySem.W.fnOf "_law_ways" "_law_ways" (defArgs (topS 40)) (defBody (topS 40)) (defScope (topS 40)) .none kV40 dc40 pm40 an40 cd40 ct40), sl40⟩)
    (c40 : PySem.W.codeIn K cd40 "_law_ways" = true)
    (k40 : PySem.W.keepIn K (.ref f40) = true)
    (a41 : PySem.W.nsIn K mainGlobals "_law_meets" = some (some (.ref f41)))
    (l41 : K.lookup f41 = some ⟨oc41, od41, .func (PySem.W.fnOf "_law_meets" "_law_meets" (defArgs (topS 41)) (defBody (topS 41)) (defScope (topS 41)) .none kV41 dc41 pm41 an41 cd41 ct41), sl41⟩)
    (c41 : PySem.W.codeIn K cd41 "_law_meets" = true)
    (k41 : PySem.W.keepIn K (.ref f41) = true)
    (a42 : PySem.W.nsIn K mainGlobals "_law_refused" = some (some (.ref f42)))
    (l42 : K.lookup f42 = some ⟨oc42, od42, .func (PySem.W.fnOf "_law_refused" "_law_refused" (defArgs (topS 42)) (defBody (topS 42)) (defScope (topS 42)) .none kV42 dc42 pm42 an42 cd42 ct42), sl42⟩)
    (c42 : PySem.W.codeIn K cd42 "_law_refused" = true)
    (k42 : PySem.W.keepIn K (.ref f42) = true)
    (a43 : PySem.W.nsIn K mainGlobals "_law_one_of_each" = some (some (.ref f43)))
    (l43 : K.lookup f43 = some ⟨oc43, od43, .func (PySem.W.fnOf "_law_one_of_each" "_law_one_of_each" (defArgs (topS 43)) (defBody (topS 43)) (defScope (topS 43)) .none kV43 dc43 pm43 an43 cd43 ct43), sl43⟩)
    (c43 : PySem.W.codeIn K cd43 "_law_one_of_each" = true)
    (k43 : PySem.W.keepIn K (.ref f43) = true)
    (a44 : PySem.W.nsIn K mainGlobals "law" = some (some (.ref f44)))
    (l44 : K.lookup f44 = some ⟨oc44, od44, .func (PySem.W.fnOf "law" "law" (defArgs (topS 44)) (defBody (topS 44)) (defScope (topS 44)) .none kV44 dc44 pm44 an44 cd44 ct44), sl44⟩)
    (c44 : PySem.W.codeIn K cd44 "law" = true)
    (k44 : PySem.W.keepIn K (.ref f44) = true)
    (z_isinstance : PySem.W.nsIn K mainGlobals "isinstance" = some none)
    (z_int : PySem.W.nsIn K mainGlobals "int" = some none)
    (z_bool : PySem.W.nsIn K mainGlobals "bool" = some none)
    (z_str : PySem.W.nsIn K mainGlobals "str" = some none)
    (z_list : PySem.W.nsIn K mainGlobals "list" = some none)
    (z_tuple : PySem.W.nsIn K mainGlobals "tuple" = some none)
    (z_dict : PySem.W.nsIn K mainGlobals "dict" = some none)
    (z_range : PySem.W.nsIn K mainGlobals "range" = some none)
    (z_sorted : PySem.W.nsIn K mainGlobals "sorted" = some none)
    (z_len : PySem.W.nsIn K mainGlobals "len" = some none)
    (z_zip : PySem.W.nsIn K mainGlobals "zip" = some none)
    (z_enumerate : PySem.W.nsIn K mainGlobals "enumerate" = some none)
    (z_verr : PySem.W.nsIn K mainGlobals "ValueError" = some none)
    (aP : PySem.W.nsIn K mainGlobals "MOST_POINTS" = some (some (.int 8 tk8)))
    (aT : PySem.W.nsIn K mainGlobals "MOST_TOLD" = some (some (.int 5 tk5)))
    (aM : PySem.W.nsIn K mainGlobals "MeetError" = some (some (.ref M)))
    (aC : PySem.W.nsIn K mainGlobals "TooGreat" = some (some (.ref C)))
    (aD0 : PySem.W.nsIn K mainGlobals "NoGround" = some (some (.ref D0)))
    (aD1 : PySem.W.nsIn K mainGlobals "NoFamily" = some (some (.ref D1)))
    (aD2 : PySem.W.nsIn K mainGlobals "NoSet" = some (some (.ref D2)))
    (aD3 : PySem.W.nsIn K mainGlobals "NoNumber" = some (some (.ref D3)))
    (aD4 : PySem.W.nsIn K mainGlobals "NoOrder" = some (some (.ref D4)))
    (aD5 : PySem.W.nsIn K mainGlobals "NoRing" = some (some (.ref D5)))
    (aD6 : PySem.W.nsIn K mainGlobals "NotFull" = some (some (.ref D6)))
    (aD7 : PySem.W.nsIn K mainGlobals "NoSizes" = some (some (.ref D7)))
    (aD8 : PySem.W.nsIn K mainGlobals "NoMeeting" = some (some (.ref D8)))
    (aD10 : PySem.W.nsIn K mainGlobals "NoRow" = some (some (.ref D10)))
    (aD11 : PySem.W.nsIn K mainGlobals "NoText" = some (some (.ref D11)))
    (xC : K.lookup C = some (excClassObj nm q C N bs [.ref M, .type "ValueError", .type "Exception", .type "BaseException", .type "object"] true sn sub ab col dd m0 m1 m2 m3 m5 "ValueError.__new__"))
    (sa : PySem.W.findIn K (.ref C) "__setattr__" = some (some (.builtin "object.__setattr__")))
    (ga : PySem.W.findIn K (.ref C) "__getattribute__" = some (some (.builtin "BaseException.__getattribute__")))
    (gg : PySem.W.findIn K (.ref C) "__getattr__" = some none)
    (gc : PySem.W.findIn K (.ref C) "__class__" = some (some (.builtin "object.__class__")))
    (gn : PySem.W.specialIn K (.builtin "object.__class__") "__get__" = some (some (.builtin "getset_descriptor.__get__")))
    (gt : PySem.W.takesIn K (.builtin "object.__class__") = some true)
    (go : PySem.W.mroIn K C (.type "object") = some true)
    (nM : PySem.W.findIn K (.ref C) "many" = some none)
    (nO : PySem.W.findIn K (.ref C) "most" = some none)
    (iC : PySem.W.findIn K (.ref C) "__init__" = some (some (.ref fI)))
    (tI : PySem.W.typeIn K (.ref fI) = some (.type "function"))
    (lI : K.lookup fI = some ⟨ocI, odI, .func (PySem.W.fnOf "__init__" "TooGreat.__init__" (defArgs (inClass (topS 13) 0)) (defBody (inClass (topS 13) 0)) (defScope (inClass (topS 13) 0)) .none kVI dcI pmI anI cdI ctI), slI⟩)
    (cI : PySem.W.codeIn K cdI "TooGreat.__init__" = true)
    (kI : PySem.W.keepIn K (.ref fI) = true)
    (kC : PySem.W.keepIn K (.ref C) = true)
    (eC : PySem.W.subIn K (.ref C) (.type "BaseException") = some true)
    (tC : PySem.W.typeIn K (.ref C) = some (.type "type"))
    (hC : PySem.W.hasDictIn K C = true)
    (eM : PySem.W.subIn K (.ref M) (.type "BaseException") = some true)
    (tM : PySem.W.typeIn K (.ref M) = some (.type "type"))
    (hM : PySem.W.hasDictIn K M = true)
    (sM : PySem.W.subIn K (.ref C) (.ref M) = some true)
    (q0 : PySem.W.kitOne K (.ref C) (.ref D0) = some false)
    (q1 : PySem.W.kitOne K (.ref C) (.ref D1) = some false)
    (q2 : PySem.W.kitOne K (.ref C) (.ref D2) = some false)
    (q3 : PySem.W.kitOne K (.ref C) (.ref D3) = some false)
    (q4 : PySem.W.kitOne K (.ref C) (.ref D4) = some false)
    (q5 : PySem.W.kitOne K (.ref C) (.ref D5) = some false)
    (q6 : PySem.W.kitOne K (.ref C) (.ref D6) = some false)
    (q7 : PySem.W.kitOne K (.ref C) (.ref D7) = some false)
    (q8 : PySem.W.kitOne K (.ref C) (.ref D8) = some false)
    (q10 : PySem.W.kitOne K (.ref C) (.ref D10) = some false)
    (q11 : PySem.W.kitOne K (.ref C) (.ref D11) = some false)
    (q9 : PySem.W.kitOne K (.ref C) (.ref C) = some true)
    (qV : PySem.W.kitOne K (.ref C) (.type "ValueError") = some true)
    (hc : ∀ n, 1 ≤ n → n ≤ 5 → chk n = true) (hw : ∀ n, 1 ≤ n → n ≤ 4 → chkW n = true) :
    ∃ fd : FuncData, (∀ (s : Shared) (v : Value), BindsTo s fd ⟨[v], []⟩ [("_law_script", v)]) ∧ ∀ base : Heap, K.In base → base.Ns mainGlobals mg → FnOk P w K mg base CX0 7 fa fd ["_law_script"] (spLaw K) := by
  have e := hfa.symm.trans (PySem.W.mg_of X G a44)
  cases e
  have bt : Bt mg := ⟨PySem.W.mg_none_of X G z_isinstance, PySem.W.mg_none_of X G z_int, PySem.W.mg_none_of X G z_bool, PySem.W.mg_none_of X G z_str, PySem.W.mg_none_of X G z_list, PySem.W.mg_none_of X G z_tuple, PySem.W.mg_none_of X G z_dict, PySem.W.mg_none_of X G z_range, PySem.W.mg_none_of X G z_sorted, PySem.W.mg_none_of X G z_len, PySem.W.mg_none_of X G z_zip, PySem.W.mg_none_of X G z_enumerate, PySem.W.mg_none_of X G z_verr⟩
  have F16 := fun_mk (st := topS 16) l16 c16 k16
  have b16 := F16.binds (ps := ["thing"]) fun _ _ _ _ _ _ us hl => match us, hl with | [_], _ => rfl
  have g16 := PySem.W.mg_of X G a16
  have F17 := fun_mk (st := topS 17) l17 c17 k17
  have b17 := F17.binds (ps := ["thing", "least", "most"]) fun _ _ _ _ _ _ us hl => match us, hl with | [_, _, _], _ => rfl
  have g17 := PySem.W.mg_of X G a17
  have F18 := fun_mk (st := topS 18) l18 c18 k18
  have b18 := F18.binds (ps := ["thing"]) fun _ _ _ _ _ _ us hl => match us, hl with | [_], _ => rfl
  have g18 := PySem.W.mg_of X G a18
  have F19 := fun_mk (st := topS 19) l19 c19 k19
  have b19 := F19.binds (ps := ["n"]) fun _ _ _ _ _ _ us hl => match us, hl with | [_], _ => rfl
  have g19 := PySem.W.mg_of X G a19
  have F20 := fun_mk (st := topS 20) l20 c20 k20
  have b20 := F20.binds (ps := ["many", "most"]) fun _ _ _ _ _ _ us hl => match us, hl with | [_, _], _ => rfl
  have g20 := PySem.W.mg_of X G a20
  have F21 := fun_mk (st := topS 21) l21 c21 k21
  have b21 := F21.binds (ps := ["one", "other"]) fun _ _ _ _ _ _ us hl => match us, hl with | [_, _], _ => rfl
  have g21 := PySem.W.mg_of X G a21
  have F22 := fun_mk (st := topS 22) l22 c22 k22
  have b22 := F22.binds (ps := ["sets"]) fun _ _ _ _ _ _ us hl => match us, hl with | [_], _ => rfl
  have g22 := PySem.W.mg_of X G a22
  have F23 := fun_mk (st := topS 23) l23 c23 k23
  have b23 := F23.binds (ps := ["n"]) fun _ _ _ _ _ _ us hl => match us, hl with | [_], _ => rfl
  have g23 := PySem.W.mg_of X G a23
  have F25 := fun_mk (st := topS 25) l25 c25 k25
  have b25 := F25.binds (ps := ["n", "one"]) fun _ _ _ _ _ _ us hl => match us, hl with | [_, _], _ => rfl
  have g25 := PySem.W.mg_of X G a25
  have F27 := fun_mk (st := topS 27) l27 c27 k27
  have b27 := F27.binds (ps := ["family", "one"]) fun _ _ _ _ _ _ us hl => match us, hl with | [_, _], _ => rfl
  have g27 := PySem.W.mg_of X G a27
  have F30 := fun_mk (st := topS 30) l30 c30 k30
  have b30 := F30.binds (ps := ["n"]) fun _ _ _ _ _ _ us hl => match us, hl with | [_], _ => rfl
  have g30 := PySem.W.mg_of X G a30
  have F31 := fun_mk (st := topS 31) l31 c31 k31
  have b31 := F31.binds (ps := ["n"]) fun _ _ _ _ _ _ us hl => match us, hl with | [_], _ => rfl
  have g31 := PySem.W.mg_of X G a31
  have F32 := fun_mk (st := topS 32) l32 c32 k32
  have b32 := F32.binds (ps := ["n"]) fun _ _ _ _ _ _ us hl => match us, hl with | [_], _ => rfl
  have g32 := PySem.W.mg_of X G a32
  have F34 := fun_mk (st := topS 34) l34 c34 k34
  have b34 := F34.binds (ps := ["_law_n"]) fun _ _ _ _ _ _ us hl => match us, hl with | [_], _ => rfl
  have g34 := PySem.W.mg_of X G a34
  have F35 := fun_mk (st := topS 35) l35 c35 k35
  have b35 := F35.binds (ps := ["_law_n", "_law_one"]) fun _ _ _ _ _ _ us hl => match us, hl with | [_, _], _ => rfl
  have g35 := PySem.W.mg_of X G a35
  have F36 := fun_mk (st := topS 36) l36 c36 k36
  have b36 := F36.binds (ps := ["_law_one", "_law_other"]) fun _ _ _ _ _ _ us hl => match us, hl with | [_, _], _ => rfl
  have g36 := PySem.W.mg_of X G a36
  have F37 := fun_mk (st := topS 37) l37 c37 k37
  have b37 := F37.binds (ps := ["_law_e"]) fun _ _ _ _ _ _ us hl => match us, hl with | [_], _ => rfl
  have g37 := PySem.W.mg_of X G a37
  have F38 := fun_mk (st := topS 38) l38 c38 k38
  have b38 := F38.binds (ps := ["_law_found", "_law_due"]) fun _ _ _ _ _ _ us hl => match us, hl with | [_, _], _ => rfl
  have g38 := PySem.W.mg_of X G a38
  have F39 := fun_mk (st := topS 39) l39 c39 k39
  have b39 := F39.binds (ps := ["_law_script", "_law_k"]) fun _ _ _ _ _ _ us hl => match us, hl with | [_, _], _ => rfl
  have g39 := PySem.W.mg_of X G a39
  have F40 := fun_mk (st := topS 40) l40 c40 k40
  have b40 := F40.binds (ps := ["_law_n"]) fun _ _ _ _ _ _ us hl => match us, hl with | [_], _ => rfl
  have g40 := PySem.W.mg_of X G a40
  have F41 := fun_mk (st := topS 41) l41 c41 k41
  have b41 := F41.binds (ps := ["_law_family"]) fun _ _ _ _ _ _ us hl => match us, hl with | [_], _ => rfl
  have g41 := PySem.W.mg_of X G a41
  have F42 := fun_mk (st := topS 42) l42 c42 k42
  have b42 := F42.binds (ps := ["_law_way", "_law_n"]) fun _ _ _ _ _ _ us hl => match us, hl with | [_, _], _ => rfl
  have g42 := PySem.W.mg_of X G a42
  have F43 := fun_mk (st := topS 43) l43 c43 k43
  have b43 := F43.binds (ps := ["_law_n", "_law_family"]) fun _ _ _ _ _ _ us hl => match us, hl with | [_, _], _ => rfl
  have g43 := PySem.W.mg_of X G a43
  have F44 := fun_mk (st := topS 44) l44 c44 k44
  have b44 := F44.binds (ps := ["_law_script"]) fun _ _ _ _ _ _ us hl => match us, hl with | [_], _ => rfl
  have g44 := PySem.W.mg_of X G a44
  have FI := fun_mk (st := inClass (topS 13) 0) lI cI kI
  have bI := FI.binds (ps := ["self", "many", "most"]) fun _ _ _ _ _ _ us hl => match us, hl with | [_, _, _], _ => rfl
  have ox : OexC K C := ⟨⟨nm, q, N, bs, _, sn, sub, ab, col, dd, m0, m1, m2, m3, m5, xC, (show PySem.HandSPX.refsVE [.type "ValueError", .type "Exception", .type "BaseException", .type "object"] = true from by decide +kernel)⟩, sa, eC, tC, kC⟩
  have T : TgC K C := ⟨ox, nM, nO⟩
  have xf : XfC K C := ⟨ga, gg, eC, hC⟩
  have ec : ExcC K C := ⟨ga, gg, eC, hC, gc, gn, gt, go⟩
  have xm : PySem.W.exmOne K (.ref C) (.ref M) = some true := PySem.W.exm_ref eM hM tM sM
  have kn : KnAll K mg C := ⟨⟨D0, PySem.W.mg_of X G aD0, q0⟩, ⟨D1, PySem.W.mg_of X G aD1, q1⟩, ⟨D2, PySem.W.mg_of X G aD2, q2⟩, ⟨D3, PySem.W.mg_of X G aD3, q3⟩, ⟨D4, PySem.W.mg_of X G aD4, q4⟩, ⟨D5, PySem.W.mg_of X G aD5, q5⟩, ⟨D6, PySem.W.mg_of X G aD6, q6⟩, ⟨D7, PySem.W.mg_of X G aD7, q7⟩, ⟨D8, PySem.W.mg_of X G aD8, q8⟩, ⟨C, PySem.W.mg_of X G aC, q9⟩, ⟨D10, PySem.W.mg_of X G aD10, q10⟩, ⟨D11, PySem.W.mg_of X G aD11, q11⟩, qV, ec⟩
  refine ⟨PySem.W.fnOf "law" "law" (defArgs (topS 44)) (defBody (topS 44)) (defScope (topS 44)) .none kV44 dc44 pm44 an44 cd44 ct44, fun s v => .of_eq rfl, fun base _ _ => ?_⟩
  have C16 : Cl P w K mg base CX0 1 "is_whole" (spR R16) := ⟨f16, _, _, ok16 F16 bt, g16, k16, b16⟩
  have C17 : Cl P w K mg base CX0 2 "is_from" (spR R17) := ⟨f17, _, _, ok17 F17 C16, g17, k17, b17⟩
  have C18 : Cl P w K mg base CX0 3 "ground_good" (spR R18) := ⟨f18, _, _, ok18 F18 C17 (PySem.W.mg_of X G aP), g18, k18, b18⟩
  have C19 : Cl P w K mg base CX0 4 "need_ground" (spR R19) := ⟨f19, _, _, ok19 F19 C18, g19, k19, b19⟩
  have GI : FnOk P w K mg base CX0 1 fI _ ["self", "many", "most"] (spI K C) := okI FI
  have C20 : Cl P w K mg base (L2N.CX P w) 3 "need_few" (sp20 C) := ⟨f20, _, _, ok20 T iC tI GI bI (PySem.W.mg_of X G aC) F20, g20, k20, b20⟩
  have C21 : Cl P w K mg base CX0 1 "share_point" (spR R21) := ⟨f21, _, _, ok21 F21, g21, k21, b21⟩
  have C22 : Cl P w K mg base CX0 1 "in_order" (spR R22) := ⟨f22, _, _, ok22 F22 bt, g22, k22, b22⟩
  have C23 : Cl P w K mg base CX0 1 "sets_below" (spR R23) := ⟨f23, _, _, ok23 F23 bt, g23, k23, b23⟩
  have C25 : Cl P w K mg base CX0 1 "other_points" (spR R25) := ⟨f25, _, _, ok25 F25 bt, g25, k25, b25⟩
  have C27 : Cl P w K mg base CX0 2 "meets_all" (spR R27) := ⟨f27, _, _, ok27 F27 C21, g27, k27, b27⟩
  have C30 : Cl P w K mg base CX0 3 "all_choices" (spR R30) := ⟨f30, _, _, ok30 F30 C23 C25 C27, g30, k30, b30⟩
  have C31 : Cl P w K mg base (L2N.CX P w) 5 "full_many" (spX C v31) := ⟨f31, _, _, ok31 F31 bt C19 C20 C30 (PySem.W.mg_of X G aT), g31, k31, b31⟩
  have hf : ∀ n, 1 ≤ n → n ≤ 5 → (allChoices n).all okFam = true ∧ (allChoices n).length ≤ 1000 := fun n h1 h5 => ⟨(chkF (hc n h1 h5)).fams, by rw [(chkF (hc n h1 h5)).many1]; exact Nat.le_trans many_le (by decide)⟩
  have C32 : Cl P w K mg base (L2N.CX P w) 5 "all_full" (spX C v32) := ⟨f32, _, _, ok32 F32 bt C19 C20 C30 C22 (PySem.W.mg_of X G aT) hf, g32, k32, b32⟩
  have C34 : Cl P w K mg base CX0 1 "_law_sets" (spR R34) := ⟨f34, _, _, ok34 F34 bt, g34, k34, b34⟩
  have C35 : Cl P w K mg base CX0 1 "_law_rest" (spR R25) := ⟨f35, _, _, ok35 F35 bt, g35, k35, b35⟩
  have C36 : Cl P w K mg base CX0 1 "_law_share" (spR R36) := ⟨f36, _, _, ok36 F36 bt, g36, k36, b36⟩
  have C38 : Cl P w K mg base CX0 4 "_law_same" (spR (Rsm 4)) := ⟨f38, _, _, ok38 F38 bt g38 b38 4, g38, k38, b38⟩
  have C39 : Cl P w K mg base CX0 1 "_law_cell_at" (sp39 K) := ⟨f39, _, _, ok39 F39 bt, g39, k39, b39⟩
  have C41 : Cl P w K mg base CX0 2 "_law_meets" (spR R41) := ⟨f41, _, _, ok41 F41 C36, g41, k41, b41⟩
  have C40 : Cl P w K mg base CX0 3 "_law_ways" (spR R40) := ⟨f40, _, _, ok40 F40 bt C34 C35 C41, g40, k40, b40⟩
  have C43 : Cl P w K mg base CX0 2 "_law_one_of_each" (spR R43) := ⟨f43, _, _, ok43 F43 bt C34 C35, g43, k43, b43⟩
  have C42 : Cl P w K mg base CX0 6 "_law_refused" (sp42) := ⟨f42, _, _, ok42 F42 bt T xf (PySem.W.mg_of X G aM) xm C31 C32 (ok37 F37 bt kn) g37 k37 b37 (ok38H F38 bt g38 b38 2) g38 k38 b38, g42, k42, b42⟩
  exact ok44 F44 bt C39 C42 C31 C32 C38 C40 C41 C43 hc hw
end Ms

namespace Ms
set_option maxRecDepth 100000
theorem chk1 : chk 1 = true := by decide +kernel
theorem chk2 : chk 2 = true := by decide +kernel
theorem chk3 : chk 3 = true := by decide +kernel
theorem chk4 : chk 4 = true := by decide +kernel
theorem chkW1 : chkW 1 = true := by decide +kernel
theorem chkW2 : chkW 2 = true := by decide +kernel
theorem chkW3 : chkW 3 = true := by decide +kernel
end Ms

namespace Ms
set_option maxRecDepth 100000
theorem chk5 : chk 5 = true := by decide +kernel
end Ms

namespace Ms
set_option maxRecDepth 100000
theorem chkW4 : chkW 4 = true := by decide +kernel
end Ms

theorem Ms.hc_all : ∀ n, 1 ≤ n → n ≤ 5 → Ms.chk n = true := fun n h1 h5 => by
  have h : n = 1 ∨ n = 2 ∨ n = 3 ∨ n = 4 ∨ n = 5 := by omega
  rcases h with rfl | rfl | rfl | rfl | rfl
  · exact Ms.chk1
  · exact Ms.chk2
  · exact Ms.chk3
  · exact Ms.chk4
  · exact Ms.chk5
theorem Ms.hw_all : ∀ n, 1 ≤ n → n ≤ 4 → Ms.chkW n = true := fun n h1 h5 => by
  have h : n = 1 ∨ n = 2 ∨ n = 3 ∨ n = 4 := by omega
  rcases h with rfl | rfl | rfl | rfl
  · exact Ms.chkW1
  · exact Ms.chkW2
  · exact Ms.chkW3
  · exact Ms.chkW4
open PySem PySem.W PyProof.Rows
set_option maxRecDepth 100000 in
set_option maxHeartbeats 0 in
theorem PySem.Challenge.cw_meetsets_k17_whole_all_full_holds : PySem.Challenge.rw_meetsets_k17_whole_all_full.Holds := by
  w_on; o_law; k_head; (case hw => w_witness2)
  k_fill
  refine L2.walk_of (l := PySem.Challenge.rw_meetsets_k17_whole_all_full) (n := 63) (k := 7) (x := "_law_script") (CX := fun _ => L2.CX0) (sp := fun w => Ms.spLaw _) rfl (by decide) rfl ⟨rfl, by decide, by decide⟩ (fun w h Y => PySem.W.kIn_of Y) ?F (fun _ _ a ns hl _ hS => ⟨a, ns, rfl, hS, fun _ => rfl⟩) (fun _ _ _ _ _ h => h)
  case F =>
    intro w mg fa h KX G hmg
    refine' Ms.all_mk KX G hmg ?a16 ?l16 ?c16 ?k16 ?a17 ?l17 ?c17 ?k17 ?a18 ?l18 ?c18 ?k18 ?a19 ?l19 ?c19 ?k19 ?a20 ?l20 ?c20 ?k20 ?a21 ?l21 ?c21 ?k21 ?a22 ?l22 ?c22 ?k22 ?a23 ?l23 ?c23 ?k23 ?a25 ?l25 ?c25 ?k25 ?a27 ?l27 ?c27 ?k27 ?a30 ?l30 ?c30 ?k30 ?a31 ?l31 ?c31 ?k31 ?a32 ?l32 ?c32 ?k32 ?a34 ?l34 ?c34 ?k34 ?a35 ?l35 ?c35 ?k35 ?a36 ?l36 ?c36 ?k36 ?a37 ?l37 ?c37 ?k37 ?a38 ?l38 ?c38 ?k38 ?a39 ?l39 ?c39 ?k39 ?a40 ?l40 ?c40 ?k40 ?a41 ?l41 ?c41 ?k41 ?a42 ?l42 ?c42 ?k42 ?a43 ?l43 ?c43 ?k43 ?a44 ?l44 ?c44 ?k44 ?z_isinstance ?z_int ?z_bool ?z_str ?z_list ?z_tuple ?z_dict ?z_range ?z_sorted ?z_len ?z_zip ?z_enumerate ?z_verr ?aP ?aT ?aM ?aC ?aD0 ?aD1 ?aD2 ?aD3 ?aD4 ?aD5 ?aD6 ?aD7 ?aD8 ?aD10 ?aD11 ?xC ?sa ?ga ?gg ?gc ?gn ?gt ?go ?nM ?nO ?iC ?tI ?lI ?cI ?kI ?kC ?eC ?tC ?hC ?eM ?tM ?hM ?sM ?q0 ?q1 ?q2 ?q3 ?q4 ?q5 ?q6 ?q7 ?q8 ?q10 ?q11 ?q9 ?qV Ms.hc_all Ms.hw_all
    (case a16 => first | k_is | rfl); (case l16 => first | k_is | rfl); (case c16 => first | k_is | rfl); (case k16 => first | k_is | rfl); (case a17 => first | k_is | rfl); (case l17 => first | k_is | rfl); (case c17 => first | k_is | rfl); (case k17 => first | k_is | rfl); (case a18 => first | k_is | rfl); (case l18 => first | k_is | rfl); (case c18 => first | k_is | rfl); (case k18 => first | k_is | rfl); (case a19 => first | k_is | rfl); (case l19 => first | k_is | rfl); (case c19 => first | k_is | rfl); (case k19 => first | k_is | rfl); (case a20 => first | k_is | rfl); (case l20 => first | k_is | rfl); (case c20 => first | k_is | rfl); (case k20 => first | k_is | rfl); (case a21 => first | k_is | rfl); (case l21 => first | k_is | rfl); (case c21 => first | k_is | rfl); (case k21 => first | k_is | rfl); (case a22 => first | k_is | rfl); (case l22 => first | k_is | rfl); (case c22 => first | k_is | rfl); (case k22 => first | k_is | rfl); (case a23 => first | k_is | rfl); (case l23 => first | k_is | rfl); (case c23 => first | k_is | rfl); (case k23 => first | k_is | rfl); (case a25 => first | k_is | rfl); (case l25 => first | k_is | rfl); (case c25 => first | k_is | rfl); (case k25 => first | k_is | rfl); (case a27 => first | k_is | rfl); (case l27 => first | k_is | rfl); (case c27 => first | k_is | rfl); (case k27 => first | k_is | rfl); (case a30 => first | k_is | rfl); (case l30 => first | k_is | rfl); (case c30 => first | k_is | rfl); (case k30 => first | k_is | rfl); (case a31 => first | k_is | rfl); (case l31 => first | k_is | rfl); (case c31 => first | k_is | rfl); (case k31 => first | k_is | rfl); (case a32 => first | k_is | rfl); (case l32 => first | k_is | rfl); (case c32 => first | k_is | rfl); (case k32 => first | k_is | rfl); (case a34 => first | k_is | rfl); (case l34 => first | k_is | rfl); (case c34 => first | k_is | rfl); (case k34 => first | k_is | rfl); (case a35 => first | k_is | rfl); (case l35 => first | k_is | rfl); (case c35 => first | k_is | rfl); (case k35 => first | k_is | rfl); (case a36 => first | k_is | rfl); (case l36 => first | k_is | rfl); (case c36 => first | k_is | rfl); (case k36 => first | k_is | rfl); (case a37 => first | k_is | rfl); (case l37 => first | k_is | rfl); (case c37 => first | k_is | rfl); (case k37 => first | k_is | rfl); (case a38 => first | k_is | rfl); (case l38 => first | k_is | rfl); (case c38 => first | k_is | rfl); (case k38 => first | k_is | rfl); (case a39 => first | k_is | rfl); (case l39 => first | k_is | rfl); (case c39 => first | k_is | rfl); (case k39 => first | k_is | rfl); (case a40 => first | k_is | rfl); (case l40 => first | k_is | rfl); (case c40 => first | k_is | rfl); (case k40 => first | k_is | rfl); (case a41 => first | k_is | rfl); (case l41 => first | k_is | rfl); (case c41 => first | k_is | rfl); (case k41 => first | k_is | rfl); (case a42 => first | k_is | rfl); (case l42 => first | k_is | rfl); (case c42 => first | k_is | rfl); (case k42 => first | k_is | rfl); (case a43 => first | k_is | rfl); (case l43 => first | k_is | rfl); (case c43 => first | k_is | rfl); (case k43 => first | k_is | rfl); (case a44 => first | k_is | rfl); (case l44 => first | k_is | rfl); (case c44 => first | k_is | rfl); (case k44 => first | k_is | rfl); (case z_isinstance => first | k_is | rfl); (case z_int => first | k_is | rfl); (case z_bool => first | k_is | rfl); (case z_str => first | k_is | rfl); (case z_list => first | k_is | rfl); (case z_tuple => first | k_is | rfl); (case z_dict => first | k_is | rfl); (case z_range => first | k_is | rfl); (case z_sorted => first | k_is | rfl); (case z_len => first | k_is | rfl); (case z_zip => first | k_is | rfl); (case z_enumerate => first | k_is | rfl); (case z_verr => first | k_is | rfl); (case aP => first | k_is | rfl); (case aT => first | k_is | rfl); (case aM => first | k_is | rfl); (case aC => first | k_is | rfl); (case aD0 => first | k_is | rfl); (case aD1 => first | k_is | rfl); (case aD2 => first | k_is | rfl); (case aD3 => first | k_is | rfl); (case aD4 => first | k_is | rfl); (case aD5 => first | k_is | rfl); (case aD6 => first | k_is | rfl); (case aD7 => first | k_is | rfl); (case aD8 => first | k_is | rfl); (case aD10 => first | k_is | rfl); (case aD11 => first | k_is | rfl); (case xC => first | k_is | rfl); (case sa => first | k_is | rfl); (case ga => first | k_is | rfl); (case gg => first | k_is | rfl); (case gc => first | k_is | rfl); (case gn => first | k_is | rfl); (case gt => first | k_is | rfl); (case go => first | k_is | rfl); (case nM => first | k_is | rfl); (case nO => first | k_is | rfl); (case iC => first | k_is | rfl); (case tI => first | k_is | rfl); (case lI => first | k_is | rfl); (case cI => first | k_is | rfl); (case kI => first | k_is | rfl); (case kC => first | k_is | rfl); (case eC => first | k_is | rfl); (case tC => first | k_is | rfl); (case hC => first | k_is | rfl); (case eM => first | k_is | rfl); (case tM => first | k_is | rfl); (case hM => first | k_is | rfl); (case sM => first | k_is | rfl); (case q0 => first | k_is | rfl); (case q1 => first | k_is | rfl); (case q2 => first | k_is | rfl); (case q3 => first | k_is | rfl); (case q4 => first | k_is | rfl); (case q5 => first | k_is | rfl); (case q6 => first | k_is | rfl); (case q7 => first | k_is | rfl); (case q8 => first | k_is | rfl); (case q10 => first | k_is | rfl); (case q11 => first | k_is | rfl); (case q9 => first | k_is | rfl); (case qV => first | k_is | rfl)
