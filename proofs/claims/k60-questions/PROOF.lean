import PyProof.Rows.All
import Wide.All
import OpenK.AllK
import Wide.FinOn
import HandS.ForMost
import HandS.Flow
import HandS.NoneIn
import HandS.TupAny
import HandS.Gcd
import HandS.Wide
import HandS.Style
import HandS.IsInst
import HandS.RaiseMore
import HandS.FStr
import HandS.Text
import HandS.SetFor
import HandS.Sort
import PyProof.StrLawsRepr
import HandS.Deep
import KE.SortData
import KE.DataMinMax
import KE.DataEq
import KE.DatumOrd
import KE.GoesZip
import KE.GoesMore
import HandS.Conv
import HandS.TupMul
import HandS.StrMore
import HandS.Rev
import HandS.RevTup
import HandS.SetBool
import HandS.Strs
import PySem.Challenge.RW_museumlands_k60_whole_questions
section
set_option Elab.async false
set_option linter.all false
set_option maxRecDepth 100000
/-! Values as data: what a reader of the program needs, with lists that are owned (may be changed) or frozen. -/
namespace Mv
open PySem PySem.Spec PyProof.Rows L2

inductive D where
  | any | non
  | bl (b : Bool) | int (i : Int) | str (x : Str)
  | lst (o : Bool) (xs : List D)
  | tup (xs : List D)
  | cst (xs : List D)
  | rng (lo hi : Int)
  | ty (n : String)
  | obj (f : Addr → HO)

abbrev Frg := PySem.W.Frag

mutual
def D.frz : D → Bool
  | .lst o _ => !o
  | .tup xs => D.frzL xs
  | .cst _ => true
  | .rng _ _ => true
  | .any => true
  | .non => true
  | .bl _ => true
  | .int _ => true
  | .str _ => true
  | .ty _ => true
  | .obj _ => false
def D.frzL : List D → Bool
  | [] => true
  | d :: ds => D.frz d && D.frzL ds
end
mutual
def D.fz : D → D
  | .lst _ xs => .lst false (D.fzL xs)
  | .tup xs => .tup (D.fzL xs)
  | .cst xs => .cst (D.fzL xs)
  | .rng a b => .rng a b
  | .any => .any
  | .non => .non
  | .bl b => .bl b
  | .int i => .int i
  | .str x => .str x
  | .ty n => .ty n
  | .obj _ => .any
def D.fzL : List D → List D
  | [] => []
  | d :: ds => D.fz d :: D.fzL ds
end
theorem D.fzL_map : ∀ ds : List D, D.fzL ds = ds.map D.fz
  | [] => rfl
  | d :: ds => by rw [D.fzL, D.fzL_map ds]; rfl
theorem D.frzL_all : ∀ ds : List D, D.frzL ds = ds.all D.frz
  | [] => rfl
  | d :: ds => by rw [D.frzL, D.frzL_all ds]; rfl
mutual
theorem D.frz_fz : ∀ d : D, d.fz.frz = true
  | .lst _ xs => rfl
  | .tup xs => by show D.frzL (D.fzL xs) = true; exact D.frz_fzL xs
  | .cst xs => rfl
  | .rng _ _ => rfl
  | .any => rfl
  | .non => rfl
  | .bl _ => rfl
  | .int _ => rfl
  | .str _ => rfl
  | .ty _ => rfl
  | .obj _ => rfl
theorem D.frz_fzL : ∀ ds : List D, D.frzL (D.fzL ds) = true
  | [] => rfl
  | d :: ds => by show (d.fz.frz && D.frzL (D.fzL ds)) = true; rw [D.frz_fz d, D.frz_fzL ds]; rfl
end
/-! ### what a value is, read in a heap -/
mutual
def Fz (K : Frg) (G : Hp) : D → V → Prop
  | .any, _ => True
  | .non, v => v = .non
  | .bl b, v => v = .bl b
  | .int i, v => v = .int i
  | .str x, v => v = .str x
  | .ty n, v => v = .ty n
  | .obj _, v => ∃ a, v = .ref a
  | .lst _ ds, v => ∃ a xs, v = .ref a ∧ G a = some (.lst xs) ∧ FzL K G ds xs
  | .tup ds, v => ∃ a xs, v = .ref a ∧ SqT K G a xs ∧ FzL K G ds xs
  | .cst ds, v => ∃ a xs, v = .ref a ∧ SqL K G a xs ∧ FzL K G ds xs
  | .rng lo hi, v => ∃ a, v = .ref a ∧ G a = some (.rng lo hi)
def FzL (K : Frg) (G : Hp) : List D → List V → Prop
  | [], xs => xs = []
  | d :: ds, xs => ∃ x r, xs = x :: r ∧ Fz K G d x ∧ FzL K G ds r
end
mutual
def Ow (K : Frg) (G H : Hp) : D → V → List Addr → Prop
  | .any, _, fp => fp = []
  | .non, v, fp => v = .non ∧ fp = []
  | .bl b, v, fp => v = .bl b ∧ fp = []
  | .int i, v, fp => v = .int i ∧ fp = []
  | .str x, v, fp => v = .str x ∧ fp = []
  | .ty n, v, fp => v = .ty n ∧ fp = []
  | .obj f, v, fp => ∃ a, v = .ref a ∧ H a = some (f a) ∧ fp = [a]
  | .lst false ds, v, fp => (∃ a xs, v = .ref a ∧ G a = some (.lst xs) ∧ FzL K G ds xs) ∧ fp = []
  | .cst ds, v, fp => (∃ a xs, v = .ref a ∧ SqL K G a xs ∧ FzL K G ds xs) ∧ fp = []
  | .rng lo hi, v, fp => (∃ a, v = .ref a ∧ G a = some (.rng lo hi)) ∧ fp = []
  | .lst true ds, v, fp => ∃ a xs fr, v = .ref a ∧ H a = some (.lst xs) ∧ OwL K G H ds xs fr ∧ fp = a :: fr
  | .tup ds, v, fp => ∃ a xs, v = .ref a ∧ SqT K G a xs ∧ OwL K G H ds xs fp
def OwL (K : Frg) (G H : Hp) : List D → List V → List Addr → Prop
  | [], xs, fp => xs = [] ∧ fp = []
  | d :: ds, xs, fp => ∃ x r f1 f2, xs = x :: r ∧ Ow K G H d x f1 ∧ OwL K G H ds r f2 ∧ fp = f1 ++ f2
end
section
variable {K : Frg} {G G' H H' : Hp}
theorem Same.sqT (e : Same G G') {a xs} (h : SqT K G a xs) : SqT K G' a xs := by
  rcases h with (h | ⟨o, h⟩) | h
  · exact .inl (.inl (e _ _ h))
  · exact .inl (.inr ⟨o, e _ _ h⟩)
  · exact .inr h
mutual
theorem Fz.mono (e : Same G G') : ∀ (d : D) (v : V), Fz K G d v → Fz K G' d v
  | .any, _, _ => trivial
  | .non, _, h => h
  | .bl _, _, h => h
  | .int _, _, h => h
  | .str _, _, h => h
  | .obj _, _, h => h
  | .ty _, _, h => h
  | .lst _ ds, _, ⟨a, xs, ev, hs, hl⟩ => ⟨a, xs, ev, e _ _ hs, FzL.mono e ds xs hl⟩
  | .tup ds, _, ⟨a, xs, ev, hs, hl⟩ => ⟨a, xs, ev, Same.sqT e hs, FzL.mono e ds xs hl⟩
  | .cst ds, _, ⟨a, xs, ev, hs, hl⟩ => ⟨a, xs, ev, e.seq hs, FzL.mono e ds xs hl⟩
  | .rng _ _, _, ⟨a, ev, hs⟩ => ⟨a, ev, e _ _ hs⟩
theorem FzL.mono (e : Same G G') : ∀ (ds : List D) (xs : List V), FzL K G ds xs → FzL K G' ds xs
  | [], _, h => h
  | d :: ds, _, ⟨x, r, ex, h1, h2⟩ => ⟨x, r, ex, Fz.mono e d x h1, FzL.mono e ds r h2⟩
end
theorem FzL.length : ∀ {ds : List D} {xs : List V}, FzL K G ds xs → xs.length = ds.length
  | [], _, h => by rw [show _ = [] from h]; rfl
  | d :: ds, _, ⟨x, r, ex, h1, h2⟩ => by subst ex; simp [FzL.length h2]
theorem FzL.get : ∀ {ds : List D} {xs : List V} {i : Nat} {d : D}, FzL K G ds xs → ds[i]? = some d → ∃ x, xs[i]? = some x ∧ Fz K G d x
  | [], _, _, _, _, h => by simp at h
  | d :: ds, _, 0, _, ⟨x, r, ex, h1, h2⟩, h => by simp at h; subst ex h; exact ⟨x, rfl, h1⟩
  | d :: ds, _, i + 1, _, ⟨x, r, ex, h1, h2⟩, h => by
    subst ex
    obtain ⟨y, e1, e2⟩ := FzL.get (i := i) h2 (by simpa using h)
    exact ⟨y, by simpa using e1, e2⟩
theorem OwL.length : ∀ {ds : List D} {xs : List V} {fp : List Addr}, OwL K G H ds xs fp → xs.length = ds.length
  | [], _, _, h => by rw [h.1]; rfl
  | d :: ds, _, _, ⟨x, r, f1, f2, ex, h1, h2, _⟩ => by subst ex; simp [OwL.length h2]
mutual
theorem Ow.view (e : Same G H) : ∀ (d : D) (v : V) (fp : List Addr), Ow K G H d v fp → Fz K H d v
  | .any, _, _, _ => trivial
  | .non, _, _, h => h.1
  | .bl _, _, _, h => h.1
  | .int _, _, _, h => h.1
  | .str _, _, _, h => h.1
  | .obj _, _, _, ⟨a, ev, _⟩ => ⟨a, ev⟩
  | .ty _, _, _, h => h.1
  | .lst false ds, _, _, ⟨⟨a, xs, ev, hs, hl⟩, _⟩ => ⟨a, xs, ev, e _ _ hs, FzL.mono e ds xs hl⟩
  | .lst true ds, _, _, ⟨a, xs, fr, ev, hs, hl, _⟩ => ⟨a, xs, ev, hs, OwL.view e ds xs fr hl⟩
  | .tup ds, _, fp, ⟨a, xs, ev, hs, hl⟩ => ⟨a, xs, ev, Same.sqT e hs, OwL.view e ds xs fp hl⟩
  | .cst ds, _, _, ⟨⟨a, xs, ev, hs, hl⟩, _⟩ => ⟨a, xs, ev, e.seq hs, FzL.mono e ds xs hl⟩
  | .rng _ _, _, _, ⟨⟨a, ev, hs⟩, _⟩ => ⟨a, ev, e _ _ hs⟩
theorem OwL.view (e : Same G H) : ∀ (ds : List D) (xs : List V) (fp : List Addr), OwL K G H ds xs fp → FzL K H ds xs
  | [], _, _, h => h.1
  | d :: ds, _, _, ⟨x, r, f1, f2, ex, h1, h2, _⟩ => ⟨x, r, ex, Ow.view e d x f1 h1, OwL.view e ds r f2 h2⟩
end
mutual
theorem Ow.frozen : ∀ (d : D) (v : V) (fp : List Addr), d.frz = true → Ow K G H d v fp → Fz K G d v ∧ fp = []
  | .any, _, _, _, h => ⟨trivial, h⟩
  | .non, _, _, _, h => h
  | .bl _, _, _, _, h => h
  | .int _, _, _, _, h => h
  | .str _, _, _, _, h => h
  | .obj _, _, _, z, _ => by cases z
  | .ty _, _, _, _, h => h
  | .lst false ds, _, _, _, h => h
  | .lst true ds, _, _, z, _ => by cases z
  | .tup ds, _, fp, z, ⟨a, xs, ev, hs, hl⟩ => by
    obtain ⟨h1, h2⟩ := OwL.frozen ds xs fp z hl
    exact ⟨⟨a, xs, ev, hs, h1⟩, h2⟩
  | .cst ds, _, _, _, h => h
  | .rng _ _, _, _, _, h => h
theorem OwL.frozen : ∀ (ds : List D) (xs : List V) (fp : List Addr), D.frzL ds = true → OwL K G H ds xs fp → FzL K G ds xs ∧ fp = []
  | [], _, _, _, h => h
  | d :: ds, _, _, z, ⟨x, r, f1, f2, ex, h1, h2, ef⟩ => by
    have z' : (d.frz && D.frzL ds) = true := z
    rw [Bool.and_eq_true] at z'
    obtain ⟨a1, a2⟩ := Ow.frozen d x f1 z'.1 h1
    obtain ⟨b1, b2⟩ := OwL.frozen ds r f2 z'.2 h2
    subst a2 b2 ef
    exact ⟨⟨x, r, ex, a1, b1⟩, rfl⟩
end
mutual
theorem Ow.of_fz : ∀ (d : D) (v : V), d.frz = true → Fz K G d v → Ow K G H d v []
  | .any, _, _, h => rfl
  | .non, _, _, h => ⟨h, rfl⟩
  | .bl _, _, _, h => ⟨h, rfl⟩
  | .int _, _, _, h => ⟨h, rfl⟩
  | .str _, _, _, h => ⟨h, rfl⟩
  | .obj _, _, z, _ => by cases z
  | .ty _, _, _, h => ⟨h, rfl⟩
  | .lst false ds, _, _, h => ⟨h, rfl⟩
  | .lst true ds, _, z, _ => by cases z
  | .tup ds, _, z, ⟨a, xs, ev, hs, hl⟩ => ⟨a, xs, ev, hs, OwL.of_fz ds xs z hl⟩
  | .cst ds, _, _, h => ⟨h, rfl⟩
  | .rng _ _, _, _, h => ⟨h, rfl⟩
theorem OwL.of_fz : ∀ (ds : List D) (xs : List V), D.frzL ds = true → FzL K G ds xs → OwL K G H ds xs []
  | [], _, _, h => ⟨h, rfl⟩
  | d :: ds, _, z, ⟨x, r, ex, h1, h2⟩ => by
    have z' : (d.frz && D.frzL ds) = true := z
    rw [Bool.and_eq_true] at z'
    exact ⟨x, r, [], [], ex, Ow.of_fz d x z'.1 h1, OwL.of_fz ds r z'.2 h2, rfl⟩
end
mutual
theorem Ow.mono (e : Same G G') : ∀ (d : D) (v : V) (fp : List Addr), (∀ a ∈ fp, H' a = H a) → Ow K G H d v fp → Ow K G' H' d v fp
  | .any, _, _, _, h => h
  | .non, _, _, _, h => h
  | .bl _, _, _, _, h => h
  | .int _, _, _, _, h => h
  | .str _, _, _, _, h => h
  | .obj _, _, _, k, ⟨a, ev, ha, ef⟩ => by subst ef; exact ⟨a, ev, by rw [k a (by simp)]; exact ha, rfl⟩
  | .ty _, _, _, _, h => h
  | .lst false ds, _, _, _, ⟨⟨a, xs, ev, hs, hl⟩, ef⟩ => ⟨⟨a, xs, ev, e _ _ hs, FzL.mono e ds xs hl⟩, ef⟩
  | .cst ds, _, _, _, ⟨⟨a, xs, ev, hs, hl⟩, ef⟩ => ⟨⟨a, xs, ev, e.seq hs, FzL.mono e ds xs hl⟩, ef⟩
  | .rng _ _, _, _, _, ⟨⟨a, ev, hs⟩, ef⟩ => ⟨⟨a, ev, e _ _ hs⟩, ef⟩
  | .lst true ds, _, _, k, ⟨a, xs, fr, ev, hs, hl, ef⟩ => by
    subst ef
    exact ⟨a, xs, fr, ev, by rw [k a (by simp)]; exact hs, OwL.mono e ds xs fr (fun b hb => k b (by simp [hb])) hl, rfl⟩
  | .tup ds, _, fp, k, ⟨a, xs, ev, hs, hl⟩ => ⟨a, xs, ev, Same.sqT e hs, OwL.mono e ds xs fp k hl⟩
theorem OwL.mono (e : Same G G') : ∀ (ds : List D) (xs : List V) (fp : List Addr), (∀ a ∈ fp, H' a = H a) → OwL K G H ds xs fp → OwL K G' H' ds xs fp
  | [], _, _, _, h => h
  | d :: ds, _, _, k, ⟨x, r, f1, f2, ex, h1, h2, ef⟩ => by
    subst ef
    exact ⟨x, r, f1, f2, ex, Ow.mono e d x f1 (fun b hb => k b (by simp [hb])) h1, OwL.mono e ds r f2 (fun b hb => k b (by simp [hb])) h2, rfl⟩
end
mutual
theorem Ow.there : ∀ (d : D) (v : V) (fp : List Addr), Ow K G H d v fp → ∀ a ∈ fp, ∃ o, H a = some o
  | .any, _, _, h, a, ha => by rw [show _ = [] from h] at ha; cases ha
  | .non, _, _, h, a, ha => by rw [h.2] at ha; cases ha
  | .bl _, _, _, h, a, ha => by rw [h.2] at ha; cases ha
  | .int _, _, _, h, a, ha => by rw [h.2] at ha; cases ha
  | .str _, _, _, h, a, ha => by rw [h.2] at ha; cases ha
  | .obj _, _, _, ⟨b, ev, hb, ef⟩, a, ha => by subst ef; rw [List.mem_singleton.mp ha]; exact ⟨_, hb⟩
  | .ty _, _, _, h, a, ha => by rw [h.2] at ha; cases ha
  | .lst false ds, _, _, h, a, ha => by rw [h.2] at ha; cases ha
  | .lst true ds, _, _, ⟨b, xs, fr, ev, hs, hl, ef⟩, a, ha => by
    subst ef
    rcases List.mem_cons.mp ha with rfl | ha
    · exact ⟨_, hs⟩
    · exact OwL.there ds xs fr hl a ha
  | .tup ds, _, fp, ⟨b, xs, ev, hs, hl⟩, a, ha => OwL.there ds xs fp hl a ha
  | .cst ds, _, _, h, a, ha => by rw [h.2] at ha; cases ha
  | .rng _ _, _, _, h, a, ha => by rw [h.2] at ha; cases ha
theorem OwL.there : ∀ (ds : List D) (xs : List V) (fp : List Addr), OwL K G H ds xs fp → ∀ a ∈ fp, ∃ o, H a = some o
  | [], _, _, h, a, ha => by rw [h.2] at ha; cases ha
  | d :: ds, _, _, ⟨x, r, f1, f2, ex, h1, h2, ef⟩, a, ha => by
    subst ef
    rcases List.mem_append.mp ha with ha | ha
    · exact Ow.there d x f1 h1 a ha
    · exact OwL.there ds r f2 h2 a ha
end
/-- frozen: all its owned lists go into the frozen heap -/
def addL (G H : Hp) (fp : List Addr) : Hp := fun a => if a ∈ fp then H a else G a
theorem addL_same {fp : List Addr} (hn : ∀ a ∈ fp, G a = none) : Same G (addL G H fp) := fun a o h => by
  unfold addL
  by_cases ha : a ∈ fp
  · rw [hn a ha] at h; cases h
  · rw [if_neg ha]; exact h
theorem addL_le {fp : List Addr} (e : Same G H) : Same (addL G H fp) H := fun a o h => by
  unfold addL at h
  by_cases ha : a ∈ fp
  · rw [if_pos ha] at h; exact h
  · rw [if_neg ha] at h; exact e a o h
mutual
theorem Fz.fzd (e : Same G G') : ∀ (d : D) (v : V), Fz K G d v → Fz K G' d.fz v
  | .any, _, _ => trivial
  | .non, _, h => h
  | .bl _, _, h => h
  | .int _, _, h => h
  | .str _, _, h => h
  | .obj _, _, _ => trivial
  | .ty _, _, h => h
  | .lst _ ds, _, ⟨a, xs, ev, hs, hl⟩ => ⟨a, xs, ev, e _ _ hs, FzL.fzd e ds xs hl⟩
  | .tup ds, _, ⟨a, xs, ev, hs, hl⟩ => ⟨a, xs, ev, Same.sqT e hs, FzL.fzd e ds xs hl⟩
  | .cst ds, _, ⟨a, xs, ev, hs, hl⟩ => ⟨a, xs, ev, e.seq hs, FzL.fzd e ds xs hl⟩
  | .rng _ _, _, ⟨a, ev, hs⟩ => ⟨a, ev, e _ _ hs⟩
theorem FzL.fzd (e : Same G G') : ∀ (ds : List D) (xs : List V), FzL K G ds xs → FzL K G' (D.fzL ds) xs
  | [], _, h => h
  | d :: ds, _, ⟨x, r, ex, h1, h2⟩ => ⟨x, r, ex, Fz.fzd e d x h1, FzL.fzd e ds r h2⟩
end
mutual
theorem Ow.freeze : ∀ (d : D) (v : V) (fp : List Addr), Ow K G H d v fp → ∀ J : Hp, Same G J → (∀ a ∈ fp, J a = H a) → Fz K J d.fz v
  | .any, _, _, h, _, _, _ => trivial
  | .non, _, _, h, _, _, _ => h.1
  | .bl _, _, _, h, _, _, _ => h.1
  | .int _, _, _, h, _, _, _ => h.1
  | .str _, _, _, h, _, _, _ => h.1
  | .obj _, _, _, _, _, _, _ => trivial
  | .ty _, _, _, h, _, _, _ => h.1
  | .lst false ds, _, _, ⟨⟨a, xs, ev, hs, hl⟩, ef⟩, J, e, k => ⟨a, xs, ev, e _ _ hs, FzL.fzd e ds xs hl⟩
  | .rng _ _, _, _, ⟨⟨a, ev, hs⟩, ef⟩, J, e, k => ⟨a, ev, e _ _ hs⟩
  | .cst ds, _, _, ⟨⟨a, xs, ev, hs, hl⟩, _⟩, J, e, k => ⟨a, xs, ev, e.seq hs, FzL.fzd e ds xs hl⟩
  | .lst true ds, _, _, ⟨a, xs, fr, ev, hs, hl, ef⟩, J, e, k => by
    subst ef
    exact ⟨a, xs, ev, (by rw [k a (by simp)]; exact hs), OwL.freeze ds xs fr hl J e fun b hb => k b (by simp [hb])⟩
  | .tup ds, _, fp, ⟨a, xs, ev, hs, hl⟩, J, e, k => ⟨a, xs, ev, Same.sqT e hs, OwL.freeze ds xs fp hl J e k⟩
theorem OwL.freeze : ∀ (ds : List D) (xs : List V) (fp : List Addr), OwL K G H ds xs fp → ∀ J : Hp, Same G J → (∀ a ∈ fp, J a = H a) → FzL K J (D.fzL ds) xs
  | [], _, _, h, _, _, _ => h.1
  | d :: ds, _, _, ⟨x, r, f1, f2, ex, h1, h2, ef⟩, J, e, k => by
    subst ef
    exact ⟨x, r, ex, Ow.freeze d x f1 h1 J e fun b hb => k b (by simp [hb]), OwL.freeze ds r f2 h2 J e fun b hb => k b (by simp [hb])⟩
end
end

/-! ### what is held: slots, values on the way, what callers hold -/
abbrev Itm := Option V × D
def OwO (K : Frg) (G H : Hp) (o : Option V) (d : D) (fp : List Addr) : Prop :=
  match o with
  | none => d = .any ∧ fp = []
  | some v => Ow K G H d v fp
def OwI (K : Frg) (G H : Hp) : List Itm → List Addr → Prop
  | [], fp => fp = []
  | i :: l, fp => ∃ f1 f2, OwO K G H i.1 i.2 f1 ∧ OwI K G H l f2 ∧ fp = f1 ++ f2
def Items (K : Frg) (E : List Addr) (H : Hp) (l : List Itm) : Prop :=
  ∃ G fp, Same G H ∧ OwI K G H l fp ∧ (E ++ fp).Nodup ∧ ∀ a ∈ E ++ fp, G a = none
section
variable {K : Frg} {G G' H H' : Hp} {E : List Addr} {l l' : List Itm} {o : Option V} {d : D} {v : V}
theorem OwO.mono (e : Same G G') {fp} (k : ∀ a ∈ fp, H' a = H a) (h : OwO K G H o d fp) : OwO K G' H' o d fp := by
  cases o with
  | none => exact h
  | some v => exact Ow.mono e d v fp k h
theorem OwI.mono (e : Same G G') : ∀ {l : List Itm} {fp}, (∀ a ∈ fp, H' a = H a) → OwI K G H l fp → OwI K G' H' l fp
  | [], _, _, h => h
  | i :: l, _, k, ⟨f1, f2, h1, h2, ef⟩ => by
    subst ef
    exact ⟨f1, f2, h1.mono e fun b hb => k b (by simp [hb]), OwI.mono e (fun b hb => k b (by simp [hb])) h2, rfl⟩
theorem OwI.there : ∀ {l : List Itm} {fp}, OwI K G H l fp → ∀ a ∈ fp, ∃ o, H a = some o
  | [], _, h, a, ha => by rw [show _ = [] from h] at ha; cases ha
  | i :: l, _, ⟨f1, f2, h1, h2, ef⟩, a, ha => by
    subst ef
    rcases List.mem_append.mp ha with ha | ha
    · obtain ⟨o, d⟩ := i
      cases o with
      | none => rw [(show _ ∧ f1 = [] from h1).2] at ha; cases ha
      | some v => exact Ow.there d v f1 h1 a ha
    · exact OwI.there h2 a ha
theorem OwI.app : ∀ {l l' : List Itm} {fp}, OwI K G H (l ++ l') fp ↔ ∃ f1 f2, OwI K G H l f1 ∧ OwI K G H l' f2 ∧ fp = f1 ++ f2
  | [], l', fp => ⟨fun h => ⟨[], fp, rfl, h, rfl⟩, fun ⟨f1, f2, h1, h2, ef⟩ => by rw [show f1 = [] from h1] at ef; subst ef; exact h2⟩
  | i :: l, l', fp => by
    constructor
    · rintro ⟨f1, f2, h1, h2, ef⟩
      obtain ⟨g1, g2, k1, k2, eg⟩ := OwI.app.mp h2
      exact ⟨f1 ++ g1, g2, ⟨f1, g1, h1, k1, rfl⟩, k2, by subst ef eg; simp⟩
    · rintro ⟨f1, f2, ⟨g1, g2, k1, k2, eg⟩, h2, ef⟩
      exact ⟨g1, g2 ++ f2, k1, OwI.app.mpr ⟨g2, f2, k2, h2, rfl⟩, by subst ef eg; simp⟩
theorem OwI.perm (p : l.Perm l') : ∀ {fp}, OwI K G H l fp → ∃ fp', OwI K G H l' fp' ∧ fp.Perm fp' := by
  induction p with
  | nil => exact fun h => ⟨_, h, .refl _⟩
  | cons x _ ih =>
    rintro fp ⟨f1, f2, h1, h2, ef⟩
    obtain ⟨g, k, pg⟩ := ih h2
    subst ef
    exact ⟨f1 ++ g, ⟨f1, g, h1, k, rfl⟩, List.Perm.append_left f1 pg⟩
  | swap x y r =>
    rintro fp ⟨f1, f2, h1, ⟨g1, g2, k1, k2, eg⟩, ef⟩
    subst ef eg
    refine ⟨g1 ++ (f1 ++ g2), ⟨g1, _, k1, ⟨f1, g2, h1, k2, rfl⟩, rfl⟩, ?_⟩
    rw [← List.append_assoc, ← List.append_assoc]
    exact List.Perm.append_right g2 List.perm_append_comm
  | trans _ _ ih1 ih2 =>
    intro fp h
    obtain ⟨f1, h1, p1⟩ := ih1 h
    obtain ⟨f2, h2, p2⟩ := ih2 h1
    exact ⟨f2, h2, p1.trans p2⟩
theorem Items.perm (h : Items K E H l) (p : l.Perm l') : Items K E H l' := by
  obtain ⟨G, fp, e, ho, nd, hn⟩ := h
  obtain ⟨fp', h', pf⟩ := ho.perm p
  have pe : (E ++ fp).Perm (E ++ fp') := List.Perm.append_left E pf
  exact ⟨G, fp', e, h', pe.nodup_iff.mp nd, fun a ha => hn a (pe.mem_iff.mpr ha)⟩
theorem Items.drop (h : Items K E H (l ++ l')) : Items K E H l' := by
  obtain ⟨G, fp, e, ho, nd, hn⟩ := h
  obtain ⟨f1, f2, h1, h2, ef⟩ := OwI.app.mp ho
  subst ef
  refine ⟨G, f2, e, h2, ?_, fun a ha => hn a ?_⟩
  · refine List.Nodup.sublist ?_ nd
    exact List.Sublist.append_left (List.sublist_append_right f1 f2) E
  · rcases List.mem_append.mp ha with ha | ha <;> simp [ha]
theorem Items.tail {i : Itm} (h : Items K E H (i :: l)) : Items K E H l := Items.drop (l := [i]) h
theorem Items.nil (H : Hp) : Items K [] H [] := ⟨H, [], Same.refl H, rfl, .nil, fun a ha => by cases ha⟩
theorem Items.add (h : Items K E H l) (z : d.frz = true) (hf : ∀ G, Same G H → Fz K G d v) : Items K E H ((some v, d) :: l) := by
  obtain ⟨G, fp, e, ho, nd, hn⟩ := h
  exact ⟨G, fp, e, ⟨[], fp, Ow.of_fz d v z (hf G e), ho, rfl⟩, nd, hn⟩
theorem OwI.mem : ∀ {l : List Itm} {fp}, OwI K G H l fp → ∀ {i : Itm}, i ∈ l → ∃ f, OwO K G H i.1 i.2 f ∧ ∀ a ∈ f, a ∈ fp
  | [], _, _, _, hi => by cases hi
  | j :: l, _, ⟨f1, f2, h1, h2, ef⟩, i, hi => by
    subst ef
    rcases List.mem_cons.mp hi with rfl | hi
    · exact ⟨f1, h1, fun a ha => by simp [ha]⟩
    · obtain ⟨f, hf, k⟩ := OwI.mem h2 hi
      exact ⟨f, hf, fun a ha => by simp [k a ha]⟩
/-- a frozen thing that is held is held once more -/
theorem Items.dup (h : Items K E H l) (hm : (some v, d) ∈ l) (z : d.frz = true) : Items K E H ((some v, d) :: l) := by
  obtain ⟨G, fp, e, ho, nd, hn⟩ := h
  obtain ⟨f, hf, _⟩ := ho.mem hm
  obtain ⟨hz, ef⟩ := Ow.frozen d v f z hf
  exact ⟨G, fp, e, ⟨[], fp, Ow.of_fz d v z hz, ho, rfl⟩, nd, hn⟩
theorem Items.view (h : Items K E H l) (hm : (some v, d) ∈ l) : Fz K H d v := by
  obtain ⟨G, fp, e, ho, nd, hn⟩ := h
  obtain ⟨f, hf, _⟩ := ho.mem hm
  exact Ow.view e d v f hf
/-- a frozen part of what is held (a list's or a tuple's item) -/
theorem Ow.item {ds : List D} {xs : List V} : ∀ {fp}, OwL K G H ds xs fp → ∀ {i : Nat} {c : D} {x : V}, ds[i]? = some c → xs[i]? = some x → c.frz = true → Fz K G c x := by
  induction ds generalizing xs with
  | nil => intro _ _ i c x h; simp at h
  | cons d ds ih =>
    rintro fp ⟨y, r, f1, f2, ex, h1, h2, ef⟩ i c x hc hx hz
    subst ex
    cases i with
    | zero => simp at hc hx; subst hc hx; exact (Ow.frozen _ _ _ hz h1).1
    | succ i => exact ih h2 (by simpa using hc) (by simpa using hx) hz
theorem FzL.item {ds : List D} {xs : List V} : FzL K G ds xs → ∀ {i : Nat} {c : D} {x : V}, ds[i]? = some c → xs[i]? = some x → Fz K G c x := by
  intro h i c x hc hx
  obtain ⟨y, e, f⟩ := h.get hc
  rw [e] at hx; cases hx
  exact f
theorem Items.list (h : Items K E H l) {b : Bool} {ds : List D} (hm : (some v, .lst b ds) ∈ l) :
    ∃ a xs, v = .ref a ∧ H a = some (.lst xs) ∧ xs.length = ds.length ∧ FzL K H ds xs ∧ (∀ i : Nat, ∀ c x, ds[i]? = some c → xs[i]? = some x → c.frz = true → Items K E H ((some x, c) :: l)) := by
  obtain ⟨G, fp, e, ho, nd, hn⟩ := h
  obtain ⟨f, hf, _⟩ := ho.mem hm
  cases b with
  | false =>
    obtain ⟨⟨a, xs, ev, hs, hl⟩, _⟩ := hf
    refine ⟨a, xs, ev, e _ _ hs, hl.length, FzL.mono e _ _ hl, fun i c x hc hx z => ?_⟩
    exact ⟨G, fp, e, ⟨[], fp, Ow.of_fz c x z (hl.item hc hx), ho, rfl⟩, nd, hn⟩
  | true =>
    obtain ⟨a, xs, fr, ev, hs, hl, _⟩ := hf
    refine ⟨a, xs, ev, hs, hl.length, OwL.view e _ _ _ hl, fun i c x hc hx z => ?_⟩
    exact ⟨G, fp, e, ⟨[], fp, Ow.of_fz c x z (Ow.item hl hc hx z), ho, rfl⟩, nd, hn⟩
theorem Items.const (h : Items K E H l) {ds : List D} (hm : (some v, .cst ds) ∈ l) :
    ∃ a xs, v = .ref a ∧ SqL K H a xs ∧ xs.length = ds.length ∧ FzL K H ds xs ∧ (∀ i : Nat, ∀ c x, ds[i]? = some c → xs[i]? = some x → c.frz = true → Items K E H ((some x, c) :: l)) := by
  obtain ⟨G, fp, e, ho, nd, hn⟩ := h
  obtain ⟨f, hf, _⟩ := ho.mem hm
  obtain ⟨⟨a, xs, ev, hs, hl⟩, _⟩ := hf
  refine ⟨a, xs, ev, e.seq hs, hl.length, FzL.mono e _ _ hl, fun i c x hc hx z => ?_⟩
  exact ⟨G, fp, e, ⟨[], fp, Ow.of_fz c x z (hl.item hc hx), ho, rfl⟩, nd, hn⟩
theorem Items.range (h : Items K E H l) {lo hi : Int} (hm : (some v, .rng lo hi) ∈ l) : ∃ a, v = .ref a ∧ H a = some (.rng lo hi) := h.view hm
theorem Items.tuple (h : Items K E H l) {ds : List D} (hm : (some v, .tup ds) ∈ l) :
    ∃ a xs, v = .ref a ∧ SqT K H a xs ∧ xs.length = ds.length ∧ FzL K H ds xs ∧ (∀ i : Nat, ∀ c x, ds[i]? = some c → xs[i]? = some x → c.frz = true → Items K E H ((some x, c) :: l)) := by
  obtain ⟨G, fp, e, ho, nd, hn⟩ := h
  obtain ⟨f, hf, _⟩ := ho.mem hm
  obtain ⟨a, xs, ev, hs, hl⟩ := hf
  refine ⟨a, xs, ev, Same.sqT e hs, hl.length, OwL.view e _ _ _ hl, fun i c x hc hx z => ?_⟩
  exact ⟨G, fp, e, ⟨[], fp, Ow.of_fz c x z (Ow.item hl hc hx z), ho, rfl⟩, nd, hn⟩
def prs (vs : List V) (ds : List D) : List Itm := (vs.map some).zip ds
theorem OwL.items : ∀ {ds : List D} {xs : List V} {fp}, OwL K G H ds xs fp ↔ (xs.length = ds.length ∧ OwI K G H (prs xs ds) fp)
  | [], xs, fp => by
    constructor
    · rintro ⟨rfl, rfl⟩; exact ⟨rfl, rfl⟩
    · rintro ⟨h1, h2⟩
      cases xs with
      | nil => exact ⟨rfl, h2⟩
      | cons _ _ => simp at h1
  | d :: ds, xs, fp => by
    constructor
    · rintro ⟨x, r, f1, f2, rfl, h1, h2, rfl⟩
      obtain ⟨k1, k2⟩ := OwL.items.mp h2
      exact ⟨by simp [k1], ⟨f1, f2, h1, k2, rfl⟩⟩
    · rintro ⟨h1, h2⟩
      cases xs with
      | nil => simp at h1
      | cons x r =>
        obtain ⟨f1, f2, k1, k2, rfl⟩ := h2
        exact ⟨x, r, f1, f2, rfl, k1, OwL.items.mpr ⟨by simpa using h1, k2⟩, rfl⟩
/-- a frozen list's items, all of them -/
theorem OwI.of_fzL : ∀ {ds : List D} {xs : List V}, D.frzL ds = true → FzL K G ds xs → OwI K G H (prs xs ds) []
  | ds, xs, z, h => (OwL.items.mp (OwL.of_fz ds xs z h)).2
/-- an owned list: what it holds apart, its own place kept out -/
theorem Items.open {a : Addr} {ds : List D} (h : Items K E H ((some (.ref a), .lst true ds) :: l)) :
    ∃ xs, H a = some (.lst xs) ∧ xs.length = ds.length ∧ Items K (a :: E) H (prs xs ds ++ l) := by
  obtain ⟨G, fp, e, ⟨f1, f2, ⟨a', xs, fr, ev, hs, hl, ef⟩, h2, ef2⟩, nd, hn⟩ := h
  cases ev
  subst ef ef2
  obtain ⟨k1, k2⟩ := OwL.items.mp hl
  have pe : (E ++ (a :: fr ++ f2)).Perm (a :: E ++ (fr ++ f2)) := by
    have : E ++ (a :: fr ++ f2) = E ++ a :: (fr ++ f2) := rfl
    rw [this]
    exact List.perm_middle
  exact ⟨xs, hs, k1, G, fr ++ f2, e, OwI.app.mpr ⟨fr, f2, k2, h2, rfl⟩, pe.nodup_iff.mp nd, fun b hb => hn b (pe.mem_iff.mpr hb)⟩
theorem Items.close {a : Addr} {xs ys : List V} {ds : List D} (ha : H a = some (.lst ys)) (hx : xs.length = ds.length) (h : Items K (a :: E) H (prs xs ds ++ l)) :
    Items K E (upd H a (.lst xs)) ((some (.ref a), .lst true ds) :: l) := by
  obtain ⟨G, fp, e, ho, nd, hn⟩ := h
  obtain ⟨f1, f2, h1, h2, ef⟩ := OwI.app.mp ho
  subst ef
  have ga : G a = none := hn a (by simp)
  have hnd : a ∉ f1 ++ f2 := fun z => by
    have : (a :: (E ++ (f1 ++ f2))).Nodup := nd
    exact (List.nodup_cons.mp this).1 (by simp at z ⊢; rcases z with z | z <;> simp [z])
  have keep : ∀ b ∈ f1 ++ f2, upd H a (.lst xs) b = H b := fun b hb => upd_ne fun z => hnd (z ▸ hb)
  have pe : (a :: E ++ (f1 ++ f2)).Perm (E ++ (a :: f1 ++ f2)) := by
    have : E ++ (a :: f1 ++ f2) = E ++ a :: (f1 ++ f2) := rfl
    rw [this]
    exact List.perm_middle.symm
  have hl : OwL K G H ds xs f1 := OwL.items.mpr ⟨hx, h1⟩
  refine ⟨G, a :: f1 ++ f2, fun b o hb => ?_, ⟨a :: f1, f2, ⟨a, xs, f1, rfl, upd_same, OwL.mono (Same.refl G) ds xs f1 (fun b hb => keep b (by simp [hb])) hl, rfl⟩, h2.mono (Same.refl G) (fun b hb => keep b (by simp [hb])), rfl⟩,
    pe.nodup_iff.mp nd, fun b hb => hn b (pe.mem_iff.mpr hb)⟩
  rw [upd_ne (ne_of_none hb ga)]
  exact e b o hb
/-- a new list -/
theorem Items.new {a : Addr} {xs : List V} {ds : List D} (ha : H a = none) (hx : xs.length = ds.length) (h : Items K E H (prs xs ds ++ l)) (hE : ∀ b ∈ E, H b ≠ none) :
    Items K E (upd H a (.lst xs)) ((some (.ref a), .lst true ds) :: l) := by
  obtain ⟨G, fp, e, ho, nd, hn⟩ := h
  obtain ⟨f1, f2, h1, h2, ef⟩ := OwI.app.mp ho
  subst ef
  have ga : G a = none := e.free ha
  have hnd : a ∉ f1 ++ f2 := fun z => by
    obtain ⟨ys, q⟩ := ho.there a z
    rw [ha] at q; cases q
  have keep : ∀ b ∈ f1 ++ f2, upd H a (.lst xs) b = H b := fun b hb => upd_ne fun z => hnd (z ▸ hb)
  have haE : a ∉ E := fun z => hE a z ha
  have pe : (a :: E ++ (f1 ++ f2)).Perm (E ++ (a :: f1 ++ f2)) := by
    have : E ++ (a :: f1 ++ f2) = E ++ a :: (f1 ++ f2) := rfl
    rw [this]
    exact List.perm_middle.symm
  have hl : OwL K G H ds xs f1 := OwL.items.mpr ⟨hx, h1⟩
  refine ⟨G, a :: f1 ++ f2, fun b o hb => ?_, ⟨a :: f1, f2, ⟨a, xs, f1, rfl, upd_same, OwL.mono (Same.refl G) ds xs f1 (fun b hb => keep b (by simp [hb])) hl, rfl⟩, h2.mono (Same.refl G) (fun b hb => keep b (by simp [hb])), rfl⟩,
    pe.nodup_iff.mp (List.nodup_cons.mpr ⟨fun z => ?_, nd⟩), fun b hb => ?_⟩
  · rw [upd_ne (ne_of_none hb ga)]
    exact e b o hb
  · rcases List.mem_append.mp z with z | z
    · exact haE z
    · exact hnd z
  · rcases List.mem_cons.mp (pe.mem_iff.mpr hb) with rfl | hb
    · exact ga
    · exact hn b hb
/-- a new tuple -/
theorem Items.newT {a : Addr} {xs : List V} {ds : List D} (ha : H a = none) (hx : xs.length = ds.length) (h : Items K [] H (prs xs ds ++ l)) :
    Items K [] (upd H a (.tup xs)) ((some (.ref a), .tup ds) :: l) := by
  obtain ⟨G, fp, e, ho, nd, hn⟩ := h
  obtain ⟨f1, f2, h1, h2, ef⟩ := OwI.app.mp ho
  subst ef
  have ga : G a = none := e.free ha
  have hnd : a ∉ f1 ++ f2 := fun z => by
    obtain ⟨ys, q⟩ := ho.there a z
    rw [ha] at q; cases q
  have keep : ∀ b ∈ f1 ++ f2, upd H a (.tup xs) b = H b := fun b hb => upd_ne fun z => hnd (z ▸ hb)
  have hl : OwL K G H ds xs f1 := OwL.items.mpr ⟨hx, h1⟩
  have sG : Same G (upd G a (.tup xs)) := fun b o hb => by rw [upd_ne (ne_of_none hb ga)]; exact hb
  refine ⟨upd G a (.tup xs), f1 ++ f2, fun b o hb => ?_, ⟨f1, f2, ⟨a, xs, rfl, SqT.of upd_same, OwL.mono sG ds xs f1 (fun b hb => keep b (by simp [hb])) hl⟩, h2.mono sG (fun b hb => keep b (by simp [hb])), rfl⟩,
    nd, fun b hb => ?_⟩
  · by_cases z : b = a
    · subst z; rw [upd_same] at hb ⊢; exact hb
    · rw [upd_ne z] at hb ⊢; exact e b o hb
  · rw [upd_ne (show b ≠ a from fun z => hnd (z ▸ (by simpa using hb)))]
    exact hn b hb
/-- a new object that nobody needs to know -/
theorem Items.more {a : Addr} {x : HO} (ha : H a = none) (h : Items K [] H l) : Items K [] (upd H a x) l := by
  obtain ⟨G, fp, e, ho, nd, hn⟩ := h
  have ga : G a = none := e.free ha
  have hnd : a ∉ fp := fun z => by
    obtain ⟨ys, q⟩ := ho.there a z
    rw [ha] at q; cases q
  refine ⟨G, fp, fun b o hb => ?_, ho.mono (Same.refl G) (fun b hb => upd_ne fun z => hnd (z ▸ hb)), nd, hn⟩
  rw [upd_ne (ne_of_none hb ga)]
  exact e b o hb
/-- a tuple taken apart -/
theorem Items.openT {ds : List D} (h : Items K E H ((some v, .tup ds) :: l)) :
    ∃ a xs, v = .ref a ∧ SqT K H a xs ∧ xs.length = ds.length ∧ Items K E H (prs xs ds ++ l) := by
  obtain ⟨G, fp, e, ⟨f1, f2, ⟨a, xs, ev, hs, hl⟩, h2, ef2⟩, nd, hn⟩ := h
  subst ef2
  obtain ⟨k1, k2⟩ := OwL.items.mp hl
  exact ⟨a, xs, ev, Same.sqT e hs, k1, G, f1 ++ f2, e, OwI.app.mpr ⟨f1, f2, k2, h2, rfl⟩, nd, hn⟩
theorem Items.freeze (h : Items K E H ((o, d) :: l)) : Items K E H ((o, d.fz) :: l) := by
  obtain ⟨G, fp, e, ⟨f1, f2, h1, h2, ef⟩, nd, hn⟩ := h
  subst ef
  cases o with
  | none =>
    obtain ⟨rfl, rfl⟩ := (show d = .any ∧ f1 = [] from h1)
    exact ⟨G, [] ++ f2, e, ⟨[], f2, ⟨rfl, rfl⟩, h2, rfl⟩, nd, hn⟩
  | some v =>
    have hn1 : ∀ a ∈ f1, G a = none := fun a ha => hn a (by simp [ha])
    have dj : ∀ a ∈ E ++ f2, a ∉ f1 := fun a ha z => by
      rw [List.nodup_append] at nd
      obtain ⟨n1, n2, n3⟩ := nd
      rcases List.mem_append.mp ha with ha | ha
      · exact n3 a ha a (by simp [z]) rfl
      · rw [List.nodup_append] at n2
        exact n2.2.2 a z a ha rfl
    have hz : Fz K (addL G H f1) d.fz v := Ow.freeze d v f1 h1 _ (addL_same hn1) fun a ha => by unfold addL; rw [if_pos ha]
    refine ⟨addL G H f1, f2, addL_le e, ⟨[], f2, Ow.of_fz _ _ (D.frz_fz d) hz, h2.mono (addL_same hn1) (fun _ _ => rfl), rfl⟩, ?_, fun a ha => ?_⟩
    · refine List.Nodup.sublist ?_ nd
      exact List.Sublist.append_left (List.sublist_append_right f1 f2) E
    · unfold addL
      rw [if_neg (dj a ha)]
      exact hn a (by rcases List.mem_append.mp ha with ha | ha <;> simp [ha])
theorem Items.forget (h : Items K E H ((o, d) :: l)) : Items K E H ((o, .any) :: l) := by
  obtain ⟨G, fp, e, ⟨f1, f2, h1, h2, ef⟩, nd, hn⟩ := h
  subst ef
  refine ⟨G, f2, e, ⟨[], f2, ?_, h2, rfl⟩, ?_, fun a ha => hn a ?_⟩
  · cases o with
    | none => exact ⟨rfl, rfl⟩
    | some v => exact rfl
  · refine List.Nodup.sublist ?_ nd
    exact List.Sublist.append_left (List.sublist_append_right f1 f2) E
  · rcases List.mem_append.mp ha with ha | ha <;> simp [ha]
theorem Items.blank (h : Items K E H l) : Items K E H ((o, .any) :: l) := by
  obtain ⟨G, fp, e, ho, nd, hn⟩ := h
  refine ⟨G, fp, e, ⟨[], fp, ?_, ho, rfl⟩, nd, hn⟩
  cases o with
  | none => exact ⟨rfl, rfl⟩
  | some v => exact rfl
end
end Mv
namespace Mv
open PySem PySem.Spec PyProof.Rows L2
section
variable {K : Frg} {H : Hp} {E : List Addr} {l : List Itm} {v : V}
theorem Items.listAll (h : Items K E H l) {b : Bool} {ds : List D} (hm : (some v, .lst b ds) ∈ l) (z : D.frzL ds = true) :
    ∃ a xs, v = .ref a ∧ H a = some (.lst xs) ∧ xs.length = ds.length ∧ Items K E H (prs xs ds ++ l) := by
  obtain ⟨G, fp, e, ho, nd, hn⟩ := h
  obtain ⟨f, hf, _⟩ := ho.mem hm
  cases b with
  | false =>
    obtain ⟨⟨a, xs, ev, hs, hl⟩, _⟩ := hf
    exact ⟨a, xs, ev, e _ _ hs, hl.length, G, fp, e, OwI.app.mpr ⟨[], fp, OwI.of_fzL z hl, ho, rfl⟩, nd, hn⟩
  | true =>
    obtain ⟨a, xs, fr, ev, hs, hl, _⟩ := hf
    obtain ⟨hl', rfl⟩ := OwL.frozen ds xs fr z hl
    exact ⟨a, xs, ev, hs, hl.length, G, fp, e, OwI.app.mpr ⟨[], fp, OwI.of_fzL z hl', ho, rfl⟩, nd, hn⟩
theorem Items.tupleAll (h : Items K E H l) {ds : List D} (hm : (some v, .tup ds) ∈ l) (z : D.frzL ds = true) :
    ∃ a xs, v = .ref a ∧ SqT K H a xs ∧ xs.length = ds.length ∧ Items K E H (prs xs ds ++ l) := by
  obtain ⟨G, fp, e, ho, nd, hn⟩ := h
  obtain ⟨f, hf, _⟩ := ho.mem hm
  obtain ⟨a, xs, ev, hs, hl⟩ := hf
  obtain ⟨hl', _⟩ := OwL.frozen ds xs f z hl
  exact ⟨a, xs, ev, Same.sqT e hs, hl.length, G, fp, e, OwI.app.mpr ⟨[], fp, OwI.of_fzL z hl', ho, rfl⟩, nd, hn⟩
theorem Items.sub {l l' : List Itm} (h : Items K E H l) (p : ∃ r, l.Perm (r ++ l')) : Items K E H l' := by
  obtain ⟨r, p⟩ := p
  exact (h.perm p).drop
theorem mem_of_getElem {A : List Itm} {i : Nat} {x : Itm} (h : A[i]? = some x) : x ∈ A := List.mem_of_getElem? h
end
end Mv
end
section
set_option Elab.async false
set_option linter.all false
set_option maxRecDepth 100000
/-! Judgements: what an expression, a test, a statement makes of data. -/
namespace Mv
open PySem PySem.Spec PyProof.Rows L2

/-- the data in a def's slots -/
abbrev Ev := List D
abbrev Sl := List (Option V)
/-- where an operand lies: in a slot (not taken out), or by itself -/
inductive Hd where
  | sl (i : Nat) | tm (d : D)
def Hd.get (ρ : Ev) : Hd → D
  | .sl i => ρ.getD i .any
  | .tm d => d
def Hd.its : Hd → V → List Itm
  | .sl _, _ => []
  | .tm d, v => [(some v, d)]
def Hd.at' (σ : Sl) : Hd → V → Prop
  | .sl i, v => σ[i]? = some (some v)
  | .tm _, _ => True
def hits : List Hd → List V → List Itm
  | h :: hs, v :: vs => h.its v ++ hits hs vs
  | _, _ => []
def hats (σ : Sl) : List Hd → List V → Prop
  | [], [] => True
  | h :: hs, v :: vs => h.at' σ v ∧ hats σ hs vs
  | _, _ => False
/-- how a statement ends -/
inductive Out where
  | nx (ρ : Ev) | rt (d : D) (ρ : Ev) | bk (ρ : Ev) | ct (ρ : Ev)

section
variable (X : Cx)
structure DE (e : Expr) (f : Ev → Option (D × Ev)) : Prop where
  ex : ∃ t, PE X e t ∧ ∀ (σ : Sl) (H : Hp) (ρ : Ev) (l : List Itm) (Q : VK) (r : D) (ρ' : Ev), σ.length = ρ.length → Items X.K [] H (σ.zip ρ ++ l) → f ρ = some (r, ρ') →
    (∀ v H', ρ'.length = ρ.length → Items X.K [] H' ((some v, r) :: (σ.zip ρ' ++ l)) → Q v H') → t σ H Q
structure DH (e : Expr) (f : Ev → Option (Hd × Ev)) : Prop where
  ex : ∃ t, PE X e t ∧ ∀ (σ : Sl) (H : Hp) (ρ : Ev) (l : List Itm) (Q : VK) (r : Hd) (ρ' : Ev), σ.length = ρ.length → Items X.K [] H (σ.zip ρ ++ l) → f ρ = some (r, ρ') →
    (∀ v H', ρ'.length = ρ.length → r.at' σ v → Items X.K [] H' (r.its v ++ (σ.zip ρ' ++ l)) → Q v H') → t σ H Q
structure DA (es : List Expr) (f : Ev → Option (List Hd × Ev)) : Prop where
  ex : ∃ t, PA X es t ∧ ∀ (σ : Sl) (H : Hp) (ρ : Ev) (l : List Itm) (Q : List V → Hp → Prop) (r : List Hd) (ρ' : Ev), σ.length = ρ.length → Items X.K [] H (σ.zip ρ ++ l) → f ρ = some (r, ρ') →
    (∀ vs H', ρ'.length = ρ.length → hats σ r vs → Items X.K [] H' (hits r vs ++ (σ.zip ρ' ++ l)) → Q vs H') → t σ H Q
structure DT (e : Expr) (f : Ev → Option (Bool × Ev)) : Prop where
  ex : ∃ t, PT X e t ∧ ∀ (σ : Sl) (H : Hp) (ρ : Ev) (l : List Itm) (Q : Bool → Hp → Prop) (r : Bool) (ρ' : Ev), σ.length = ρ.length → Items X.K [] H (σ.zip ρ ++ l) → f ρ = some (r, ρ') →
    (∀ H', ρ'.length = ρ.length → Items X.K [] H' (σ.zip ρ' ++ l) → Q r H') → t σ H Q
structure DW (e : Expr) (f : Ev → Option (Bool × Ev)) : Prop where
  ex : ∃ t, PW X e t ∧ ∀ (σ : Sl) (H : Hp) (ρ : Ev) (l : List Itm) (Q : Bool → Hp → Prop) (r : Bool) (ρ' : Ev), σ.length = ρ.length → Items X.K [] H (σ.zip ρ ++ l) → f ρ = some (r, ρ') →
    (∀ H', ρ'.length = ρ.length → Items X.K [] H' (σ.zip ρ' ++ l) → Q r H') → t σ H Q
/-- the slots in C keep what they hold -/
def Agr (C : List Nat) (σ σ' : Sl) : Prop := ∀ i ∈ C, σ'[i]? = σ[i]?
def EndOk (C : List Nat) (D' : Ends) (σ : Sl) (l : List Itm) (o : Out) : Prop :=
  match o with
  | .nx ρ' => ∀ σ' H', σ'.length = σ.length → ρ'.length = σ.length → Agr C σ σ' → Items X.K [] H' (σ'.zip ρ' ++ l) → D'.nx σ' H'
  | .bk ρ' => ∀ σ' H', σ'.length = σ.length → ρ'.length = σ.length → Agr C σ σ' → Items X.K [] H' (σ'.zip ρ' ++ l) → D'.bk σ' H'
  | .ct ρ' => ∀ σ' H', σ'.length = σ.length → ρ'.length = σ.length → Agr C σ σ' → Items X.K [] H' (σ'.zip ρ' ++ l) → D'.ct σ' H'
  | .rt d ρ' => ∀ v σ' H', σ'.length = σ.length → ρ'.length = σ.length → Agr C σ σ' → Items X.K [] H' ((some v, d) :: (σ'.zip ρ' ++ l)) → D'.rt v H'
structure DS (C : List Nat) (st : Stmt) (f : Ev → Option Out) : Prop where
  ex : ∃ t, PS X st t ∧ ∀ (D' : Ends) (σ : Sl) (H : Hp) (ρ : Ev) (l : List Itm) (o : Out), σ.length = ρ.length → Items X.K [] H (σ.zip ρ ++ l) → f ρ = some o → EndOk X C D' σ l o → t D' σ H
structure DSs (C : List Nat) (st : List Stmt) (f : Ev → Option Out) : Prop where
  ex : ∃ t, PSs X st t ∧ ∀ (D' : Ends) (σ : Sl) (H : Hp) (ρ : Ev) (l : List Itm) (o : Out), σ.length = ρ.length → Items X.K [] H (σ.zip ρ ++ l) → f ρ = some o → EndOk X C D' σ l o → t D' σ H
structure DG (C : List Nat) (tg : Expr) (f : D → Ev → Option Ev) : Prop where
  ex : ∃ t, PG X tg t ∧ ∀ (v : V) (d : D) (σ : Sl) (H : Hp) (ρ : Ev) (l : List Itm) (Q : Sl → Hp → Prop) (ρ' : Ev), σ.length = ρ.length → Items X.K [] H ((some v, d) :: (σ.zip ρ ++ l)) → f d ρ = some ρ' →
    (∀ σ' H', σ'.length = σ.length → ρ'.length = σ.length → Agr C σ σ' → Items X.K [] H' (σ'.zip ρ' ++ l) → Q σ' H') → t v σ H Q
structure DGs (C : List Nat) (tgs : List Expr) (f : List D → Ev → Option Ev) : Prop where
  ex : ∃ t, PGs X tgs t ∧ ∀ (vs : List V) (ds : List D) (σ : Sl) (H : Hp) (ρ : Ev) (l : List Itm) (Q : Sl → Hp → Prop) (ρ' : Ev), σ.length = ρ.length → vs.length = ds.length → Items X.K [] H (prs vs ds ++ (σ.zip ρ ++ l)) → f ds ρ = some ρ' →
    (∀ σ' H', σ'.length = σ.length → ρ'.length = σ.length → Agr C σ σ' → Items X.K [] H' (σ'.zip ρ' ++ l) → Q σ' H') → t vs σ H Q
end

/-! ### slots -/
theorem zip_at {σ : Sl} {ρ : Ev} {i : Nat} {o : Option V} {d : D} (h1 : σ[i]? = some o) (h2 : ρ[i]? = some d) :
    ∃ A B, σ.zip ρ = A ++ (o, d) :: B ∧ (∀ d', σ.zip (ρ.set i d') = A ++ (o, d') :: B) ∧ ∀ o' d', (σ.set i o').zip (ρ.set i d') = A ++ (o', d') :: B := by
  induction σ generalizing ρ i with
  | nil => simp at h1
  | cons s σ ih =>
    cases ρ with
    | nil => simp at h2
    | cons r ρ =>
      cases i with
      | zero =>
        simp at h1 h2
        subst h1 h2
        exact ⟨[], σ.zip ρ, rfl, fun _ => rfl, fun _ _ => rfl⟩
      | succ i =>
        obtain ⟨A, B, e1, e2, e3⟩ := ih (by simpa using h1) (by simpa using h2)
        exact ⟨(s, r) :: A, B, by simp [e1], fun d' => by simp [e2], fun o' d' => by simp [e3]⟩
theorem zip_mem {σ : Sl} {ρ : Ev} {i : Nat} {o : Option V} {d : D} (h1 : σ[i]? = some o) (h2 : ρ[i]? = some d) : (o, d) ∈ σ.zip ρ := by
  obtain ⟨A, B, e, _⟩ := zip_at h1 h2
  rw [e]; simp
theorem getD_of {ρ : Ev} {i : Nat} {d : D} (h : ρ[i]? = some d) : ρ.getD i .any = d := by
  rw [List.getD_eq_getElem?_getD, h]; rfl
theorem at_ex {σ : Sl} {ρ : Ev} (hl : σ.length = ρ.length) {i : Nat} {d : D} (h : ρ[i]? = some d) : ∃ o, σ[i]? = some o := by
  have : i < ρ.length := (List.getElem?_eq_some_iff.mp h).1
  exact ⟨σ[i]'(by omega), List.getElem?_eq_getElem (by omega)⟩
section
variable {K : Frg} {H : Hp} {l : List Itm} {σ : Sl} {ρ : Ev}
/-- a slot that holds something has a value -/
theorem slot_val {E : List Addr} (h : Items K E H (σ.zip ρ ++ l)) (hl : σ.length = ρ.length) {i : Nat} {d : D} (e : ρ[i]? = some d) (hd : d ≠ .any) : ∃ v, σ[i]? = some (some v) := by
  obtain ⟨o, ho⟩ := at_ex hl e
  cases o with
  | some v => exact ⟨v, ho⟩
  | none =>
    obtain ⟨G, fp, _, hi, _⟩ := h
    obtain ⟨f, hf, _⟩ := hi.mem (i := (none, d)) (List.mem_append_left _ (zip_mem ho e))
    exact absurd hf.1 hd
theorem Items.perm1 {E : List Addr} {A B C : List Itm} {x : Itm} (h : Items K E H (A ++ (x :: B) ++ C)) : Items K E H (x :: (A ++ B ++ C)) := by
  refine h.perm ?_
  simp only [List.append_assoc, List.cons_append]
  exact List.perm_middle
theorem Items.perm2 {E : List Addr} {A B C : List Itm} {x : Itm} (h : Items K E H (x :: (A ++ B ++ C))) : Items K E H (A ++ (x :: B) ++ C) := by
  refine h.perm ?_
  simp only [List.append_assoc, List.cons_append]
  exact List.perm_middle.symm
/-- the slot's data first, and back -/
theorem Items.slot {E : List Addr} (h : Items K E H (σ.zip ρ ++ l)) {i : Nat} {o : Option V} {d : D} (h1 : σ[i]? = some o) (h2 : ρ[i]? = some d) :
    ∃ A B, Items K E H ((o, d) :: (A ++ B ++ l)) ∧ ∀ (E' : List Addr) (H' : Hp) (l' : List Itm) (d' : D), Items K E' H' ((o, d') :: (A ++ B ++ l')) → Items K E' H' (σ.zip (ρ.set i d') ++ l') := by
  obtain ⟨A, B, e1, e2, _⟩ := zip_at h1 h2
  refine ⟨A, B, Items.perm1 (by rw [e1] at h; exact h), fun E' H' l' d' h' => ?_⟩
  rw [e2]
  exact Items.perm2 h'
end

/-! ### expressions -/
section
variable {X : Cx}
theorem DH.of (h : DE X e f) : DH X e fun ρ => (f ρ).map fun p => (.tm p.1, p.2) := by
  obtain ⟨t, ht, k⟩ := h.ex
  refine ⟨t, ht, fun σ H ρ l Q r ρ' hl hi hf q => ?_⟩
  obtain ⟨⟨d, ρ1⟩, h1, h2⟩ := Option.map_eq_some_iff.mp hf
  cases h2
  exact k σ H ρ l Q d ρ1 hl hi h1 fun v H' hl' hi' => q v H' hl' trivial hi'
/-- an operand that stays in its slot -/
def hV (i : Nat) : Ev → Option (Hd × Ev) := fun ρ => match ρ[i]? with
  | some .any => none
  | some _ => some (.sl i, ρ)
  | none => none
def hE (f : Ev → Option (D × Ev)) : Ev → Option (Hd × Ev) := fun ρ => (f ρ).map fun p => (.tm p.1, p.2)
theorem dh_of {e : Expr} {f : Ev → Option (D × Ev)} (h : DE X e f) : DH X e (hE f) := DH.of h
theorem dh_var (i : Nat) {x : Str} {pos : Pos} (hN : X.N[i]? = some x := by rfl) (hv : Vis X.env.scope x := by first | exact Or.inl rfl | exact Or.inr (Or.inl rfl) | exact Or.inr (Or.inr rfl)) (hd : (x == ("__debug__" : Str)) = false := by decide)
    (hcd : (x == ("__classdict__" : Str)) = false := by decide) : DH X (.Name x pos) (hV i) := by
  refine ⟨tVar i, pe_var hN hv hd hcd, fun σ H ρ l Q r ρ' hl hi hf q => ?_⟩
  unfold hV at hf
  split at hf
  · cases hf
  · rename_i d hd e
    cases hf
    obtain ⟨v, hv⟩ := slot_val hi hl e hd
    exact ⟨v, hv, q v H rfl hv hi⟩
  · cases hf
/-- a name's value: what it owned is frozen -/
def eV (i : Nat) : Ev → Option (D × Ev) := fun ρ => match ρ[i]? with
  | some .any => none
  | some d => if d.frz = true then some (d, ρ) else some (d.fz, ρ.set i d.fz)
  | none => none
theorem de_var (i : Nat) {x : Str} {pos : Pos} (hN : X.N[i]? = some x := by rfl) (hv : Vis X.env.scope x := by first | exact Or.inl rfl | exact Or.inr (Or.inl rfl) | exact Or.inr (Or.inr rfl)) (hd : (x == ("__debug__" : Str)) = false := by decide)
    (hcd : (x == ("__classdict__" : Str)) = false := by decide) : DE X (.Name x pos) (eV i) := by
  refine ⟨tVar i, pe_var hN hv hd hcd, fun σ H ρ l Q r ρ' hl hi hf q => ?_⟩
  unfold eV at hf
  split at hf
  · cases hf
  · rename_i d hd e
    obtain ⟨v, hv⟩ := slot_val hi hl e hd
    refine ⟨v, hv, ?_⟩
    split at hf
    · rename_i z
      cases hf
      exact q v H rfl (hi.dup (List.mem_append_left _ (zip_mem hv e)) z)
    · cases hf
      obtain ⟨A, B, h1, h2⟩ := hi.slot hv e
      have h3 := h2 [] H l d.fz h1.freeze
      have e' : (ρ.set i d.fz)[i]? = some d.fz := by
        have : i < ρ.length := (List.getElem?_eq_some_iff.mp e).1
        rw [List.getElem?_set_self this]
      exact q v H (by simp) (h3.dup (List.mem_append_left _ (zip_mem hv e')) (D.frz_fz d))
  · cases hf
/-- a name's value, the name not used again -/
def eM (i : Nat) : Ev → Option (D × Ev) := fun ρ => match ρ[i]? with
  | some .any => none
  | some d => some (d, ρ.set i .any)
  | none => none
theorem de_mov (i : Nat) {x : Str} {pos : Pos} (hN : X.N[i]? = some x := by rfl) (hv : Vis X.env.scope x := by first | exact Or.inl rfl | exact Or.inr (Or.inl rfl) | exact Or.inr (Or.inr rfl)) (hd : (x == ("__debug__" : Str)) = false := by decide)
    (hcd : (x == ("__classdict__" : Str)) = false := by decide) : DE X (.Name x pos) (eM i) := by
  refine ⟨tVar i, pe_var hN hv hd hcd, fun σ H ρ l Q r ρ' hl hi hf q => ?_⟩
  unfold eM at hf
  split at hf
  · cases hf
  · rename_i d hd e
    obtain ⟨v, hv⟩ := slot_val hi hl e hd
    refine ⟨v, hv, ?_⟩
    cases hf
    obtain ⟨A, B, h1, h2⟩ := hi.slot hv e
    refine q v H (by simp) ?_
    have h3 := h2 [] H ((some v, r) :: l) .any
    have h4 : Items X.K [] H ((some v, D.any) :: (A ++ B ++ ((some v, r) :: l))) := by
      have h5 : Items X.K [] H ((some v, D.any) :: ((some v, r) :: (A ++ B ++ l))) := h1.blank
      refine h5.perm (.cons _ ?_)
      exact List.perm_middle.symm
    refine (h3 h4).perm ?_
    exact List.perm_middle
  · cases hf
def eC (d : D) : Ev → Option (D × Ev) := fun ρ => some (d, ρ)
theorem de_const {e : Expr} {v : V} {d : D} (h : PE X e (tC v)) (z : d.frz = true) (hz : ∀ G, Fz X.K G d v) : DE X e (eC d) :=
  ⟨tC v, h, fun σ H ρ l Q r ρ' hl hi hf q => by
    cases hf
    exact q v H rfl (hi.add z fun G _ => hz G)⟩
theorem de_int {i j pos} : DE X (.Constant (.int i) j pos) (eC (.int i)) := de_const pe_int rfl fun _ => rfl
theorem de_bl {b j pos} : DE X (.Constant (.bool b) j pos) (eC (.bl b)) := de_const pe_bl rfl fun _ => rfl
theorem de_non {j pos} : DE X (.Constant .none j pos) (eC .non) := de_const pe_non rfl fun _ => rfl
theorem de_str {x j pos} : DE X (.Constant (.str x) j pos) (eC (.str x)) := de_const pe_str rfl fun _ => rfl

theorem mem_hd {h : Hd} {v : V} {ρ : Ev} {l : List Itm} {σ : Sl} {hl : σ.length = ρ.length} {H : Hp} (ha : h.at' σ v) (hi : Items X.K [] H (h.its v ++ (σ.zip ρ ++ l))) :
    (some v, h.get ρ) ∈ h.its v ++ (σ.zip ρ ++ l) := by
  cases h with
  | tm d => simp [Hd.its, Hd.get]
  | sl i =>
    have h1 : σ[i]? = some (some v) := ha
    have h2 : i < ρ.length := by
      have := (List.getElem?_eq_some_iff.mp h1).1
      omega
    have h3 : ρ[i]? = some ρ[i] := List.getElem?_eq_getElem h2
    simp only [Hd.its, Hd.get, List.nil_append, getD_of h3]
    exact List.mem_append_left _ (zip_mem h1 h3)

/-- what an operation on two values makes of their data -/
def Op2 (K : Frg) (r : R2) (g : D → D → Option D) : Prop := ∀ (x y : V) (H : Hp) (dx dy : D) (l : List Itm) (Q : VK) (d : D), Items K [] H l → (some x, dx) ∈ l → (some y, dy) ∈ l → g dx dy = some d →
  (∀ v H', Items K [] H' ((some v, d) :: l) → Q v H') → r x y H Q
def e2 (g : D → D → Option D) (fa fb : Ev → Option (Hd × Ev)) : Ev → Option (D × Ev) := fun ρ => (fa ρ).bind fun p => (fb p.2).bind fun q => (g (p.1.get q.2) (q.1.get q.2)).map fun d => (d, q.2)
theorem two {a b : Expr} {fa fb : Ev → Option (Hd × Ev)} {g : D → D → Option D} {r : R2} (hg : Op2 X.K r g) (ha : DH X a fa) (hb : DH X b fb) :
    ∃ ta tb, PE X a ta ∧ PE X b tb ∧ ∀ (σ : Sl) (H : Hp) (ρ : Ev) (l : List Itm) (Q : VK) (d : D) (ρ' : Ev), σ.length = ρ.length → Items X.K [] H (σ.zip ρ ++ l) → e2 g fa fb ρ = some (d, ρ') →
      (∀ v H', ρ'.length = ρ.length → Items X.K [] H' ((some v, d) :: (σ.zip ρ' ++ l)) → Q v H') → tOp r ta tb σ H Q := by
  obtain ⟨ta, pa, ka⟩ := ha.ex
  obtain ⟨tb, pb, kb⟩ := hb.ex
  refine ⟨ta, tb, pa, pb, fun σ H ρ l Q d ρ' hl hi hf q => ?_⟩
  obtain ⟨⟨h1, ρ1⟩, e1, hf⟩ := Option.bind_eq_some_iff.mp hf
  obtain ⟨⟨h2, ρ2⟩, e2, hf⟩ := Option.bind_eq_some_iff.mp hf
  obtain ⟨d', e3, hf⟩ := Option.map_eq_some_iff.mp hf
  cases hf
  refine ka σ H ρ l _ h1 ρ1 hl hi e1 fun v1 H1 l1 a1 i1 => ?_
  have i1' : Items X.K [] H1 (σ.zip ρ1 ++ (h1.its v1 ++ l)) := i1.perm (by
    rw [← List.append_assoc, ← List.append_assoc]
    exact List.Perm.append_right l List.perm_append_comm)
  refine kb σ H1 ρ1 _ _ h2 ρ2 (by omega) i1' e2 fun v2 H2 l2 a2 i2 => ?_
  have m2 := mem_hd (X := X) (hl := by omega) a2 i2
  have i2' : Items X.K [] H2 (h1.its v1 ++ (σ.zip ρ2 ++ (h2.its v2 ++ l))) := i2.perm (by
    have p1 : (h2.its v2 ++ (σ.zip ρ2 ++ (h1.its v1 ++ l))).Perm ((σ.zip ρ2 ++ (h1.its v1 ++ l)) ++ h2.its v2) := List.perm_append_comm
    refine p1.trans ?_
    have p2 : (σ.zip ρ2 ++ (h1.its v1 ++ l)).Perm (h1.its v1 ++ (σ.zip ρ2 ++ l)) := by
      rw [← List.append_assoc, ← List.append_assoc]
      exact List.Perm.append_right l List.perm_append_comm
    refine (List.Perm.append_right _ p2).trans ?_
    simp only [List.append_assoc]
    exact List.Perm.append_left _ (List.Perm.append_left _ List.perm_append_comm))
  have m1 := mem_hd (X := X) (hl := by omega) a1 i2'
  have m1' : (some v1, h1.get ρ2) ∈ h2.its v2 ++ (σ.zip ρ2 ++ (h1.its v1 ++ l)) := by
    simp only [List.mem_append] at m1 ⊢
    rcases m1 with m | m | m | m
    · exact .inr (.inr (.inl m))
    · exact .inr (.inl m)
    · exact .inl m
    · exact .inr (.inr (.inr m))
  refine hg v1 v2 H2 _ _ _ Q _ i2 m1' m2 e3 fun v H3 i3 => ?_
  refine q v H3 (by show ρ2.length = ρ.length; omega) (i3.sub ⟨h2.its v2 ++ h1.its v1, ?_⟩)
  have p3 : (h2.its v2 ++ (σ.zip ρ2 ++ (h1.its v1 ++ l))).Perm ((h2.its v2 ++ h1.its v1) ++ (σ.zip ρ2 ++ l)) := by
    rw [List.append_assoc]
    refine List.Perm.append_left _ ?_
    rw [← List.append_assoc, ← List.append_assoc]
    exact List.Perm.append_right l List.perm_append_comm
  exact (List.Perm.cons _ p3).trans List.perm_middle.symm
theorem de_op {a b : Expr} {op : Operator} {fa fb : Ev → Option (Hd × Ev)} {g : D → D → Option D} {r : R2} {pos : Pos} (ho : OpR X (binaryOp op) r) (hg : Op2 X.K r g) (ha : DH X a fa) (hb : DH X b fb) : DE X (.BinOp a op b pos) (e2 g fa fb) := by
  obtain ⟨ta, tb, pa, pb, k⟩ := two hg ha hb
  exact ⟨_, pe_op ho pa pb, k⟩
theorem de_cmp {a b : Expr} {op : CmpOp} {fa fb : Ev → Option (Hd × Ev)} {g : D → D → Option D} {r : R2} {pos : Pos} (ho : OpR X (compareOp op) r) (hg : Op2 X.K r g) (ha : DH X a fa) (hb : DH X b fb)
    (hm : behindInMarks op b = false) : DE X (.Compare a [op] [b] pos) (e2 g fa fb) := by
  obtain ⟨ta, tb, pa, pb, k⟩ := two hg ha hb
  exact ⟨_, pe_cmpR ho pa pb hm, k⟩
theorem de_ix {a b : Expr} {fa fb : Ev → Option (Hd × Ev)} {g : D → D → Option D} {r : R2} {pos : Pos} (ho : IxR X r) (hg : Op2 X.K r g) (ha : DH X a fa) (hb : DH X b fb)
    (hs : PlainIx b) : DE X (.Subscript a b pos) (e2 g fa fb) := by
  obtain ⟨ta, tb, pa, pb, k⟩ := two hg ha hb
  exact ⟨_, pe_ix ho pa pb hs, k⟩
/-- the bool that a value is -/
def tB' (f : Ev → Option (D × Ev)) : Ev → Option (Bool × Ev) := fun ρ => (f ρ).bind fun p => match p.1 with
  | .bl b => some (b, p.2)
  | _ => none
theorem dt_cmp {a b : Expr} {op : CmpOp} {fa fb : Ev → Option (Hd × Ev)} {g : D → D → Option D} {r : R2} {pos : Pos} (ho : OpR X (compareOp op) r) (hg : Op2 X.K r g) (ha : DH X a fa) (hb : DH X b fb)
    (hm : behindInMarks op b = false) : DT X (.Compare a [op] [b] pos) (tB' (e2 g fa fb)) := by
  obtain ⟨ta, tb, pa, pb, k⟩ := two hg ha hb
  refine ⟨_, pt_cmpR ho pa pb hm, fun σ H ρ l Q c ρ' hl hi hf q => ?_⟩
  obtain ⟨⟨d, ρ1⟩, e1, hf⟩ := Option.bind_eq_some_iff.mp hf
  cases d with
  | bl b' =>
    cases hf
    refine k σ H ρ l _ _ _ hl hi e1 fun v H' hl' hi' => ?_
    have hv : v = .bl c := hi'.view (List.mem_cons_self)
    subst hv
    exact ⟨c, rfl, q H' hl' hi'.tail⟩
  | _ => cases hf
end
end Mv
end
section
set_option Elab.async false
set_option linter.all false
set_option maxRecDepth 100000
/-! Judgements, second part: tests, arguments, calls, statements, loops, defs. -/
namespace Mv
open PySem PySem.Spec PyProof.Rows L2

theorem perm_mid {A B C : List Itm} : (A ++ (B ++ C)).Perm (B ++ (A ++ C)) := by
  rw [← List.append_assoc, ← List.append_assoc]
  exact List.Perm.append_right C List.perm_append_comm
section
variable {X : Cx}
/-! ### truth -/
def D.tru : D → Option Bool
  | .non => some false
  | .bl b => some b
  | .int i => some (i != 0)
  | .str y => if y.length ≤ sizeLine then some ((y.length : Int) != 0) else none
  | .lst _ xs => some (!xs.isEmpty)
  | .tup xs => some (!xs.isEmpty)
  | .cst xs => some (!xs.isEmpty)
  | _ => none
theorem isEmpty_len {α β : Type} {xs : List α} {ys : List β} (h : xs.length = ys.length) : xs.isEmpty = ys.isEmpty := by
  cases xs <;> cases ys <;> simp at h ⊢
theorem tru_of {K : Frg} {E : List Addr} {H : Hp} {l : List Itm} {v : V} {d : D} {b : Bool} (hi : Items K E H l) (hm : (some v, d) ∈ l) (h : d.tru = some b) : TruV K v H b := by
  have hz := hi.view hm
  cases d with
  | non => cases hz; cases h; rfl
  | bl c => cases hz; cases h; rfl
  | int i => cases hz; cases h; rfl
  | str y =>
    cases hz
    replace h : (if y.length ≤ sizeLine then some ((y.length : Int) != 0) else none) = some b := h
    split at h
    · rename_i k
      cases h
      exact ⟨k, rfl⟩
    · cases h
  | lst o xs =>
    obtain ⟨a, ys, rfl, hs, hl⟩ := hz
    cases h
    exact .inl ⟨ys, SqL.of hs, by rw [isEmpty_len hl.length]⟩
  | tup xs =>
    obtain ⟨a, ys, rfl, hs, hl⟩ := hz
    cases h
    exact .inr (.inl ⟨ys, hs, by rw [isEmpty_len hl.length]⟩)
  | cst xs =>
    obtain ⟨a, ys, rfl, hs, hl⟩ := hz
    cases h
    exact .inl ⟨ys, hs, by rw [isEmpty_len hl.length]⟩
  | any => cases h
  | rng _ _ => cases h
  | ty _ => cases h
  | obj _ => cases h
def tT (f : Ev → Option (Hd × Ev)) : Ev → Option (Bool × Ev) := fun ρ => (f ρ).bind fun p => ((p.1.get p.2).tru).map fun b => (b, p.2)
theorem dt_truth {e : Expr} {f : Ev → Option (Hd × Ev)} (h : DH X e f) (he : ∀ whole, isTrue e X.env whole = (do let v ← whole; standAt e.pos; holding [v] (truthy v)) := by exact fun _ => rfl) : DT X e (tT f) := by
  obtain ⟨t, ht, k⟩ := h.ex
  refine ⟨_, pt_truth ht he, fun σ H ρ l Q r ρ' hl hi hf q => ?_⟩
  obtain ⟨⟨hd, ρ1⟩, e1, hf⟩ := Option.bind_eq_some_iff.mp hf
  obtain ⟨b, e2, hf⟩ := Option.map_eq_some_iff.mp hf
  cases hf
  refine k σ H ρ l _ hd _ hl hi e1 fun v H' hl' ha hi' => ?_
  exact ⟨r, tru_of hi' (mem_hd (X := X) (hl := by omega) ha hi') e2, q H' hl' hi'.drop⟩
def tNo (f : Ev → Option (Bool × Ev)) : Ev → Option (Bool × Ev) := fun ρ => (f ρ).map fun p => (!p.1, p.2)
theorem dt_not {a : Expr} {pos : Pos} {f : Ev → Option (Bool × Ev)} (h : DT X a f) : DT X (.UnaryOp .Not a pos) (tNo f) := by
  obtain ⟨t, ht, k⟩ := h.ex
  refine ⟨_, pt_not ht, fun σ H ρ l Q r ρ' hl hi hf q => ?_⟩
  obtain ⟨⟨b, ρ1⟩, e1, hf⟩ := Option.map_eq_some_iff.mp hf
  cases hf
  exact k σ H ρ l _ b _ hl hi e1 fun H' hl' hi' => q H' hl' hi'
theorem dt_w {e : Expr} {f : Ev → Option (Bool × Ev)} (h : DW X e f) : DT X e f := by
  obtain ⟨t, ht, k⟩ := h.ex
  exact ⟨t, ht.pt, k⟩
theorem dw_and1 {a : Expr} {pos : Pos} {f : Ev → Option (Bool × Ev)} (h : DT X a f) : DW X (.BoolOp .And [a] pos) f := by
  obtain ⟨t, ht, k⟩ := h.ex
  exact ⟨t, pw_and1 ht, k⟩
theorem dw_or1 {a : Expr} {pos : Pos} {f : Ev → Option (Bool × Ev)} (h : DT X a f) : DW X (.BoolOp .Or [a] pos) f := by
  obtain ⟨t, ht, k⟩ := h.ex
  exact ⟨t, pw_or1 ht, k⟩
def tAn (f g : Ev → Option (Bool × Ev)) : Ev → Option (Bool × Ev) := fun ρ => (f ρ).bind fun p => if p.1 = true then g p.2 else some (false, p.2)
def tOr' (f g : Ev → Option (Bool × Ev)) : Ev → Option (Bool × Ev) := fun ρ => (f ρ).bind fun p => if p.1 = true then some (true, p.2) else g p.2
theorem dw_and {a b : Expr} {rest : List Expr} {pos : Pos} {f g : Ev → Option (Bool × Ev)} (h : DT X a f) (h' : DW X (.BoolOp .And (b :: rest) pos) g) : DW X (.BoolOp .And (a :: b :: rest) pos) (tAn f g) := by
  obtain ⟨t, ht, k⟩ := h.ex
  obtain ⟨t', ht', k'⟩ := h'.ex
  refine ⟨_, pw_and ht ht', fun σ H ρ l Q r ρ' hl hi hf q => ?_⟩
  obtain ⟨⟨b, ρ1⟩, e1, hf⟩ := Option.bind_eq_some_iff.mp hf
  refine k σ H ρ l _ b ρ1 hl hi e1 fun H' hl' hi' => ?_
  cases b with
  | true =>
    rw [if_pos rfl] at hf
    rw [if_pos rfl]
    exact k' σ H' ρ1 l Q r ρ' (by omega) hi' hf fun H2 l2 i2 => q H2 (by omega) i2
  | false =>
    rw [if_neg Bool.false_ne_true] at hf
    rw [if_neg Bool.false_ne_true]
    cases hf
    exact q H' hl' hi'
theorem dw_or {a b : Expr} {rest : List Expr} {pos : Pos} {f g : Ev → Option (Bool × Ev)} (h : DT X a f) (h' : DW X (.BoolOp .Or (b :: rest) pos) g) : DW X (.BoolOp .Or (a :: b :: rest) pos) (tOr' f g) := by
  obtain ⟨t, ht, k⟩ := h.ex
  obtain ⟨t', ht', k'⟩ := h'.ex
  refine ⟨_, pw_or ht ht', fun σ H ρ l Q r ρ' hl hi hf q => ?_⟩
  obtain ⟨⟨b, ρ1⟩, e1, hf⟩ := Option.bind_eq_some_iff.mp hf
  refine k σ H ρ l _ b ρ1 hl hi e1 fun H' hl' hi' => ?_
  cases b with
  | false =>
    rw [if_neg Bool.false_ne_true] at hf
    rw [if_neg Bool.false_ne_true]
    exact k' σ H' ρ1 l Q r ρ' (by omega) hi' hf fun H2 l2 i2 => q H2 (by omega) i2
  | true =>
    rw [if_pos rfl] at hf
    rw [if_pos rfl]
    cases hf
    exact q H' hl' hi'
/-! ### and, or, not, if as values -/
def eAn (f g : Ev → Option (D × Ev)) : Ev → Option (D × Ev) := fun ρ => (f ρ).bind fun p => p.1.tru.bind fun b => if b = true then g p.2 else some p
def eOr (f g : Ev → Option (D × Ev)) : Ev → Option (D × Ev) := fun ρ => (f ρ).bind fun p => p.1.tru.bind fun b => if b = true then some p else g p.2
def eNo (f : Ev → Option (D × Ev)) : Ev → Option (D × Ev) := fun ρ => (f ρ).bind fun p => p.1.tru.map fun b => (.bl (!b), p.2)
theorem de_one {a : Expr} {op} {pos : Pos} {f : Ev → Option (D × Ev)} (h : DE X a f) : DE X (.BoolOp op [a] pos) f := by
  obtain ⟨t, ht, k⟩ := h.ex
  exact ⟨t, pe_one ht, k⟩
theorem de_and {a b : Expr} {rest : List Expr} {pos : Pos} {f g : Ev → Option (D × Ev)} (h : DE X a f) (h' : DE X (.BoolOp .And (b :: rest) pos) g) : DE X (.BoolOp .And (a :: b :: rest) pos) (eAn f g) := by
  obtain ⟨t, ht, k⟩ := h.ex
  obtain ⟨t', ht', k'⟩ := h'.ex
  refine ⟨_, pe_andT ht ht', fun σ H ρ l Q r ρ' hl hi hf q => ?_⟩
  obtain ⟨⟨x, ρ1⟩, e1, hf⟩ := Option.bind_eq_some_iff.mp hf
  obtain ⟨b, e2, hf⟩ := Option.bind_eq_some_iff.mp hf
  refine k σ H ρ l _ x ρ1 hl hi e1 fun v H' hl' hi' => ⟨b, tru_of hi' (List.mem_cons_self) e2, ?_⟩
  cases b with
  | true =>
    rw [if_pos rfl] at hf
    rw [if_pos rfl]
    exact k' σ H' ρ1 l Q r ρ' (by omega) hi'.tail hf fun v H2 l2 i2 => q v H2 (by omega) i2
  | false =>
    rw [if_neg Bool.false_ne_true] at hf
    rw [if_neg Bool.false_ne_true]
    cases hf
    exact q v H' hl' hi'
theorem de_or {a b : Expr} {rest : List Expr} {pos : Pos} {f g : Ev → Option (D × Ev)} (h : DE X a f) (h' : DE X (.BoolOp .Or (b :: rest) pos) g) : DE X (.BoolOp .Or (a :: b :: rest) pos) (eOr f g) := by
  obtain ⟨t, ht, k⟩ := h.ex
  obtain ⟨t', ht', k'⟩ := h'.ex
  refine ⟨_, pe_orT ht ht', fun σ H ρ l Q r ρ' hl hi hf q => ?_⟩
  obtain ⟨⟨x, ρ1⟩, e1, hf⟩ := Option.bind_eq_some_iff.mp hf
  obtain ⟨b, e2, hf⟩ := Option.bind_eq_some_iff.mp hf
  refine k σ H ρ l _ x ρ1 hl hi e1 fun v H' hl' hi' => ⟨b, tru_of hi' (List.mem_cons_self) e2, ?_⟩
  cases b with
  | false =>
    rw [if_neg Bool.false_ne_true] at hf
    rw [if_neg Bool.false_ne_true]
    exact k' σ H' ρ1 l Q r ρ' (by omega) hi'.tail hf fun v H2 l2 i2 => q v H2 (by omega) i2
  | true =>
    rw [if_pos rfl] at hf
    rw [if_pos rfl]
    cases hf
    exact q v H' hl' hi'
theorem de_not {a : Expr} {pos : Pos} {f : Ev → Option (D × Ev)} (h : DE X a f) : DE X (.UnaryOp .Not a pos) (eNo f) := by
  obtain ⟨t, ht, k⟩ := h.ex
  refine ⟨_, pe_notT ht, fun σ H ρ l Q r ρ' hl hi hf q => ?_⟩
  obtain ⟨⟨x, ρ1⟩, e1, hf⟩ := Option.bind_eq_some_iff.mp hf
  obtain ⟨b, e2, hf⟩ := Option.map_eq_some_iff.mp hf
  cases hf
  exact k σ H ρ l _ x _ hl hi e1 fun v H' hl' hi' => ⟨b, tru_of hi' (List.mem_cons_self) e2, q _ H' hl' (hi'.tail.add (d := .bl (!b)) rfl fun _ _ => rfl)⟩
def eIf (c : Ev → Option (Bool × Ev)) (f g : Ev → Option (D × Ev)) : Ev → Option (D × Ev) := fun ρ => (c ρ).bind fun p => if p.1 = true then f p.2 else g p.2
theorem de_if {c a b : Expr} {pos : Pos} {fc : Ev → Option (Bool × Ev)} {f g : Ev → Option (D × Ev)} (hc : DT X c fc) (ha : DE X a f) (hb : DE X b g) : DE X (.IfExp c a b pos) (eIf fc f g) := by
  obtain ⟨t, ht, k⟩ := hc.ex
  obtain ⟨ta, pa, ka⟩ := ha.ex
  obtain ⟨tb, pb, kb⟩ := hb.ex
  refine ⟨_, pe_ifExp ht pa pb, fun σ H ρ l Q r ρ' hl hi hf q => ?_⟩
  obtain ⟨⟨x, ρ1⟩, e1, hf⟩ := Option.bind_eq_some_iff.mp hf
  refine k σ H ρ l _ x ρ1 hl hi e1 fun H' hl' hi' => ?_
  cases x with
  | true =>
    rw [if_pos rfl] at hf
    rw [if_pos rfl]
    exact ka σ H' ρ1 l Q r ρ' (by omega) hi' hf fun v H2 l2 i2 => q v H2 (by omega) i2
  | false =>
    rw [if_neg Bool.false_ne_true] at hf
    rw [if_neg Bool.false_ne_true]
    exact kb σ H' ρ1 l Q r ρ' (by omega) hi' hf fun v H2 l2 i2 => q v H2 (by omega) i2
/-- one operand -/
def Op1 (K : Frg) (r : V → Hp → VK → Prop) (g : D → Option D) : Prop := ∀ (x : V) (H : Hp) (dx : D) (l : List Itm) (Q : VK) (d : D), Items K [] H l → (some x, dx) ∈ l → g dx = some d →
  (∀ v H', Items K [] H' ((some v, d) :: l) → Q v H') → r x H Q
def e1 (g : D → Option D) (fa : Ev → Option (Hd × Ev)) : Ev → Option (D × Ev) := fun ρ => (fa ρ).bind fun p => (g (p.1.get p.2)).map fun d => (d, p.2)
theorem de_un {a : Expr} {op : UnaryOp} {pos : Pos} {r : V → Hp → VK → Prop} {g : D → Option D} {fa : Ev → Option (Hd × Ev)} (ho : UnR X (unaryOp op) r) (hg : Op1 X.K r g) (ha : DH X a fa) : DE X (.UnaryOp op a pos) (e1 g fa) := by
  obtain ⟨t, ht, k⟩ := ha.ex
  refine ⟨_, pe_un ho ht, fun σ H ρ l Q d ρ' hl hi hf q => ?_⟩
  obtain ⟨⟨h, ρ1⟩, e1, hf⟩ := Option.bind_eq_some_iff.mp hf
  obtain ⟨b, e2, hf⟩ := Option.map_eq_some_iff.mp hf
  cases hf
  refine k σ H ρ l _ h _ hl hi e1 fun v H' hl' ha hi' => ?_
  refine hg v H' _ _ Q _ hi' (mem_hd (X := X) (hl := by omega) ha hi') e2 fun v2 H2 i2 => q v2 H2 hl' (i2.sub ⟨h.its v, List.perm_middle.symm⟩)

/-! ### arguments, displays -/
def aNil : Ev → Option (List Hd × Ev) := fun ρ => some ([], ρ)
def aCons (f : Ev → Option (Hd × Ev)) (g : Ev → Option (List Hd × Ev)) : Ev → Option (List Hd × Ev) := fun ρ => (f ρ).bind fun p => (g p.2).map fun q => (p.1 :: q.1, q.2)
theorem da_nil : DA X [] aNil := ⟨tNil, pa_nil, fun σ H ρ l Q r ρ' hl hi hf q => by cases hf; exact q [] H rfl trivial hi⟩
theorem da_cons {e : Expr} {es : List Expr} {f : Ev → Option (Hd × Ev)} {g : Ev → Option (List Hd × Ev)} (h : DH X e f) (h' : DA X es g) (hs : starEach (e :: es) X.env = (false, eval e X.env) :: starEach es X.env := by rfl) : DA X (e :: es) (aCons f g) := by
  obtain ⟨t, ht, k⟩ := h.ex
  obtain ⟨t', ht', k'⟩ := h'.ex
  refine ⟨_, pa_cons ht ht' hs, fun σ H ρ l Q r ρ' hl hi hf q => ?_⟩
  obtain ⟨⟨hd, ρ1⟩, e1, hf⟩ := Option.bind_eq_some_iff.mp hf
  obtain ⟨⟨hds, ρ2⟩, e2, hf⟩ := Option.map_eq_some_iff.mp hf
  cases hf
  refine k σ H ρ l _ hd ρ1 hl hi e1 fun v H1 l1 a1 i1 => ?_
  refine k' σ H1 ρ1 (hd.its v ++ l) _ hds _ (by omega) (i1.perm perm_mid) e2 fun vs H2 l2 a2 i2 => ?_
  refine q (v :: vs) H2 (by show _ = _; simp only at l1 l2 ⊢; omega) ⟨a1, a2⟩ (i2.perm ?_)
  show List.Perm _ ((hd.its v ++ hits hds vs) ++ _)
  rw [List.append_assoc]
  refine List.Perm.trans (List.Perm.append_left _ perm_mid) perm_mid
theorem da_zero {f : Ev → Option (List Hd × Ev)} : True := trivial

/-! ### values taken over: all into the frozen or as they are -/
/-- the arguments given over (out of the slots where they were owned) -/
def lend : List Hd → Ev → List D × Ev
  | [], ρ => ([], ρ)
  | .tm d :: hs, ρ => (d :: (lend hs ρ).1, (lend hs ρ).2)
  | .sl i :: hs, ρ => if (ρ.getD i .any).frz = true then ((ρ.getD i .any) :: (lend hs ρ).1, (lend hs ρ).2) else ((ρ.getD i .any) :: (lend hs (ρ.set i .any)).1, (lend hs (ρ.set i .any)).2)
def unlend : List Hd → List D → List D → Ev → Ev
  | .tm _ :: hs, _ :: ds, _ :: bs, ρ => unlend hs ds bs ρ
  | .sl i :: hs, d :: ds, b :: bs, ρ => if d.frz = true then unlend hs ds bs ρ else unlend hs ds bs (ρ.set i b)
  | _, _, _, ρ => ρ
theorem lend_len : ∀ (hs : List Hd) (ρ : Ev), (lend hs ρ).2.length = ρ.length ∧ (lend hs ρ).1.length = hs.length
  | [], ρ => ⟨rfl, rfl⟩
  | .tm d :: hs, ρ => by
    obtain ⟨h1, h2⟩ := lend_len hs ρ
    exact ⟨h1, by show (lend hs ρ).1.length + 1 = _; rw [h2]; rfl⟩
  | .sl i :: hs, ρ => by
    unfold lend
    split
    · obtain ⟨h1, h2⟩ := lend_len hs ρ
      exact ⟨h1, by show (lend hs ρ).1.length + 1 = _; rw [h2]; rfl⟩
    · obtain ⟨h1, h2⟩ := lend_len hs (ρ.set i .any)
      exact ⟨by show (lend hs (ρ.set i .any)).2.length = _; rw [h1]; simp, by show (lend hs (ρ.set i .any)).1.length + 1 = _; rw [h2]; rfl⟩
theorem unlend_len : ∀ (hs : List Hd) (ds bs : List D) (ρ : Ev), (unlend hs ds bs ρ).length = ρ.length := by
  intro hs
  induction hs with
  | nil => intro ds bs ρ; unfold unlend; rfl
  | cons h hs ih =>
    intro ds bs ρ
    cases ds with
    | nil => cases h <;> (unfold unlend; rfl)
    | cons d ds =>
      cases bs with
      | nil => cases h <;> (unfold unlend; rfl)
      | cons b bs =>
        cases h with
        | tm _ => unfold unlend; exact ih _ _ _
        | sl i =>
          unfold unlend
          split
          · exact ih _ _ _
          · rw [ih]; simp
theorem hats_len : ∀ {hs : List Hd} {vs : List V} {σ : Sl}, hats σ hs vs → vs.length = hs.length
  | [], [], _, _ => rfl
  | [], _ :: _, _, h => h.elim
  | _ :: _, [], _, h => h.elim
  | _ :: hs, _ :: vs, _, h => by simp [hats_len h.2]
theorem lend_items {K : Frg} {H : Hp} {σ : Sl} : ∀ {hs : List Hd} {vs : List V} {ρ : Ev} {l : List Itm}, σ.length = ρ.length → hats σ hs vs → Items K [] H (hits hs vs ++ (σ.zip ρ ++ l)) →
    Items K [] H (prs vs (lend hs ρ).1 ++ (σ.zip (lend hs ρ).2 ++ l))
  | [], [], _, _, _, _, h => h
  | [], _ :: _, _, _, _, h, _ => h.elim
  | _ :: _, [], _, _, _, h, _ => h.elim
  | .tm d :: hs, v :: vs, ρ, l, hl, ha, hi => by
    have h1 : Items K [] H ((some v, d) :: (hits hs vs ++ (σ.zip ρ ++ l))) := hi
    have h2 : Items K [] H (hits hs vs ++ (σ.zip ρ ++ ((some v, d) :: l))) := h1.perm (by
      refine List.Perm.trans List.perm_middle.symm ?_
      exact List.Perm.append_left _ List.perm_middle.symm)
    have h3 := lend_items hl ha.2 h2
    exact h3.perm (by
      refine List.Perm.trans (List.Perm.append_left _ List.perm_middle) ?_
      exact List.perm_middle)
  | .sl i :: hs, v :: vs, ρ, l, hl, ha, hi => by
    have h1 : σ[i]? = some (some v) := ha.1
    have h2 : i < ρ.length := by
      have := (List.getElem?_eq_some_iff.mp h1).1
      omega
    have h3 : ρ[i]? = some ρ[i] := List.getElem?_eq_getElem h2
    have h4 : ρ.getD i .any = ρ[i] := getD_of h3
    have hi' : Items K [] H (hits hs vs ++ (σ.zip ρ ++ l)) := hi
    unfold lend
    rw [h4]
    split
    · rename_i z
      have m : (some v, ρ[i]) ∈ hits hs vs ++ (σ.zip ρ ++ l) := List.mem_append_right _ (List.mem_append_left _ (zip_mem h1 h3))
      have h5 : Items K [] H (hits hs vs ++ (σ.zip ρ ++ ((some v, ρ[i]) :: l))) := (hi'.dup m z).perm (by
        refine List.Perm.trans List.perm_middle.symm ?_
        exact List.Perm.append_left _ List.perm_middle.symm)
      have h6 := lend_items hl ha.2 h5
      exact h6.perm (by
        refine List.Perm.trans (List.Perm.append_left _ List.perm_middle) ?_
        exact List.perm_middle)
    · have h5 : Items K [] H (σ.zip ρ ++ (hits hs vs ++ l)) := hi'.perm perm_mid
      obtain ⟨A, B, k1, k2⟩ := h5.slot h1 h3
      have k3 : Items K [] H ((some v, D.any) :: (A ++ B ++ ((some v, ρ[i]) :: (hits hs vs ++ l)))) := (k1.blank (o := some v)).perm (.cons _ List.perm_middle.symm)
      have k4 := k2 [] H _ .any k3
      have k5 : Items K [] H (hits hs vs ++ (σ.zip (ρ.set i .any) ++ ((some v, ρ[i]) :: l))) := k4.perm (by
        refine List.Perm.trans (List.Perm.append_left _ List.perm_middle.symm) ?_
        exact perm_mid)
      have h6 := lend_items (by simpa using hl) ha.2 k5
      exact h6.perm (by
        refine List.Perm.trans (List.Perm.append_left _ List.perm_middle) ?_
        exact List.perm_middle)
theorem unlend_items {K : Frg} {H : Hp} {σ : Sl} : ∀ {hs : List Hd} {vs : List V} {ds bs : List D} {ρ : Ev} {l : List Itm}, σ.length = ρ.length → hats σ hs vs → ds.length = hs.length → bs.length = hs.length → Items K [] H (prs vs bs ++ (σ.zip ρ ++ l)) →
    Items K [] H (σ.zip (unlend hs ds bs ρ) ++ l)
  | [], [], _, _, _, _, _, _, _, _, h => by unfold unlend; exact h.drop
  | [], _ :: _, _, _, _, _, _, h, _, _, _ => h.elim
  | _ :: _, [], _, _, _, _, _, h, _, _, _ => h.elim
  | _ :: _, _ :: _, [], _, _, _, _, _, h, _, _ => by simp at h
  | _ :: _, _ :: _, _ :: _, [], _, _, _, _, _, h, _ => by simp at h
  | .tm _ :: hs, v :: vs, d :: ds, b :: bs, ρ, l, hl, ha, e1, e2, hi => by
    unfold unlend
    exact unlend_items hl ha.2 (by simpa using e1) (by simpa using e2) (Items.tail (i := (some v, b)) hi)
  | .sl i :: hs, v :: vs, d :: ds, b :: bs, ρ, l, hl, ha, e1, e2, hi => by
    unfold unlend
    split
    · exact unlend_items hl ha.2 (by simpa using e1) (by simpa using e2) (Items.tail (i := (some v, b)) hi)
    · have h1 : σ[i]? = some (some v) := ha.1
      have h2 : i < ρ.length := by
        have := (List.getElem?_eq_some_iff.mp h1).1
        omega
      have h3 : ρ[i]? = some ρ[i] := List.getElem?_eq_getElem h2
      have hi' : Items K [] H ((some v, b) :: (prs vs bs ++ (σ.zip ρ ++ l))) := hi
      have h5 : Items K [] H (σ.zip ρ ++ ((some v, b) :: (prs vs bs ++ l))) := hi'.perm (by
        refine List.Perm.trans (.cons _ perm_mid) ?_
        exact List.perm_middle.symm)
      obtain ⟨A, B, k1, k2⟩ := h5.slot h1 h3
      have k3 : Items K [] H ((some v, b) :: (A ++ B ++ (prs vs bs ++ l))) := k1.tail.perm List.perm_middle
      have k4 := k2 [] H _ b k3
      exact unlend_items (by simpa using hl) ha.2 (by simpa using e1) (by simpa using e2) (k4.perm perm_mid)

/-! ### calls of the program's own defs -/
def dspec (K : Frg) (n : Nat) (F : List D → Option (D × List D)) : Sp := fun vs H Q _ => ∃ l ds r bs, vs.length = n ∧ ds.length = n ∧ Items K [] H (prs vs ds ++ l) ∧ F ds = some (r, bs) ∧
  ∀ v H', bs.length = n → Items K [] H' ((some v, r) :: (prs vs bs ++ l)) → Q v H'
structure FOk (P : Program) (w : World) (K : Frg) (mg : Str → Option Value) (base : Heap) (k : Nat) (x : Str) (ps : List Str) (F : List D → Option (D × List D)) : Prop where
  ex : ∃ f fd, mg x = some (.ref f) ∧ PySem.W.keepIn K (.ref f) = true ∧ Binds K fd ps [] ∧ (∃ oc od osl, K.lookup f = some ⟨oc, od, .func fd, osl⟩) ∧ FnOk P w K mg base CX0 k f fd ps (dspec K ps.length F)
theorem FOk.mono {P : Program} {w : World} {K : Frg} {mg : Str → Option Value} {base : Heap} {j k : Nat} {x : Str} {ps : List Str} {F : List D → Option (D × List D)} (h : FOk P w K mg base j x ps F) (hk : j ≤ k) : FOk P w K mg base k x ps F := by
  obtain ⟨f, fd, h1, h2, h3, h4, h5⟩ := h.ex
  exact ⟨f, fd, h1, h2, h3, h4, h5.mono hk⟩
def eCall (n : Nat) (F : List D → Option (D × List D)) (fa : Ev → Option (List Hd × Ev)) : Ev → Option (D × Ev) := fun ρ => (fa ρ).bind fun p =>
  if p.1.length = n then (F (lend p.1 p.2).1).map fun r => (r.1, unlend p.1 (lend p.1 p.2).1 r.2 (lend p.1 p.2).2) else none
theorem call_core {k n : Nat} {F : List D → Option (D × List D)} {K : Frg} {fa : Ev → Option (List Hd × Ev)} {es : List Expr} {t : TA}
    (ka : ∀ (σ : Sl) (H : Hp) (ρ : Ev) (l : List Itm) (Q : List V → Hp → Prop) (r : List Hd) (ρ' : Ev), σ.length = ρ.length → Items K [] H (σ.zip ρ ++ l) → fa ρ = some (r, ρ') →
    (∀ vs H', ρ'.length = ρ.length → hats σ r vs → Items K [] H' (hits r vs ++ (σ.zip ρ' ++ l)) → Q vs H') → t σ H Q)
    (σ : Sl) (H : Hp) (ρ : Ev) (l : List Itm) (Q : VK) (r : D) (ρ' : Ev) (hl : σ.length = ρ.length) (hi : Items K [] H (σ.zip ρ ++ l)) (hf : eCall n F fa ρ = some (r, ρ'))
    (q : ∀ v H', ρ'.length = ρ.length → Items K [] H' ((some v, r) :: (σ.zip ρ' ++ l)) → Q v H') : tCall (dspec K n F) [] E0 t σ H Q := by
  obtain ⟨⟨hds, ρ1⟩, e1, hf⟩ := Option.bind_eq_some_iff.mp hf
  replace hf : (if hds.length = n then (F (lend hds ρ1).1).map fun r => (r.1, unlend hds (lend hds ρ1).1 r.2 (lend hds ρ1).2) else none) = some (r, ρ') := hf
  split at hf
  · rename_i hn
    obtain ⟨⟨d, bs⟩, e2, hf⟩ := Option.map_eq_some_iff.mp hf
    cases hf
    refine ka σ H ρ l _ hds ρ1 hl hi e1 fun vs H1 l1 a1 i1 => ?_
    have hlen := hats_len a1
    obtain ⟨n1, n2⟩ := lend_len hds ρ1
    rw [List.append_nil]
    refine ⟨σ.zip (lend hds ρ1).2 ++ l, (lend hds ρ1).1, d, bs, by omega, by omega, lend_items (by omega) a1 i1, e2, fun v H2 lb i2 => ?_⟩
    refine q v H2 (by rw [unlend_len]; omega) ?_
    have i3 : Items K [] H2 (prs vs bs ++ (σ.zip (lend hds ρ1).2 ++ ((some v, d) :: l))) := i2.perm (by
      refine List.Perm.trans List.perm_middle.symm ?_
      exact List.Perm.append_left _ List.perm_middle.symm)
    exact (unlend_items (by omega) a1 n2 (by omega) i3).perm List.perm_middle
  · cases hf
theorem de_call {k n : Nat} {x : Str} {ps : List Str} {F : List D → Option (D × List D)} {p pos : Pos} {e : Expr} {es : List Expr} {fa : Ev → Option (List Hd × Ev)} (hF : FOk X.prog X.w X.K X.mg X.base k x ps F) (hr : Room k X.A) (hg : Gl X x) (ha : DA X (e :: es) fa)
    (hdb : (x == ("__debug__" : Str)) = false := by decide) (he : starEach (e :: es) X.env = (false, eval e X.env) :: starEach es X.env := by rfl) (hpl : (backTo pos (starEach es X.env)).any (·.1) = false := by rfl)
    (hn : ps.length = n := by rfl) : DE X (.Call (.Name x p) (e :: es) [] pos) (eCall n F fa) := by
  subst hn
  obtain ⟨f, fd, h1, h2, h3, h4, h5⟩ := hF.ex
  obtain ⟨t, ht, ka⟩ := ha.ex
  exact ⟨_, pe_call h5 hr hg h1 h2 h3 .nil pass0 ht hdb he hpl, fun σ H ρ l Q r ρ' hl hi hf q => call_core (k := k) (es := e :: es) ka σ H ρ l Q r ρ' hl hi hf q⟩
theorem de_call0 {k : Nat} {x : Str} {F : List D → Option (D × List D)} {p pos : Pos} (hF : FOk X.prog X.w X.K X.mg X.base k x [] F) (hr : Room k X.A) (hg : Gl X x) (hdb : (x == ("__debug__" : Str)) = false := by decide) :
    DE X (.Call (.Name x p) [] [] pos) (eCall 0 F aNil) := by
  obtain ⟨f, fd, h1, h2, h3, h4, h5⟩ := hF.ex
  obtain ⟨t, ht, ka⟩ := (da_nil (X := X)).ex
  refine ⟨_, pe_call0 h5 hr hg h1 h2 h3 .nil pass0 hdb, fun σ H ρ l Q r ρ' hl hi hf q => ?_⟩
  exact call_core (k := k) (es := []) (t := tNil) (fun σ H ρ l Q r ρ' hl hi hf q => by cases hf; exact q [] H rfl trivial hi) σ H ρ l Q r ρ' hl hi hf q

/-! ### calls of builtins -/
def OpN (K : Frg) (r : List V → Hp → VK → Prop) (g : List D → Option D) : Prop := ∀ (xs : List V) (H : Hp) (ds : List D) (l : List Itm) (Q : VK) (d : D), Items K [] H l → Paired (fun x dx => (some x, dx) ∈ l) xs ds → g ds = some d →
  (∀ v H', Items K [] H' ((some v, d) :: l) → Q v H') → r xs H Q
def eN (g : List D → Option D) (fa : Ev → Option (List Hd × Ev)) : Ev → Option (D × Ev) := fun ρ => (fa ρ).bind fun p => (g (p.1.map (Hd.get p.2))).map fun d => (d, p.2)
theorem mem_hits {K : Frg} {H : Hp} {σ : Sl} {ρ : Ev} (hl : σ.length = ρ.length) : ∀ {hs : List Hd} {vs : List V} {l : List Itm}, hats σ hs vs → Paired (fun x dx => (some x, dx) ∈ hits hs vs ++ (σ.zip ρ ++ l)) vs (hs.map (Hd.get ρ))
  | [], [], _, _ => .nil
  | [], _ :: _, _, h => h.elim
  | _ :: _, [], _, h => h.elim
  | h :: hs, v :: vs, l, ha => by
    refine .cons ?_ (Paired.mapP (mem_hits (K := K) (H := H) hl (l := l) ha.2) fun x dx hm => ?_)
    · cases h with
      | tm d => simp [Hd.its, Hd.get, hits]
      | sl i =>
        have h1 : σ[i]? = some (some v) := ha.1
        have h2 : i < ρ.length := by
          have := (List.getElem?_eq_some_iff.mp h1).1
          omega
        have h3 : ρ[i]? = some ρ[i] := List.getElem?_eq_getElem h2
        simp only [Hd.get, getD_of h3]
        exact List.mem_append_right _ (List.mem_append_left _ (zip_mem h1 h3))
    · show _ ∈ (h.its v ++ hits hs vs) ++ _
      rw [List.append_assoc]
      exact List.mem_append_right _ hm
theorem callN {fa : Ev → Option (List Hd × Ev)} {es : List Expr} {r : List V → Hp → VK → Prop} {g : List D → Option D} (hg : OpN X.K r g) (ha : DA X es fa) :
    ∃ t, PA X es t ∧ ∀ (σ : Sl) (H : Hp) (ρ : Ev) (l : List Itm) (Q : VK) (d : D) (ρ' : Ev), σ.length = ρ.length → Items X.K [] H (σ.zip ρ ++ l) → eN g fa ρ = some (d, ρ') →
      (∀ v H', ρ'.length = ρ.length → Items X.K [] H' ((some v, d) :: (σ.zip ρ' ++ l)) → Q v H') → tCB r t σ H Q := by
  obtain ⟨t, ht, ka⟩ := ha.ex
  refine ⟨t, ht, fun σ H ρ l Q d ρ' hl hi hf q => ?_⟩
  obtain ⟨⟨hds, ρ1⟩, e1, hf⟩ := Option.bind_eq_some_iff.mp hf
  obtain ⟨d', e2, hf⟩ := Option.map_eq_some_iff.mp hf
  cases hf
  refine ka σ H ρ l _ hds _ hl hi e1 fun vs H1 l1 a1 i1 => ?_
  exact hg vs H1 _ _ Q _ i1 (mem_hits (K := X.K) (H := H1) (by show σ.length = ρ1.length; have l2 : ρ1.length = ρ.length := l1; omega) a1) e2 fun v H2 i2 => q v H2 l1 (i2.sub ⟨hits hds vs, List.perm_middle.symm⟩)
theorem de_bi {x : Str} {id : String} {p pos : Pos} {e : Expr} {es : List Expr} {fa : Ev → Option (List Hd × Ev)} {r : List V → Hp → VK → Prop} {g : List D → Option D} (hc : CallR X (.builtin id) r) (hgo : OpN X.K r g) (hg : Gl X x) (hm : X.mg x = none) (hv : bootBuiltins x = some (.builtin id)) (ha : DA X (e :: es) fa)
    (hn : x ≠ "__name__" := by decide) (hdb : (x == ("__debug__" : Str)) = false := by decide) (he : starEach (e :: es) X.env = (false, eval e X.env) :: starEach es X.env := by rfl) (hpl : (backTo pos (starEach es X.env)).any (·.1) = false := by rfl) :
    DE X (.Call (.Name x p) (e :: es) [] pos) (eN g fa) := by
  obtain ⟨t, ht, k⟩ := callN hgo ha
  exact ⟨_, pe_callB hc hg hm hv ht hn hdb he hpl, k⟩
theorem de_ty {x : Str} {T : String} {p pos : Pos} {e : Expr} {es : List Expr} {fa : Ev → Option (List Hd × Ev)} {r : List V → Hp → VK → Prop} {g : List D → Option D} (hc : CallR X (.type T) r) (hgo : OpN X.K r g) (hg : Gl X x) (hm : X.mg x = none) (hv : bootBuiltins x = some (.type T)) (ha : DA X (e :: es) fa)
    (hn : x ≠ "__name__" := by decide) (hdb : (x == ("__debug__" : Str)) = false := by decide) (he : starEach (e :: es) X.env = (false, eval e X.env) :: starEach es X.env := by rfl) (hpl : (backTo pos (starEach es X.env)).any (·.1) = false := by rfl) :
    DE X (.Call (.Name x p) (e :: es) [] pos) (eN g fa) := by
  obtain ⟨t, ht, k⟩ := callN hgo ha
  exact ⟨_, pe_callTy hc hg hm hv ht hn hdb he hpl, k⟩
end
end Mv
end
section
set_option Elab.async false
set_option linter.all false
set_option maxRecDepth 100000
/-! Judgements, third part: displays, methods, statements, targets. -/
namespace Mv
open PySem PySem.Spec PyProof.Rows L2

/-- all by themselves -/
def tms : List Hd → Option (List D)
  | [] => some []
  | .tm d :: hs => (tms hs).map fun r => d :: r
  | .sl _ :: _ => none
theorem tms_hits : ∀ {hs : List Hd} {ds : List D} {vs : List V}, tms hs = some ds → vs.length = hs.length → hits hs vs = prs vs ds ∧ ds.length = vs.length
  | [], _, [], h, _ => by cases h; exact ⟨rfl, rfl⟩
  | [], _, _ :: _, _, h => by simp at h
  | _ :: _, _, [], _, h => by simp at h
  | .sl _ :: _, _, _ :: _, h, _ => by cases h
  | .tm d :: hs, _, v :: vs, h, hl => by
    obtain ⟨r, h1, h2⟩ := Option.map_eq_some_iff.mp h
    subst h2
    obtain ⟨k1, k2⟩ := tms_hits (vs := vs) h1 (by simpa using hl)
    refine ⟨?_, by simp [k2]⟩
    show [(some v, d)] ++ hits hs vs = (some v, d) :: prs vs r
    rw [k1]; rfl
section
variable {X : Cx}
def eTup (fa : Ev → Option (List Hd × Ev)) : Ev → Option (D × Ev) := fun ρ => (fa ρ).bind fun p => (tms p.1).bind fun ds => if ds.length ≤ 16777216 then some (.tup ds, p.2) else none
def eLst (fa : Ev → Option (List Hd × Ev)) : Ev → Option (D × Ev) := fun ρ => (fa ρ).bind fun p => (tms p.1).bind fun ds => if ds.length ≤ 16777216 then some (.lst true ds, p.2) else none
theorem de_tup {es : List Expr} {k : Nat} {pos : Pos} {fa : Ev → Option (List Hd × Ev)} (h : DA X es fa) : DE X (.Tuple es k pos) (eTup fa) := by
  obtain ⟨t, ht, ka⟩ := h.ex
  refine ⟨_, pe_tup ht, fun σ H ρ l Q r ρ' hl hi hf q => ?_⟩
  obtain ⟨⟨hds, ρ1⟩, e1, hf⟩ := Option.bind_eq_some_iff.mp hf
  obtain ⟨ds, e2, hf⟩ := Option.bind_eq_some_iff.mp hf
  split at hf
  · rename_i hz
    cases hf
    refine ka σ H ρ l _ hds _ hl hi e1 fun vs H1 l1 a1 i1 => ?_
    obtain ⟨k1, k2⟩ := tms_hits e2 (hats_len a1)
    refine ⟨by rw [sizeLine_eq, ← k2]; exact hz, fun p np => q (.ref p) _ l1 ?_⟩
    rw [k1] at i1
    exact Items.newT np k2.symm i1
  · cases hf
theorem de_lst {es : List Expr} {pos : Pos} {fa : Ev → Option (List Hd × Ev)} (h : DA X es fa) : DE X (.List es pos) (eLst fa) := by
  obtain ⟨t, ht, ka⟩ := h.ex
  refine ⟨_, pe_lst ht, fun σ H ρ l Q r ρ' hl hi hf q => ?_⟩
  obtain ⟨⟨hds, ρ1⟩, e1, hf⟩ := Option.bind_eq_some_iff.mp hf
  obtain ⟨ds, e2, hf⟩ := Option.bind_eq_some_iff.mp hf
  split at hf
  · rename_i hz
    cases hf
    refine ka σ H ρ l _ hds _ hl hi e1 fun vs H1 l1 a1 i1 => ?_
    obtain ⟨k1, k2⟩ := tms_hits e2 (hats_len a1)
    refine ⟨by rw [sizeLine_eq, ← k2]; exact hz, fun p np => q (.ref p) _ l1 ?_⟩
    rw [k1] at i1
    exact Items.new np k2.symm i1 (fun b hb => by cases hb)
  · cases hf

/-! ### methods that change a list in a slot -/
def MutOp (K : Frg) (r : V → List V → Hp → VK → Prop) (g : List D → List D → Option (D × List D)) : Prop := ∀ (a : Addr) (vs : List V) (H : Hp) (ds xs : List D) (l : List Itm) (Q : VK) (d : D) (ys : List D), vs.length = ds.length →
  Items K [] H ((some (.ref a), .lst true xs) :: (prs vs ds ++ l)) → g xs ds = some (d, ys) → (∀ v H', Items K [] H' ((some v, d) :: (some (.ref a), .lst true ys) :: l) → Q v H') → r (.ref a) vs H Q
def eMut (i : Nat) (g : List D → List D → Option (D × List D)) (fa : Ev → Option (List Hd × Ev)) : Ev → Option (D × Ev) := fun ρ => match ρ[i]? with
  | some (.lst _ _) => (fa ρ).bind fun p => (tms p.1).bind fun ds => match p.2[i]? with
    | some (.lst true xs) => (g xs ds).map fun q => (q.1, p.2.set i (.lst true q.2))
    | _ => none
  | _ => none
theorem mut_core {r : V → List V → Hp → VK → Prop} {g : List D → List D → Option (D × List D)} {i : Nat} {fa : Ev → Option (List Hd × Ev)} {t : TA} {x : Str} {pos : Pos} (hN : X.N[i]? = some x) (hg : MutOp X.K r g)
    (ka : ∀ (σ : Sl) (H : Hp) (ρ : Ev) (l : List Itm) (Q : List V → Hp → Prop) (r : List Hd) (ρ' : Ev), σ.length = ρ.length → Items X.K [] H (σ.zip ρ ++ l) → fa ρ = some (r, ρ') →
    (∀ vs H', ρ'.length = ρ.length → hats σ r vs → Items X.K [] H' (hits r vs ++ (σ.zip ρ' ++ l)) → Q vs H') → t σ H Q)
    (σ : Sl) (H : Hp) (ρ : Ev) (l : List Itm) (Q : VK) (d : D) (ρ' : Ev) (hl : σ.length = ρ.length) (hi : Items X.K [] H (σ.zip ρ ++ l)) (hf : eMut i g fa ρ = some (d, ρ'))
    (q : ∀ v H', ρ'.length = ρ.length → Items X.K [] H' ((some v, d) :: (σ.zip ρ' ++ l)) → Q v H') : tBM X.K "list" r (tVar i) t σ H Q := by
  unfold eMut at hf
  split at hf
  · rename_i b zs e5
    obtain ⟨⟨hds, ρ1⟩, e1, hf⟩ := Option.bind_eq_some_iff.mp hf
    obtain ⟨ds, e2, hf⟩ := Option.bind_eq_some_iff.mp hf
    split at hf
    · rename_i xs e3
      obtain ⟨⟨d', ys⟩, e4, hf⟩ := Option.map_eq_some_iff.mp hf
      obtain ⟨ed, eρ⟩ : d' = d ∧ ρ1.set i (.lst true ys) = ρ' := by cases hf; exact ⟨rfl, rfl⟩
      subst ed eρ
      obtain ⟨v, hv⟩ := slot_val hi hl e5 (by intro z; cases z)
      refine ⟨v, hv, ?_, ?_⟩
      · obtain ⟨a, us, rfl, hs, _⟩ := hi.list (List.mem_append_left _ (zip_mem hv e5))
        exact .inl ⟨rfl, us, SqL.of hs⟩
      · refine ka σ H ρ l _ hds ρ1 hl hi e1 fun vs H1 l1 a1 i1 => ?_
        obtain ⟨k1, k2⟩ := tms_hits e2 (hats_len a1)
        rw [k1] at i1
        have i2 : Items X.K [] H1 (σ.zip ρ1 ++ (prs vs ds ++ l)) := i1.perm perm_mid
        obtain ⟨A, B, h1, h2⟩ := i2.slot hv e3
        obtain ⟨a, us, rfl, hs, _⟩ := h1.list (List.mem_cons_self)
        refine hg a vs H1 ds xs (A ++ B ++ l) Q d' ys k2.symm (h1.perm (.cons _ perm_mid)) e4 fun w H2 i3 => ?_
        refine q w H2 (by show (ρ1.set i _).length = _; simp; exact l1) ?_
        have i4 := h2 [] H2 ((some w, d') :: l) (.lst true ys) (i3.perm (by
          refine List.Perm.trans (List.Perm.swap _ _ _) ?_
          exact .cons _ (List.perm_middle.symm)))
        exact i4.perm List.perm_middle
    · cases hf
  · cases hf
theorem de_mut (i : Nat) {id : String} {name x : Str} {e : Expr} {es : List Expr} {npos apos cpos : Pos} {r : V → List V → Hp → VK → Prop} {g : List D → List D → Option (D × List D)} {fa : Ev → Option (List Hd × Ev)} (slot : Slot "list" name id) (hty : typeOf (.builtin id) = pure (.type "method_descriptor"))
    (hm : MtR X id r) (hg : MutOp X.K r g) (ha : DA X (e :: es) fa)
    (hN : X.N[i]? = some x := by rfl) (hv : Vis X.env.scope x := by first | exact Or.inl rfl | exact Or.inr (Or.inl rfl) | exact Or.inr (Or.inr rfl)) (hd : (x == ("__debug__" : Str)) = false := by decide)
    (hcd : (x == ("__classdict__" : Str)) = false := by decide)
    (hbase : attributeBase (.Name x npos) name X.env (eval (.Name x npos) X.env) = eval (.Name x npos) X.env := by rfl)
    (hfew : ((backTo cpos (starEach (e :: es) X.env)).all (fun x => !x.1) && (backToKw cpos (keywordEach [] X.env)).all (fun x => x.1.isSome)
      && decide ((e :: es).length + ([] : List Keyword).length + (if ([] : List Keyword).isEmpty then 0 else 1) < 30)) = true := by rfl)
    (hline : (apos.endLine == cpos.line) = true := by rfl) (hs : starEach (e :: es) X.env = (false, eval e X.env) :: starEach es X.env := by rfl) (hplain : (backTo cpos (starEach es X.env)).any (·.1) = false := by rfl) :
    DE X (.Call (.Attribute (.Name x npos) name apos) (e :: es) [] cpos) (eMut i g fa) := by
  obtain ⟨t, ht, ka⟩ := ha.ex
  exact ⟨_, pe_bm PySem.F.plainAttrs_list slot hty hm (pe_var hN hv hd hcd) ht hbase hfew hline hs hplain, fun σ H ρ l Q r ρ' hl hi hf q => mut_core (x := x) (pos := npos) hN hg ka σ H ρ l Q r ρ' hl hi hf q⟩
theorem de_mut0 (i : Nat) {id : String} {name x : Str} {npos apos cpos : Pos} {r : V → List V → Hp → VK → Prop} {g : List D → List D → Option (D × List D)} (slot : Slot "list" name id) (hty : typeOf (.builtin id) = pure (.type "method_descriptor"))
    (hm : MtR X id r) (hg : MutOp X.K r g)
    (hN : X.N[i]? = some x := by rfl) (hv : Vis X.env.scope x := by first | exact Or.inl rfl | exact Or.inr (Or.inl rfl) | exact Or.inr (Or.inr rfl)) (hd : (x == ("__debug__" : Str)) = false := by decide)
    (hcd : (x == ("__classdict__" : Str)) = false := by decide)
    (hbase : attributeBase (.Name x npos) name X.env (eval (.Name x npos) X.env) = eval (.Name x npos) X.env := by rfl)
    (hline : (apos.endLine == cpos.line) = true := by rfl) :
    DE X (.Call (.Attribute (.Name x npos) name apos) [] [] cpos) (eMut i g aNil) := by
  refine ⟨_, pe_bm0 PySem.F.plainAttrs_list slot hty hm (pe_var hN hv hd hcd) hbase hline, fun σ H ρ l Q d ρ' hl hi hf q => ?_⟩
  exact mut_core (x := x) (pos := npos) (t := tNil) hN hg (fun σ H ρ l Q r ρ' hl hi hf q => by cases hf; exact q [] H rfl trivial hi) σ H ρ l Q d ρ' hl hi hf q
/-- methods that read: the receiver is the first operand -/
def kindD (T : String) : D → Bool
  | .lst _ _ => T == "list"
  | .cst _ => T == "list"
  | .str _ => T == "str"
  | _ => false
theorem kind_ty {K : Frg} {H : Hp} {T : String} {d : D} {l : List Itm} {v : V} (h : kindD T d = true) (hi : Items K [] H l) (hm : (some v, d) ∈ l) : tyV K T v H := by
  have hz := hi.view hm
  cases d with
  | lst _ _ =>
    obtain ⟨a, us, rfl, hs, _⟩ := hz
    exact .inl ⟨by simpa [kindD] using h, us, SqL.of hs⟩
  | cst _ =>
    obtain ⟨a, us, rfl, hs, _⟩ := hz
    exact .inl ⟨by simpa [kindD] using h, us, hs⟩
  | str _ =>
    cases hz
    show T = "str"
    simpa [kindD] using h
  | _ => cases h
def eMt (T : String) (g : List D → Option D) (fo : Ev → Option (Hd × Ev)) (fa : Ev → Option (List Hd × Ev)) : Ev → Option (D × Ev) := fun ρ => (fo ρ).bind fun p => if kindD T (p.1.get p.2) = true then (fa p.2).bind fun q => (g (p.1.get q.2 :: q.1.map (Hd.get q.2))).map fun d => (d, q.2) else none
theorem de_mt {T id : String} {name : Str} {o e : Expr} {es : List Expr} {apos cpos : Pos} {r : V → List V → Hp → VK → Prop} {g : List D → Option D} {fo : Ev → Option (Hd × Ev)} {fa : Ev → Option (List Hd × Ev)} (pa : PlainAttrs T) (slot : Slot T name id) (hty : typeOf (.builtin id) = pure (.type "method_descriptor"))
    (hm : MtR X id r) (hg : OpN X.K (fun xs H Q => ∃ x r', xs = x :: r' ∧ r x r' H Q) g) (ho : DH X o fo) (ha : DA X (e :: es) fa)
    (hbase : attributeBase o name X.env (eval o X.env) = eval o X.env := by rfl)
    (hfew : ((backTo cpos (starEach (e :: es) X.env)).all (fun x => !x.1) && (backToKw cpos (keywordEach [] X.env)).all (fun x => x.1.isSome)
      && decide ((e :: es).length + ([] : List Keyword).length + (if ([] : List Keyword).isEmpty then 0 else 1) < 30)) = true := by rfl)
    (hline : (apos.endLine == cpos.line) = true := by rfl) (hs : starEach (e :: es) X.env = (false, eval e X.env) :: starEach es X.env := by rfl) (hplain : (backTo cpos (starEach es X.env)).any (·.1) = false := by rfl) :
    DE X (.Call (.Attribute o name apos) (e :: es) [] cpos) (eMt T g fo fa) := by
  obtain ⟨to, hto, ko⟩ := ho.ex
  obtain ⟨t, ht, ka⟩ := ha.ex
  refine ⟨_, pe_bm pa slot hty hm hto ht hbase hfew hline hs hplain, fun σ H ρ l Q d ρ' hl hi hf q => ?_⟩
  obtain ⟨⟨hd, ρ1⟩, e2, hf⟩ := Option.bind_eq_some_iff.mp hf
  replace hf : (if kindD T (hd.get ρ1) = true then (fa ρ1).bind fun q => (g (hd.get q.2 :: q.1.map (Hd.get q.2))).map fun d => (d, q.2) else none) = some (d, ρ') := hf
  split at hf
  · rename_i kd
    obtain ⟨⟨hs, ρ3⟩, e4, hf⟩ := Option.bind_eq_some_iff.mp hf
    obtain ⟨d', e6, hf⟩ := Option.map_eq_some_iff.mp hf
    obtain ⟨ed, eρ⟩ : d' = d ∧ ρ3 = ρ' := by cases hf; exact ⟨rfl, rfl⟩
    subst ed eρ
    refine ko σ H ρ l _ hd ρ1 hl hi e2 fun v H1 l1 a1 i1 => ⟨kind_ty kd i1 (mem_hd (X := X) (hl := by omega) a1 i1), ?_⟩
    refine ka σ H1 ρ1 (hd.its v ++ l) _ hs _ (by omega) (i1.perm perm_mid) e4 fun vs H2 l2 a2 i2 => ?_
    have i3 : Items X.K [] H2 (hits (hd :: hs) (v :: vs) ++ (σ.zip ρ3 ++ l)) := i2.perm (by
      show List.Perm _ ((hd.its v ++ hits hs vs) ++ _)
      rw [List.append_assoc]
      refine List.Perm.trans (List.Perm.append_left _ perm_mid) perm_mid)
    have l3 : ρ3.length = ρ.length := by have z : ρ3.length = ρ1.length := l2; omega
    obtain ⟨x, r', ex, hr⟩ := hg (v :: vs) H2 _ _ Q _ i3 (mem_hits (K := X.K) (H := H2) (by omega) (hs := hd :: hs) ⟨a1, a2⟩) e6 fun w H3 i4 => q w H3 l3 (i4.sub ⟨hits (hd :: hs) (v :: vs), List.perm_middle.symm⟩)
    cases ex
    exact hr
  · cases hf
theorem de_mt0 {T id : String} {name : Str} {o : Expr} {apos cpos : Pos} {r : V → List V → Hp → VK → Prop} {g : List D → Option D} {fo : Ev → Option (Hd × Ev)} (pa : PlainAttrs T) (slot : Slot T name id) (hty : typeOf (.builtin id) = pure (.type "method_descriptor"))
    (hm : MtR X id r) (hg : OpN X.K (fun xs H Q => ∃ x r', xs = x :: r' ∧ r x r' H Q) g) (ho : DH X o fo)
    (hbase : attributeBase o name X.env (eval o X.env) = eval o X.env := by rfl) (hline : (apos.endLine == cpos.line) = true := by rfl) :
    DE X (.Call (.Attribute o name apos) [] [] cpos) (eMt T g fo aNil) := by
  obtain ⟨to, hto, ko⟩ := ho.ex
  refine ⟨_, pe_bm0 pa slot hty hm hto hbase hline, fun σ H ρ l Q d ρ' hl hi hf q => ?_⟩
  obtain ⟨⟨hd, ρ1⟩, e2, hf⟩ := Option.bind_eq_some_iff.mp hf
  replace hf : (if kindD T (hd.get ρ1) = true then (aNil ρ1).bind fun q => (g (hd.get q.2 :: q.1.map (Hd.get q.2))).map fun d => (d, q.2) else none) = some (d, ρ') := hf
  split at hf
  · rename_i kd
    obtain ⟨d', e6, hf⟩ := Option.map_eq_some_iff.mp hf
    obtain ⟨ed, eρ⟩ : d' = d ∧ ρ1 = ρ' := by cases hf; exact ⟨rfl, rfl⟩
    subst ed eρ
    refine ko σ H ρ l _ hd ρ1 hl hi e2 fun v H1 l1 a1 i1 => ⟨kind_ty kd i1 (mem_hd (X := X) (hl := by omega) a1 i1), ?_⟩
    have i3 : Items X.K [] H1 (hits [hd] [v] ++ (σ.zip ρ1 ++ l)) := by
      show Items X.K [] H1 ((hd.its v ++ []) ++ _)
      rw [List.append_nil]
      exact i1
    obtain ⟨x, r', ex, hr⟩ := hg [v] H1 _ _ Q _ i3 (mem_hits (K := X.K) (H := H1) (by omega) (hs := [hd]) ⟨a1, trivial⟩) e6 fun w H3 i4 => q w H3 l1 (i4.sub ⟨hits [hd] [v], List.perm_middle.symm⟩)
    cases ex
    exact hr
  · cases hf

/-! ### statements -/
variable {C : List Nat}
theorem Agr.refl {σ : Sl} : Agr C σ σ := fun _ _ => rfl
theorem Agr.trans {σ σ' σ2 : Sl} (a : Agr C σ σ') (b : Agr C σ' σ2) : Agr C σ σ2 := fun i hi => (b i hi).trans (a i hi)
theorem EndOk.step {D' : Ends} {σ σ1 : Sl} {l : List Itm} {o : Out} (h : EndOk X C D' σ l o) (a : Agr C σ σ1) (hl : σ1.length = σ.length) : EndOk X C D' σ1 l o := by
  cases o with
  | nx ρ' => exact fun σ' H' l1 l2 a' i => h σ' H' (by omega) (by omega) (a.trans a') i
  | bk ρ' => exact fun σ' H' l1 l2 a' i => h σ' H' (by omega) (by omega) (a.trans a') i
  | ct ρ' => exact fun σ' H' l1 l2 a' i => h σ' H' (by omega) (by omega) (a.trans a') i
  | rt d ρ' => exact fun v σ' H' l1 l2 a' i => h v σ' H' (by omega) (by omega) (a.trans a') i
def bNil : Ev → Option Out := fun ρ => some (.nx ρ)
def bCons (f g : Ev → Option Out) : Ev → Option Out := fun ρ => (f ρ).bind fun o => match o with
  | .nx ρ' => g ρ'
  | o => some o
theorem dss_nil : DSs X C [] bNil := ⟨tNext, pss_nil, fun D' σ H ρ l o hl hi hf k => by cases hf; exact k σ H rfl hl.symm Agr.refl hi⟩
theorem dss_cons {st : Stmt} {rest : List Stmt} {f g : Ev → Option Out} (h : DS X C st f) (h' : DSs X C rest g) : DSs X C (st :: rest) (bCons f g) := by
  obtain ⟨t, ht, k⟩ := h.ex
  obtain ⟨t', ht', k'⟩ := h'.ex
  refine ⟨_, pss_cons ht ht', fun D' σ H ρ l o hl hi hf q => ?_⟩
  obtain ⟨o1, e1, hf⟩ := Option.bind_eq_some_iff.mp hf
  refine k { D' with nx := t' D' } σ H ρ l o1 hl hi e1 ?_
  cases o1 with
  | nx ρ1 => exact fun σ1 H1 l1 l2 a1 i1 => k' D' σ1 H1 ρ1 l o (by omega) i1 hf (q.step a1 l1)
  | bk ρ1 => cases hf; exact q
  | ct ρ1 => cases hf; exact q
  | rt d ρ1 => cases hf; exact q
theorem dss_one {st : Stmt} {f : Ev → Option Out} (h : DS X C st f) : DSs X C [st] f := by
  obtain ⟨t, ht, k⟩ := h.ex
  exact ⟨t, pss_one ht, k⟩
theorem ds_pass {pos : Pos} : DS X C (.Pass pos) bNil := ⟨tNext, ps_pass, fun D' σ H ρ l o hl hi hf k => by cases hf; exact k σ H rfl hl.symm Agr.refl hi⟩
def bBrk : Ev → Option Out := fun ρ => some (.bk ρ)
def bCnt : Ev → Option Out := fun ρ => some (.ct ρ)
theorem ds_break {pos : Pos} : DS X C (.Break pos) bBrk := ⟨_, ps_break, fun D' σ H ρ l o hl hi hf k => by cases hf; exact k σ H rfl hl.symm Agr.refl hi⟩
theorem ds_continue {pos : Pos} : DS X C (.Continue pos) bCnt := ⟨_, ps_continue, fun D' σ H ρ l o hl hi hf k => by cases hf; exact k σ H rfl hl.symm Agr.refl hi⟩
def bExp (f : Ev → Option (D × Ev)) : Ev → Option Out := fun ρ => (f ρ).map fun p => .nx p.2
theorem ds_expr {e : Expr} {pos : Pos} {f : Ev → Option (D × Ev)} (h : DE X e f) (hs : swapsWith e none pos.line X.env = pure false := by rfl) : DS X C (.Expr e pos) (bExp f) := by
  obtain ⟨t, ht, k⟩ := h.ex
  refine ⟨_, ps_expr ht hs, fun D' σ H ρ l o hl hi hf q => ?_⟩
  obtain ⟨⟨d, ρ1⟩, e1, hf⟩ := Option.map_eq_some_iff.mp hf
  cases hf
  exact k σ H ρ l _ d ρ1 hl hi e1 fun v H1 l1 i1 => q σ H1 rfl (by show ρ1.length = _; omega) Agr.refl i1.tail
def bRet (f : Ev → Option (D × Ev)) : Ev → Option Out := fun ρ => (f ρ).map fun p => .rt p.1 p.2
theorem ds_ret {e : Expr} {pos : Pos} {f : Ev → Option (D × Ev)} (h : DE X e f) : DS X C (.Return (some e) pos) (bRet f) := by
  obtain ⟨t, ht, k⟩ := h.ex
  refine ⟨_, ps_ret ht, fun D' σ H ρ l o hl hi hf q => ?_⟩
  obtain ⟨⟨d, ρ1⟩, e1, hf⟩ := Option.map_eq_some_iff.mp hf
  cases hf
  exact k σ H ρ l _ d ρ1 hl hi e1 fun v H1 l1 i1 => q v σ H1 rfl (by show ρ1.length = _; omega) Agr.refl i1
def bRetN : Ev → Option Out := fun ρ => some (.rt .non ρ)
theorem ds_retN {pos : Pos} : DS X C (.Return none pos) bRetN :=
  ⟨_, ps_retN, fun D' σ H ρ l o hl hi hf q => by cases hf; exact q .non σ H rfl hl.symm Agr.refl (hi.add (d := .non) rfl fun _ _ => rfl)⟩
def bIf (c : Ev → Option (Bool × Ev)) (f g : Ev → Option Out) : Ev → Option Out := fun ρ => (c ρ).bind fun p => if p.1 = true then f p.2 else g p.2
theorem ds_if {c : Expr} {a b : List Stmt} {pos : Pos} {fc : Ev → Option (Bool × Ev)} {f g : Ev → Option Out} (hc : DT X c fc) (ha : DSs X C a f) (hb : DSs X C b g) : DS X C (.If c a b pos) (bIf fc f g) := by
  obtain ⟨t, ht, k⟩ := hc.ex
  obtain ⟨ta, pa, ka⟩ := ha.ex
  obtain ⟨tb, pb, kb⟩ := hb.ex
  refine ⟨_, ps_if ht pa pb, fun D' σ H ρ l o hl hi hf q => ?_⟩
  obtain ⟨⟨x, ρ1⟩, e1, hf⟩ := Option.bind_eq_some_iff.mp hf
  refine k σ H ρ l _ x ρ1 hl hi e1 fun H' hl' hi' => ?_
  cases x with
  | true =>
    rw [if_pos rfl] at hf
    rw [if_pos rfl]
    exact ka D' σ H' ρ1 l o (by omega) hi' hf q
  | false =>
    rw [if_neg Bool.false_ne_true] at hf
    rw [if_neg Bool.false_ne_true]
    exact kb D' σ H' ρ1 l o (by omega) hi' hf q

/-! ### targets -/
def gNm (i : Nat) : D → Ev → Option Ev := fun d ρ => some (ρ.set i d)
theorem Agr.set {σ : Sl} {i : Nat} {o : Option V} (h : i ∉ C) : Agr C σ (σ.set i o) := fun j hj => by
  have hne : i ≠ j := fun z => h (by rw [z]; exact hj)
  rw [List.getElem?_set_ne hne]
theorem set_items {K : Frg} {E : List Addr} {H : Hp} {σ : Sl} {ρ : Ev} {l : List Itm} {i : Nat} {o : Option V} {d : D} (hl : σ.length = ρ.length) (hi : i < σ.length) (h : Items K E H ((o, d) :: (σ.zip ρ ++ l))) : Items K E H ((σ.set i o).zip (ρ.set i d) ++ l) := by
  have h1 : σ[i]? = some σ[i] := List.getElem?_eq_getElem hi
  have h2 : ρ[i]? = some (ρ[i]'(by omega)) := List.getElem?_eq_getElem (by omega)
  obtain ⟨A, B, e1, _, e3⟩ := zip_at h1 h2
  rw [e3]
  rw [e1] at h
  have h3 : Items K E H ((σ[i], ρ[i]'(by omega)) :: ((o, d) :: (A ++ B ++ l))) := h.perm (by
    refine List.Perm.trans (.cons _ ?_) (List.Perm.swap _ _ _)
    simp only [List.append_assoc, List.cons_append]
    exact List.perm_middle)
  exact Items.perm2 h3.tail
theorem dg_name (i : Nat) {x : Str} {pos : Pos} (hN : X.N.Nodup) (hC : i ∉ C := by decide) (hi : X.N[i]? = some x := by rfl) (hx : Loc X.env.scope x := by first | exact Or.inl rfl | exact Or.inr rfl)
    (hf : X.fn x = true ∨ X.env.scope.names.lookup x = some .local := by first | exact .inl rfl | exact .inr rfl | assumption) : DG X C (.Name x pos) (gNm i) := by
  refine ⟨gName i, pg_name hN hi hx hf, fun v d σ H ρ l Q ρ' hl hi' hf q => ?_⟩
  cases hf
  by_cases h : i < σ.length
  · exact q _ H (by simp) (by simp [hl]) (Agr.set hC) (set_items hl h hi')
  · have e1 : σ.set i (some v) = σ := List.set_eq_of_length_le (by omega)
    have e2 : ρ.set i d = ρ := List.set_eq_of_length_le (by omega)
    refine q _ H (by simp) (by simp [hl]) (Agr.set hC) ?_
    rw [e1, e2]
    exact hi'.tail
def gsNil : List D → Ev → Option Ev := fun ds ρ => match ds with
  | [] => some ρ
  | _ => none
def gsCons (f : D → Ev → Option Ev) (g : List D → Ev → Option Ev) : List D → Ev → Option Ev := fun ds ρ => match ds with
  | d :: r => (f d ρ).bind fun ρ1 => g r ρ1
  | _ => none
theorem dgs_nil : DGs X C [] gsNil := by
  refine ⟨gNil, pgs_nil, fun vs ds σ H ρ l Q ρ' hl hv hi hf q => ?_⟩
  cases ds with
  | cons _ _ => cases hf
  | nil =>
    cases hf
    cases vs with
    | cons _ _ => simp at hv
    | nil => exact ⟨rfl, q σ H rfl hl.symm Agr.refl hi⟩
theorem dgs_cons {e : Expr} {es : List Expr} {f : D → Ev → Option Ev} {g : List D → Ev → Option Ev} (h : DG X C e f) (h' : DGs X C es g) (hs : (assignEach (e :: es) X.env).map (·.2) = assign e X.env :: (assignEach es X.env).map (·.2) := by rfl) : DGs X C (e :: es) (gsCons f g) := by
  obtain ⟨t, ht, k⟩ := h.ex
  obtain ⟨t', ht', k'⟩ := h'.ex
  refine ⟨_, pgs_cons ht ht' hs, fun vs ds σ H ρ l Q ρ' hl hv hi hf q => ?_⟩
  cases ds with
  | nil => cases hf
  | cons d r =>
    cases vs with
    | nil => simp at hv
    | cons v vr =>
      obtain ⟨ρ1, e1, hf⟩ := Option.bind_eq_some_iff.mp hf
      refine ⟨v, vr, rfl, ?_⟩
      have hi' : Items X.K [] H ((some v, d) :: (prs vr r ++ (σ.zip ρ ++ l))) := hi
      refine k v d σ H ρ (prs vr r ++ l) _ ρ1 hl (hi'.perm (.cons _ perm_mid)) e1 fun σ1 H1 l1 l2 a1 i1 => ?_
      refine k' vr r σ1 H1 ρ1 l Q ρ' (by omega) (by simpa using hv) (i1.perm perm_mid) hf fun σ2 H2 l3 l4 a2 i2 => q σ2 H2 (by omega) (by omega) (a1.trans a2) i2
def gTp (n : Nat) (g : List D → Ev → Option Ev) : D → Ev → Option Ev := fun d ρ => match d with
  | .tup ds => if ds.length = n then g ds ρ else none
  | .lst _ ds => if ds.length = n ∧ D.frzL ds = true then g ds ρ else none
  | _ => none
theorem pg_or {X : Cx} {e : Expr} {t u : TG} (h : PG X e t) (k : PG X e u) : PG X e (fun v σ H Q => t v σ H Q ∨ u v σ H Q) := ⟨fun pins s σ H v w Q I r q => by
  rcases q with q | q
  · exact h.run pins s σ H v w Q I r q
  · exact k.run pins s σ H v w Q I r q⟩
theorem dg_tup {es : List Expr} {k : Nat} {pos : Pos} {n : Nat} {g : List D → Ev → Option Ev} (hc : X.calm = true) (h : DGs X C es g)
    (hn : (assignEach es X.env).length = n := by rfl) (hst : (assignEach es X.env).findIdx? (·.1) = none := by rfl) : DG X C (.Tuple es k pos) (gTp n g) := by
  obtain ⟨t, ht, kk⟩ := h.ex
  refine ⟨_, pg_or (pg_tup hc ht hn hst) (pg_unl hc ht hn hst), fun v d σ H ρ l Q ρ' hl hi hf q => ?_⟩
  cases d with
  | tup ds =>
    replace hf : (if ds.length = n then g ds ρ else none) = some ρ' := hf
    split at hf
    · rename_i hd
      obtain ⟨a, xs, rfl, hs, hx, i1⟩ := hi.openT
      exact .inl ⟨a, xs, rfl, hs, by omega, kk xs ds σ H ρ l Q ρ' hl hx i1 hf q⟩
    · cases hf
  | lst b ds =>
    replace hf : (if ds.length = n ∧ D.frzL ds = true then g ds ρ else none) = some ρ' := hf
    split at hf
    · rename_i hd
      obtain ⟨a, xs, rfl, hs, hx, i1⟩ := hi.listAll List.mem_cons_self hd.2
      have i2 := i1.sub ⟨[(some (.ref a), .lst b ds)], List.perm_middle⟩
      exact .inr ⟨a, xs, rfl, SqL.of hs, by omega, kk xs ds σ H ρ l Q ρ' hl hx i2 hf q⟩
    · cases hf
  | _ => cases hf
/-- x[i] = v, x a name's owned list -/
def gIx (j : Nat) (fi : Ev → Option (Hd × Ev)) : D → Ev → Option Ev := fun d ρ => match ρ[j]? with
  | some (.lst _ _) => (fi ρ).bind fun p => match p.2[j]?, p.1.get p.2 with
    | some (.lst true xs), .int k => (ixN xs.length k).map fun m => p.2.set j (.lst true (xs.set m d))
    | _, _ => none
  | _ => none
theorem prs_set {xs : List V} {ds : List D} {m : Nat} {v : V} {d : D} (hl : xs.length = ds.length) (hm : m < xs.length) : ∃ i R, (prs xs ds).Perm (i :: R) ∧ (prs (xs.set m v) (ds.set m d)).Perm ((some v, d) :: R) := by
  induction xs generalizing ds m with
  | nil => simp at hm
  | cons x xs ih =>
    cases ds with
    | nil => simp at hl
    | cons e ds =>
      cases m with
      | zero => exact ⟨(some x, e), prs xs ds, .refl _, .refl _⟩
      | succ m =>
        obtain ⟨i, R, p1, p2⟩ := ih (ds := ds) (m := m) (by simpa using hl) (by simpa using hm)
        refine ⟨i, (some x, e) :: R, ?_, ?_⟩
        · exact (List.Perm.cons _ p1).trans (List.Perm.swap _ _ _)
        · exact (List.Perm.cons (some x, e) p2).trans (List.Perm.swap _ _ _)
theorem dg_ix (j : Nat) {x : Str} {i : Expr} {npos pos : Pos} {fi : Ev → Option (Hd × Ev)} (hi : DH X i fi) (hN : X.N[j]? = some x := by rfl) (hv : Vis X.env.scope x := by first | exact Or.inl rfl | exact Or.inr (Or.inl rfl) | exact Or.inr (Or.inr rfl)) (hd : (x == ("__debug__" : Str)) = false := by decide)
    (hcd : (x == ("__classdict__" : Str)) = false := by decide)
    (ha : ∀ v, assign (.Subscript (.Name x npos) i pos) X.env v = (do
      let ov ← holding [v] (eval (.Name x npos) X.env)
      let iv ← holding [v, ov] (eval i X.env)
      standAt pos
      holding [v, ov, iv] (setItem ov iv v)
      release [v, ov, iv] []) := by intro _; rfl) : DG X C (.Subscript (.Name x npos) i pos) (gIx j fi) := by
  obtain ⟨ti, hti, ki⟩ := hi.ex
  refine ⟨_, pg_sub (pe_var hN hv hd hcd) hti set_list ha, fun v d σ H ρ l Q ρ' hl hi hf q => ?_⟩
  unfold gIx at hf
  split at hf
  rotate_left
  · cases hf
  rename_i b0 zs e5
  obtain ⟨⟨h, ρ1⟩, e1, hf⟩ := Option.bind_eq_some_iff.mp hf
  split at hf
  · rename_i xs k e2 e3
    obtain ⟨m, e4, hf⟩ := Option.map_eq_some_iff.mp hf
    subst hf
    have hi1 : Items X.K [] H (σ.zip ρ ++ ((some v, d) :: l)) := hi.perm List.perm_middle.symm
    obtain ⟨u, hu⟩ := slot_val hi1 hl e5 (by intro z; cases z)
    refine ⟨u, hu, ?_⟩
    refine ki σ H ρ _ _ h ρ1 hl hi1 e1 fun w H1 l1 a1 i1 => ?_
    have hw : w = .int k := by
      have := i1.view (mem_hd (X := X) (hl := by omega) a1 i1)
      rw [show h.get ρ1 = .int k from e3] at this
      exact this
    subst hw
    have i2 : Items X.K [] H1 (σ.zip ρ1 ++ ((some v, d) :: l)) := i1.drop
    obtain ⟨A, B, h1, h2⟩ := i2.slot hu e2
    obtain ⟨a, us, rfl, hs, hlen, _⟩ := h1.list (List.mem_cons_self)
    obtain ⟨us', hs', hlen', hop⟩ := h1.open
    rw [hs] at hs'
    cases hs'
    obtain ⟨_, hm, _, _⟩ := ixN_seq e4
    refine ⟨a, us, k, m, rfl, rfl, hs, by rw [hlen]; exact e4, ?_⟩
    obtain ⟨it, R, p1, p2⟩ := prs_set (xs := us) (ds := xs) (m := m) (v := v) (d := d) hlen (by omega)
    have hcl : Items X.K [a] H1 (prs (us.set m v) (xs.set m d) ++ (A ++ B ++ l)) := by
      have z1 : Items X.K [a] H1 (it :: (R ++ ((some v, d) :: (A ++ B ++ l)))) := hop.perm (by
        refine (List.Perm.append_right _ p1).trans ?_
        exact .cons _ (List.Perm.append_left _ List.perm_middle))
      have z2 : Items X.K [a] H1 ((some v, d) :: R ++ (A ++ B ++ l)) := z1.tail.perm List.perm_middle
      exact z2.perm (List.Perm.append_right _ p2.symm)
    have i3 := Items.close hs (by simp [hlen]) hcl
    refine q σ _ rfl (by show (ρ1.set j _).length = _; simp; omega) Agr.refl ?_
    exact h2 [] _ l _ i3
  · cases hf
/-- target = e -/
def bAsg (f : Ev → Option (D × Ev)) (g : D → Ev → Option Ev) : Ev → Option Out := fun ρ => (f ρ).bind fun p => (g p.1 p.2).map Out.nx
theorem ds_asg {tg e : Expr} {pos : Pos} {f : Ev → Option (D × Ev)} {g : D → Ev → Option Ev} (he : DE X e f) (hg : DG X C tg g) (hs : swapsWithSole [tg] e pos.line X.env = pure false := by rfl) (hw : swappedStores [tg] e X.env = pure none := by rfl)
    (h1 : (assignEach [tg] X.env).map (·.2) = [assign tg X.env] := by rfl) : DS X C (.Assign [tg] e pos) (bAsg f g) := by
  obtain ⟨t, ht, k⟩ := he.ex
  obtain ⟨t', ht', k'⟩ := hg.ex
  refine ⟨_, ps_asg ht ht' hs hw h1, fun D' σ H ρ l o hl hi hf q => ?_⟩
  obtain ⟨⟨d, ρ1⟩, e1, hf⟩ := Option.bind_eq_some_iff.mp hf
  obtain ⟨ρ2, e2, hf⟩ := Option.map_eq_some_iff.mp hf
  subst hf
  refine k σ H ρ l _ d ρ1 hl hi e1 fun v H1 l1 i1 => ?_
  exact k' v d σ H1 ρ1 l _ ρ2 (by omega) i1 e2 fun σ2 H2 l2 l3 a2 i2 => q σ2 H2 l2 l3 a2 i2
theorem ds_set (i : Nat) {x : Str} {e : Expr} {pos' pos : Pos} {f : Ev → Option (D × Ev)} (hN : X.N.Nodup) (he : DE X e f) (hC : i ∉ C := by decide) (hi : X.N[i]? = some x := by rfl) (hx : Loc X.env.scope x := by first | exact Or.inl rfl | exact Or.inr rfl)
    (hs : swapsWith e (some (.Name x pos')) pos.line X.env = pure false := by rfl) (hf : X.fn x = true ∨ X.env.scope.names.lookup x = some .local := by first | exact .inl rfl | exact .inr rfl | assumption) : DS X C (.Assign [.Name x pos'] e pos) (bAsg f (gNm i)) := by
  obtain ⟨t, ht, k⟩ := he.ex
  obtain ⟨t', ht', k'⟩ := (dg_name (C := C) (pos := pos') i hN hC hi hx hf).ex
  refine ⟨tAsg t (gName i), ps_set hN hi hx ht hs hf, fun D' σ H ρ l o hl hi hf q => ?_⟩
  obtain ⟨⟨d, ρ1⟩, e1, hf⟩ := Option.bind_eq_some_iff.mp hf
  cases hf
  refine k σ H ρ l _ d ρ1 hl hi e1 fun v H1 l1 i1 => ?_
  show D'.nx (σ.set i (some v)) H1
  by_cases h : i < σ.length
  · exact q _ H1 (by simp) (by simp; omega) (Agr.set hC) (set_items (by show σ.length = ρ1.length; have l2 : ρ1.length = ρ.length := l1; omega) h i1)
  · have e1 : σ.set i (some v) = σ := List.set_eq_of_length_le (by omega)
    have e2 : ρ1.set i d = ρ1 := List.set_eq_of_length_le (by omega)
    refine q _ H1 (by simp) (by simp; omega) (Agr.set hC) ?_
    show Items X.K [] H1 ((σ.set i (some v)).zip (ρ1.set i d) ++ l)
    rw [e1, e2]
    exact i1.tail
/-- a, b = e1, e2 -/
def bPar (i j : Nat) (fa : Ev → Option (List Hd × Ev)) : Ev → Option Out := fun ρ => (fa ρ).bind fun p => match tms p.1 with
  | some [d, e] => some (.nx ((p.2.set i d).set j e))
  | _ => none
theorem ds_par (i j : Nat) {x y : Str} {a b : Expr} {px py pt pos : Pos} {kt k2 pt2} {fa : Ev → Option (List Hd × Ev)} (hc : X.calm = true) (hN : X.N.Nodup) (ha : DA X [a, b] fa) (hC : i ∉ C := by decide) (hC2 : j ∉ C := by decide) (hi : X.N[i]? = some x := by rfl) (hj : X.N[j]? = some y := by rfl) (hij : i ≠ j := by decide)
    (hx : X.env.scope.names.lookup x = some .local := by rfl) (hy : X.env.scope.names.lookup y = some .local := by rfl)
    (hw : swappedStores [.Tuple [.Name x px, .Name y py] kt pt] (.Tuple [a, b] k2 pt2) X.env = pure (some [x, y]) := by rfl)
    (hs : swapsWithSole [.Tuple [.Name x px, .Name y py] kt pt] (.Tuple [a, b] k2 pt2) pos.line X.env = pure false := by rfl) :
    DS X C (.Assign [.Tuple [.Name x px, .Name y py] kt pt] (.Tuple [a, b] k2 pt2) pos) (bPar i j fa) := by
  obtain ⟨t, ht, k⟩ := ha.ex
  refine ⟨_, ps_par hc hN hi hj hij hx hy ht hw hs, fun D' σ H ρ l o hl hi hf q => ?_⟩
  obtain ⟨⟨hds, ρ1⟩, e1, hf⟩ := Option.bind_eq_some_iff.mp hf
  split at hf
  · rename_i d e e2
    cases hf
    refine k σ H ρ l _ hds ρ1 hl hi e1 fun vs H1 l1 a1 i1 => ?_
    obtain ⟨k1, k2⟩ := tms_hits e2 (hats_len a1)
    match vs, k2, k1, i1 with
    | [v, w], _, k1, i1 =>
      refine ⟨v, w, rfl, ?_⟩
      rw [k1] at i1
      have i2 : Items X.K [] H1 ((some v, d) :: (σ.zip ρ1 ++ ((some w, e) :: l))) := i1.perm (.cons _ (show List.Perm ((some w, e) :: (σ.zip ρ1 ++ l)) _ from List.perm_middle.symm))
      refine q _ H1 (by simp) (by simp; omega) ((Agr.set hC).trans (Agr.set hC2)) ?_
      have st : ∀ (σ : Sl) (ρ : Ev) (i : Nat) (v : V) (d : D) (l : List Itm), σ.length = ρ.length → Items X.K [] H1 ((some v, d) :: (σ.zip ρ ++ l)) → Items X.K [] H1 ((σ.set i (some v)).zip (ρ.set i d) ++ l) := fun σ ρ i v d l hl hi => by
        by_cases h : i < σ.length
        · exact set_items hl h hi
        · rw [show σ.set i (some v) = σ from List.set_eq_of_length_le (by omega), show ρ.set i d = ρ from List.set_eq_of_length_le (by omega)]
          exact hi.tail
      have i3 := st σ ρ1 i v d _ (by omega) i2
      exact st _ _ j w e l (by simp; omega) (i3.perm List.perm_middle)
  · cases hf
/-- x op= e -/
def bAug (i : Nat) (g : D → D → Option D) (fe : Ev → Option (Hd × Ev)) : Ev → Option Out := fun ρ => (fe ρ).bind fun p => match ρ[i]? with
  | some .any => none
  | none => none
  | some _ => (g (p.2.getD i .any) (p.1.get p.2)).map fun d => .nx (p.2.set i d)
theorem ds_aug (i : Nat) {x : Str} {e : Expr} {op : Operator} {pos' pos : Pos} {r : R2} {g : D → D → Option D} {fe : Ev → Option (Hd × Ev)} (hN : X.N.Nodup) (ho : PIp X op r) (hg : Op2 X.K r g) (he : DH X e fe) (hC : i ∉ C := by decide) (hi : X.N[i]? = some x := by rfl) (hx : Loc X.env.scope x := by first | exact Or.inl rfl | exact Or.inr rfl)
    (hf : X.fn x = true ∨ X.env.scope.names.lookup x = some .local := by first | exact .inl rfl | exact .inr rfl | assumption) : DS X C (.AugAssign (.Name x pos') op e pos) (bAug i g fe) := by
  obtain ⟨t, ht, k⟩ := he.ex
  refine ⟨_, ps_aug hN hi hx ht ho hf, fun D' σ H ρ l o hl hi hf q => ?_⟩
  obtain ⟨⟨h, ρ1⟩, e1, hf⟩ := Option.bind_eq_some_iff.mp hf
  split at hf
  · cases hf
  · cases hf
  · rename_i d0 hd e0
    obtain ⟨d, e2, hf⟩ := Option.map_eq_some_iff.mp hf
    subst hf
    obtain ⟨v, hv⟩ := slot_val hi hl e0 hd
    have hlt : i < σ.length := (List.getElem?_eq_some_iff.mp hv).1
    refine ⟨v, hv, k σ H ρ l _ h ρ1 hl hi e1 fun w H1 l1 a1 i1 => ?_⟩
    have e3 : ρ1[i]? = some (ρ1[i]'(by omega)) := List.getElem?_eq_getElem (by omega)
    have m1 : (some v, ρ1.getD i .any) ∈ h.its w ++ (σ.zip ρ1 ++ l) := by
      rw [getD_of e3]
      exact List.mem_append_right _ (List.mem_append_left _ (zip_mem hv e3))
    refine hg v w H1 _ _ _ _ d i1 m1 (mem_hd (X := X) (hl := by omega) a1 i1) e2 fun z H2 i2 => ?_
    refine q _ H2 (by simp) (by simp; omega) (Agr.set hC) (set_items (by show σ.length = ρ1.length; have l2 : ρ1.length = ρ.length := l1; omega) hlt ?_)
    exact i2.sub ⟨h.its w, List.perm_middle.symm⟩
end
end Mv
end
section
set_option Elab.async false
set_option linter.all false
set_option maxRecDepth 100000
/-! Loops, comprehensions, the program's own defs. -/
namespace Mv
open PySem PySem.Spec PyProof.Rows L2

/-! ### a loop's turns, by fuel; the loop as such -/
def lp {α β : Type} (step : Nat → α → Option (α ⊕ β)) : Nat → Nat → α → Option β
  | 0, _, _ => none
  | n + 1, k, a => (step k a).bind fun s => match s with
    | .inl b => lp step n (k + 1) b
    | .inr o => some o
theorem lp_more {α β : Type} {step : Nat → α → Option (α ⊕ β)} {o : β} : ∀ {n k : Nat} {a : α}, lp step n k a = some o → ∀ m, lp step (n + m) k a = some o
  | 0, _, _, h, _ => by cases h
  | n + 1, k, a, h, m => by
    rw [Nat.add_right_comm]
    obtain ⟨s, e1, e2⟩ := Option.bind_eq_some_iff.mp h
    refine Option.bind_eq_some_iff.mpr ⟨s, e1, ?_⟩
    cases s with
    | inl b => exact lp_more (n := n) e2 m
    | inr o => exact e2
open Classical in
noncomputable def lrun {α β : Type} (step : Nat → α → Option (α ⊕ β)) (a : α) : Option β := if h : ∃ o n, lp step n 0 a = some o then some h.choose else none
theorem lrun_iff {α β : Type} {step : Nat → α → Option (α ⊕ β)} {a : α} {o : β} : lrun step a = some o ↔ ∃ n, lp step n 0 a = some o := by
  constructor
  · intro h
    unfold lrun at h
    split at h
    · rename_i hx
      cases h
      exact hx.choose_spec
    · cases h
  · rintro ⟨n, h⟩
    have hx : ∃ o n, lp step n 0 a = some o := ⟨o, n, h⟩
    unfold lrun
    rw [dif_pos hx]
    obtain ⟨m, hm⟩ := hx.choose_spec
    have h1 := lp_more h m
    have h2 := lp_more hm n
    rw [Nat.add_comm] at h2
    rw [h1] at h2
    exact h2.symm
/-- a loop by what holds between its turns -/
theorem lp_inv {α β : Type} {step : Nat → α → Option (α ⊕ β)} (P : Nat → α → Prop) (Q : β → Prop) (μ : Nat → α → Nat) (hs : ∀ k a, P k a → ∃ s, step k a = some s ∧ match s with
    | .inl b => P (k + 1) b ∧ μ (k + 1) b < μ k a
    | .inr o => Q o) : ∀ (m k : Nat) (a : α), μ k a < m → P k a → ∃ o, lp step m k a = some o ∧ Q o
  | 0, _, _, h, _ => absurd h (Nat.not_lt_zero _)
  | m + 1, k, a, hm, h => by
    obtain ⟨s, e, h1⟩ := hs k a h
    cases s with
    | inr o => exact ⟨o, by unfold lp; rw [e]; rfl, h1⟩
    | inl b =>
      obtain ⟨o, e2, q⟩ := lp_inv P Q μ hs m (k + 1) b (by omega) h1.1
      exact ⟨o, by unfold lp; rw [e]; exact e2, q⟩
theorem lrun_inv {α β : Type} {step : Nat → α → Option (α ⊕ β)} (P : Nat → α → Prop) (Q : β → Prop) (μ : Nat → α → Nat) {a : α} (h0 : P 0 a) (hs : ∀ k a, P k a → ∃ s, step k a = some s ∧ match s with
    | .inl b => P (k + 1) b ∧ μ (k + 1) b < μ k a
    | .inr o => Q o) : ∃ o, lrun step a = some o ∧ Q o := by
  obtain ⟨o, e, q⟩ := lp_inv P Q μ hs (μ 0 a + 1) 0 a (by omega) h0
  exact ⟨o, lrun_iff.mpr ⟨_, e⟩, q⟩

abbrev Src := Nat → Ev → Option (Option D)
def fStep (it : Src) (g : D → Ev → Option Ev) (body : Ev → Option Out) : Nat → Ev → Option (Ev ⊕ Out) := fun k ρ => (it k ρ).bind fun x => match x with
  | none => some (.inr (.nx ρ))
  | some d => (g d ρ).bind fun ρ1 => (body ρ1).map fun o => match o with
    | .nx ρ2 => .inl ρ2
    | .ct ρ2 => .inl ρ2
    | .bk ρ2 => .inr (.nx ρ2)
    | .rt d ρ2 => .inr (.rt d ρ2)
noncomputable def bFor (fi : Ev → Option (Src × Ev)) (g : D → Ev → Option Ev) (body : Ev → Option Out) : Ev → Option Out := fun ρ => (fi ρ).bind fun p => lrun (fStep p.1 g body) p.2
def wStep (c : Ev → Option (Bool × Ev)) (body : Ev → Option Out) : Nat → Ev → Option (Ev ⊕ Out) := fun _ ρ => (c ρ).bind fun p => if p.1 = true then (body p.2).map fun o => match o with
    | .nx ρ2 => .inl ρ2
    | .ct ρ2 => .inl ρ2
    | .bk ρ2 => .inr (.nx ρ2)
    | .rt d ρ2 => .inr (.rt d ρ2)
  else some (.inr (.nx p.2))
noncomputable def bWhile (c : Ev → Option (Bool × Ev)) (body : Ev → Option Out) : Ev → Option Out := fun ρ => lrun (wStep c body) ρ

section
variable (X : Cx)
def ItOk (C : List Nat) (σ : Sl) (held : List Itm) (J : It) (it : Src) : Prop := ∀ (k : Nat) (σ1 : Sl) (ρ1 : Ev) (H1 : Hp) (l1 : List Itm), Agr C σ σ1 → σ1.length = σ.length → ρ1.length = σ.length → Items X.K [] H1 (σ1.zip ρ1 ++ (held ++ l1)) →
  (it k ρ1 = some none → J.stop k H1) ∧ ∀ d, it k ρ1 = some (some d) → J.go k H1 ∧ ∀ x H2, J.yld k H1 x H2 → Items X.K [] H2 ((some x, d) :: (σ1.zip ρ1 ++ (held ++ l1)))
structure DI (C : List Nat) (tg iter : Expr) (f : Ev → Option (Src × Ev)) : Prop where
  ex : ∃ t, PI X tg iter t ∧ ∀ (σ : Sl) (H : Hp) (ρ : Ev) (l : List Itm) (R : It → Hp → Prop) (it : Src) (ρ' : Ev), σ.length = ρ.length → Items X.K [] H (σ.zip ρ ++ l) → f ρ = some (it, ρ') →
    (∀ J H' held, ρ'.length = ρ.length → Items X.K [] H' (σ.zip ρ' ++ (held ++ l)) → ItOk X C σ held J it → R J H') → t σ H R
end
section
variable {X : Cx} {C : List Nat}
theorem ds_for {tg iter : Expr} {body : List Stmt} {pos : Pos} {fi : Ev → Option (Src × Ev)} {g : D → Ev → Option Ev} {fb : Ev → Option Out} (C2 : List Nat) (hc : X.calm = true) (hi : DI X C2 tg iter fi) (hg : DG X C2 tg g) (hb : DSs X C2 body fb) (hC : ∀ i ∈ C, i ∈ C2 := by decide)
    (hp : PassesOwn (model X.prog X.w) X.A X.env X.xe := by exact PassesOwn.never) (hs : ∀ x, foldedSetIterable iter X.env x = pure x := by intro _; rfl) : DS X C (.For tg iter body [] pos) (bFor fi g fb) := by
  obtain ⟨ti, pi, ki⟩ := hi.ex
  obtain ⟨tg', pg, kg⟩ := hg.ex
  obtain ⟨tb, pb, kb⟩ := hb.ex
  refine ⟨_, ps_for hp hc pi pg pb hs, fun D' σ H ρ l o hl hI hf q => ?_⟩
  obtain ⟨⟨it, ρ0⟩, e1, hf⟩ := Option.bind_eq_some_iff.mp hf
  obtain ⟨n0, hf⟩ := lrun_iff.mp hf
  refine ki σ H ρ l _ it ρ0 hl hI e1 fun J H' held l1 i1 ok => ?_
  refine ⟨fun k m σ1 H1 => ∃ ρ1, Agr C2 σ σ1 ∧ σ1.length = σ.length ∧ ρ1.length = σ.length ∧ Items X.K [] H1 (σ1.zip ρ1 ++ (held ++ l)) ∧ lp (fStep it g fb) m k ρ1 = some o, ⟨n0, ρ0, Agr.refl, rfl, by omega, i1, hf⟩, ?_⟩
  rintro k m σ1 H1 ⟨ρ1, ag, h1, h2, i2, e2⟩
  obtain ⟨ks, kn⟩ := ok k σ1 ρ1 H1 l ag h1 h2 i2
  cases m with
  | zero => cases e2
  | succ m =>
    obtain ⟨s, e3, e4⟩ := Option.bind_eq_some_iff.mp e2
    obtain ⟨x, e5, e6⟩ := Option.bind_eq_some_iff.mp e3
    have agC : Agr C σ σ1 := fun i hi => ag i (hC i hi)
    cases x with
    | none =>
      cases e6
      cases e4
      exact .inl ⟨ks e5, q σ1 H1 h1 h2 agC (i2.sub ⟨held, perm_mid⟩)⟩
    | some d =>
      obtain ⟨kg1, ky⟩ := kn d e5
      obtain ⟨ρ2, e7, e8⟩ := Option.bind_eq_some_iff.mp e6
      obtain ⟨o1, e9, e10⟩ := Option.map_eq_some_iff.mp e8
      refine .inr ⟨kg1, fun σ' H' => ∃ ρ', s = .inl ρ' ∧ Agr C2 σ σ' ∧ σ'.length = σ.length ∧ ρ'.length = σ.length ∧ Items X.K [] H' (σ'.zip ρ' ++ (held ++ l)), ?_, ?_⟩
      · rintro σ' H' ⟨ρ', es, a', b1, b2, i3⟩
        subst es
        exact ⟨m, Nat.lt_succ_self m, ρ', a', b1, b2, i3, e4⟩
      · intro x H2 hy
        have i3 := ky x H2 hy
        refine kg x d σ1 H2 ρ1 (held ++ l) _ ρ2 (by omega) i3 e7 fun σ3 H3 m1 m2 a3 i4 => ?_
        refine kb _ σ3 H3 ρ2 (held ++ l) o1 (by omega) i4 e9 ?_
        cases o1 with
        | nx ρ3 =>
          exact fun σ4 H4 m3 m4 a4 i5 => ⟨ρ3, e10.symm, (ag.trans a3).trans a4, by omega, by omega, i5⟩
        | ct ρ3 =>
          exact fun σ4 H4 m3 m4 a4 i5 => ⟨ρ3, e10.symm, (ag.trans a3).trans a4, by omega, by omega, i5⟩
        | bk ρ3 =>
          subst e10
          cases e4
          exact fun σ4 H4 m3 m4 a4 i5 => q σ4 H4 (by omega) (by omega) (fun i hi => ((ag.trans a3).trans a4) i (hC i hi)) (i5.sub ⟨held, perm_mid⟩)
        | rt d2 ρ3 =>
          subst e10
          cases e4
          exact fun v σ4 H4 m3 m4 a4 i5 => q v σ4 H4 (by omega) (by omega) (fun i hi => ((ag.trans a3).trans a4) i (hC i hi)) (i5.sub ⟨held, (List.Perm.cons _ perm_mid).trans List.perm_middle.symm⟩)
theorem ds_while {c : Expr} {body : List Stmt} {pos : Pos} {fc : Ev → Option (Bool × Ev)} {fb : Ev → Option Out} (hc : DT X c fc) (hb : DSs X C body fb) (hp : PassesOwn (model X.prog X.w) X.A X.env X.xe := by exact PassesOwn.never) :
    DS X C (.While c body [] pos) (bWhile fc fb) := by
  obtain ⟨tc, pc, kc⟩ := hc.ex
  obtain ⟨tb, pb, kb⟩ := hb.ex
  refine ⟨_, ps_while hp pc pb, fun D' σ H ρ l o hl hI hf q => ?_⟩
  obtain ⟨n0, hf⟩ := lrun_iff.mp hf
  refine ⟨fun m σ1 H1 => ∃ ρ1 k, Agr C σ σ1 ∧ σ1.length = σ.length ∧ ρ1.length = σ.length ∧ Items X.K [] H1 (σ1.zip ρ1 ++ l) ∧ lp (wStep fc fb) m k ρ1 = some o, ⟨n0, ρ, 0, Agr.refl, rfl, hl.symm, hI, hf⟩, ?_⟩
  rintro m σ1 H1 ⟨ρ1, k, ag, h1, h2, i2, e2⟩
  cases m with
  | zero => cases e2
  | succ m =>
    obtain ⟨s, e3, e4⟩ := Option.bind_eq_some_iff.mp e2
    obtain ⟨⟨b, ρ2⟩, e5, e6⟩ := Option.bind_eq_some_iff.mp e3
    refine kc σ1 H1 ρ1 l _ b ρ2 (by omega) i2 e5 fun H2 m1 i3 => ?_
    cases b with
    | false =>
      rw [if_neg Bool.false_ne_true] at e6
      rw [if_neg Bool.false_ne_true]
      cases e6
      cases e4
      exact q σ1 H2 h1 (by show ρ2.length = _; omega) ag i3
    | true =>
      rw [if_pos rfl] at e6
      rw [if_pos rfl]
      obtain ⟨o1, e9, e10⟩ := Option.map_eq_some_iff.mp e6
      refine ⟨fun σ' H' => ∃ ρ', s = .inl ρ' ∧ Agr C σ σ' ∧ σ'.length = σ.length ∧ ρ'.length = σ.length ∧ Items X.K [] H' (σ'.zip ρ' ++ l), ?_, ?_⟩
      · rintro σ' H' ⟨ρ', es, a', b1, b2, i4⟩
        subst es
        exact ⟨m, Nat.lt_succ_self m, ρ', k + 1, a', b1, b2, i4, e4⟩
      · refine kb _ σ1 H2 ρ2 l o1 (by omega) i3 e9 ?_
        cases o1 with
        | nx ρ3 => exact fun σ4 H4 m3 m4 a4 i5 => ⟨ρ3, e10.symm, ag.trans a4, by omega, by omega, i5⟩
        | ct ρ3 => exact fun σ4 H4 m3 m4 a4 i5 => ⟨ρ3, e10.symm, ag.trans a4, by omega, by omega, i5⟩
        | bk ρ3 =>
          subst e10
          cases e4
          exact fun σ4 H4 m3 m4 a4 i5 => q σ4 H4 (by omega) (by omega) (ag.trans a4) i5
        | rt d2 ρ3 =>
          subst e10
          cases e4
          exact fun v σ4 H4 m3 m4 a4 i5 => q v σ4 H4 (by omega) (by omega) (ag.trans a4) i5

/-! ### what is walked -/
def itD (d : D) (k : Nat) : Option (Option D) := match d with
  | .lst _ ds => match ds[k]? with
    | some c => if c.frz = true then some (some c) else none
    | none => some none
  | .cst ds => match ds[k]? with
    | some c => if c.frz = true then some (some c) else none
    | none => some none
  | .tup ds => match ds[k]? with
    | some c => if c.frz = true then some (some c) else none
    | none => some none
  | .str x => match x.cps[k]? with
    | some c => some (some (.str ⟨#[c]⟩))
    | none => some none
  | _ => none
def isL : D → Bool
  | .lst _ _ => true
  | .cst _ => true
  | _ => false
def isT : D → Bool
  | .tup _ => true
  | _ => false
def isS : D → Bool
  | .str _ => true
  | _ => false
/-- one kind all the time -/
def itK (kd : D → Bool) (h : Hd) : Src := fun k ρ => if kd (h.get ρ) = true then itD (h.get ρ) k else none
def iSq (f : Ev → Option (Hd × Ev)) : Ev → Option (Src × Ev) := fun ρ => (f ρ).bind fun p => match p.1.get p.2 with
  | .lst _ _ => some (itK isL p.1, p.2)
  | .cst _ => some (itK isL p.1, p.2)
  | .tup _ => some (itK isT p.1, p.2)
  | .str _ => some (itK isS p.1, p.2)
  | _ => none
def iAny (K : Frg) (te : TE) : TI := fun σ H R => te σ H fun x H1 => (∃ a xs, x = .ref a ∧ SqL K H1 a xs ∧ R (Itl K a) H1) ∨ (∃ a xs, x = .ref a ∧ SqT K H1 a xs ∧ R (Itt K a) H1) ∨ ∃ z, x = .str z ∧ R (Its z) H1
theorem pi_any {tg e : Expr} {te : TE} (he : PE X e te) : PI X tg e (iAny X.K te) := by
  constructor
  intro pins s σ H R I h
  refine thn (he.run pins s σ H _ I h) ?_
  rintro v s1 ⟨x, H1, I1, r1, q1⟩
  rcases q1 with ⟨a, xs, rfl, hq, q⟩ | ⟨a, xs, rfl, hq, q⟩ | ⟨z, rfl, q⟩
  · cases r1
    obtain ⟨its, rv, pl, hz⟩ := I1.list hq
    refine wpAny_pyIter_list pl.isList ⟨_, [s1.heap.objs.size], _, _, H1, rfl, ?_, turn_list a s1.heap.objs.size, ?_, ?_, q⟩
    · exact I1.kept (t' := s1.toks) fun b o eb => Heap.get?_push_of_some _ eb
    · exact ⟨_, Heap.get?_push_size _ rfl, rfl, rfl⟩
    · intro b hb
      rw [List.mem_singleton] at hb
      subst hb
      exact I1.fpOk (Nat.le_refl _) (I1.hok.fresh (Nat.le_refl _))
  · cases r1
    obtain ⟨its, rv, pt, hz⟩ := I1.tuple hq
    have ht : s1.heap.IsTuple a its.toArray := pt
    refine wpAny_pyIter_tuple ht ⟨_, [s1.heap.objs.size], _, _, H1, rfl, ?_, turn_tuple a s1.heap.objs.size, ?_, ?_, q⟩
    · exact I1.kept (t' := s1.toks) fun b o eb => Heap.get?_push_of_some _ eb
    · exact ⟨_, Heap.get?_push_size _ rfl, rfl, rfl⟩
    · intro b hb
      rw [List.mem_singleton] at hb
      subst hb
      exact I1.fpOk (Nat.le_refl _) (I1.hok.fresh (Nat.le_refl _))
  · obtain ⟨t, rfl⟩ := r1
    cases ha : z.cps.all (· < 128)
    · refine wpAny_pyIter_wide ha (pi_one (tk := s1.toks) I1 _ (turn_str _ z t "str_iterator" ?_) ?_ q)
      · exact .inr rfl
      · exact ⟨_, Heap.get?_push_size _ rfl, rfl, rfl⟩
    · refine wpAny_pyIter_ascii ha (pi_one (tk := s1.toks) I1 _ (turn_str _ z t "str_ascii_iterator" ?_) ?_ q)
      · exact .inl rfl
      · exact ⟨_, Heap.get?_push_size _ rfl, rfl, rfl⟩
def hsl (C : List Nat) : Hd → Prop
  | .sl i => i ∈ C
  | .tm _ => True
theorem SqL.fun {K : Frg} {P : Program} {w : World} {H : Hp} {a : Addr} {xs ys : List V} (h : H a = some (.lst xs)) (h' : SqL K H a ys) (hK : ∀ o, K.lookup a = some o → False) : xs = ys := by
  rcases h' with (h' | ⟨o, h'⟩) | ⟨o, _, _, h', _⟩
  · rw [h] at h'; cases h'; rfl
  · rw [h] at h'; cases h'
  · exact (hK o h').elim
theorem it_item {K : Frg} {H : Hp} {l : List Itm} {v : V} {d : D} (hi : Items K [] H l) (hm : (some v, d) ∈ l) (k : Nat) :
    (∀ b ds, d = .lst b ds → ∃ a, v = .ref a ∧ (itD d k = some none → (Itl K a).stop k H) ∧ ∀ c, itD d k = some (some c) → (Itl K a).go k H ∧ ∀ x H2, (Itl K a).yld k H x H2 → Items K [] H2 ((some x, c) :: l)) ∧
    (∀ ds, d = .cst ds → ∃ a, v = .ref a ∧ (itD d k = some none → (Itl K a).stop k H) ∧ ∀ c, itD d k = some (some c) → (Itl K a).go k H ∧ ∀ x H2, (Itl K a).yld k H x H2 → Items K [] H2 ((some x, c) :: l)) ∧
    (∀ ds, d = .tup ds → ∃ a, v = .ref a ∧ (itD d k = some none → (Itt K a).stop k H) ∧ ∀ c, itD d k = some (some c) → (Itt K a).go k H ∧ ∀ x H2, (Itt K a).yld k H x H2 → Items K [] H2 ((some x, c) :: l)) ∧
    (∀ z, d = .str z → v = .str z ∧ (itD d k = some none → (Its z).stop k H) ∧ ∀ c, itD d k = some (some c) → (Its z).go k H ∧ ∀ x H2, (Its z).yld k H x H2 → Items K [] H2 ((some x, c) :: l)) := by
  have key : ∀ (ds : List D) (xs : List V) (P : Prop) (c : D), xs.length = ds.length → (match ds[k]? with
    | some c => if c.frz = true then some (some c) else none
    | none => some (none : Option D)) = some (some c) → ds[k]? = some c ∧ c.frz = true ∧ ∃ x, xs[k]? = some x := fun ds xs P c hl h => by
    split at h
    · rename_i c' e
      split at h
      · rename_i z
        cases h
        have : k < xs.length := by rw [hl]; exact (List.getElem?_eq_some_iff.mp e).1
        exact ⟨e, z, _, List.getElem?_eq_getElem this⟩
      · cases h
    · cases h
  have stp : ∀ (ds : List D) (xs : List V), xs.length = ds.length → (match ds[k]? with
    | some c => if c.frz = true then some (some c) else none
    | none => some (none : Option D)) = some none → xs.length ≤ k := fun ds xs hl h => by
    split at h
    · split at h <;> cases h
    · rename_i e
      rw [hl]
      exact List.getElem?_eq_none_iff.mp e
  refine ⟨?_, ?_, ?_, ?_⟩
  · rintro b ds rfl
    obtain ⟨a, xs, rfl, hs, hl, _, hd⟩ := hi.list hm
    refine ⟨a, rfl, fun h => ⟨xs, SqL.of hs, stp ds xs hl h⟩, fun c h => ?_⟩
    obtain ⟨e1, z, x, e2⟩ := key ds xs True c hl h
    refine ⟨⟨xs, x, SqL.of hs, e2⟩, fun y H2 hy => ?_⟩
    obtain ⟨rfl, hy⟩ := hy
    exact hd k c y e1 (hy xs (SqL.of hs)) z
  · rintro ds rfl
    obtain ⟨a, xs, rfl, hs, hl, _, hd⟩ := hi.const hm
    refine ⟨a, rfl, fun h => ⟨xs, hs, stp ds xs hl h⟩, fun c h => ?_⟩
    obtain ⟨e1, z, x, e2⟩ := key ds xs True c hl h
    refine ⟨⟨xs, x, hs, e2⟩, fun y H2 hy => ?_⟩
    obtain ⟨rfl, hy⟩ := hy
    exact hd k c y e1 (hy xs hs) z
  · rintro ds rfl
    obtain ⟨a, xs, rfl, hs, hl, _, hd⟩ := hi.tuple hm
    refine ⟨a, rfl, fun h => ⟨xs, hs, stp ds xs hl h⟩, fun c h => ?_⟩
    obtain ⟨e1, z, x, e2⟩ := key ds xs True c hl h
    refine ⟨⟨xs, x, hs, e2⟩, fun y H2 hy => ?_⟩
    obtain ⟨rfl, hy⟩ := hy
    exact hd k c y e1 (hy xs hs) z
  · rintro z rfl
    have hv : v = .str z := hi.view hm
    refine ⟨hv, fun h => ?_, fun c h => ?_⟩
    · show z.cps.size ≤ k
      replace h : (match z.cps[k]? with
        | some c => some (some (D.str ⟨#[c]⟩))
        | none => some (none : Option D)) = some none := h
      split at h
      · cases h
      · rename_i e
        simpa using e
    · replace h : (match z.cps[k]? with
        | some c => some (some (D.str ⟨#[c]⟩))
        | none => some (none : Option D)) = some (some c) := h
      split at h
      · rename_i u e
        cases h
        have hk : k < z.cps.size := by
          rw [Array.getElem?_eq_some_iff] at e
          exact e.1
        refine ⟨hk, fun x H2 hy => ?_⟩
        obtain ⟨rfl, w, e2, rfl⟩ := hy
        rw [e] at e2
        cases e2
        exact hi.add rfl fun _ _ => rfl
      · cases h
theorem di_any {tg e : Expr} {f : Ev → Option (Hd × Ev)} (h : DH X e f) (hC : ∀ ρ hd ρ', f ρ = some (hd, ρ') → hsl C hd) : DI X C tg e (iSq f) := by
  obtain ⟨t, ht, k⟩ := h.ex
  refine ⟨_, pi_any ht, fun σ H ρ l R it ρ' hl hi hf q => ?_⟩
  obtain ⟨⟨hd, ρ1⟩, e1, hf⟩ := Option.bind_eq_some_iff.mp hf
  refine k σ H ρ l _ hd ρ1 hl hi e1 fun v H1 l1 a1 i1 => ?_
  have hh := hC ρ hd ρ1 e1
  have m1 := mem_hd (X := X) (hl := by omega) a1 i1
  -- at a later turn the operand is still there
  have late : ∀ (σ1 : Sl) (ρ2 : Ev) (H2 : Hp) (l1 : List Itm), Agr C σ σ1 → σ1.length = σ.length → ρ2.length = σ.length → Items X.K [] H2 (σ1.zip ρ2 ++ (hd.its v ++ l1)) → (some v, hd.get ρ2) ∈ σ1.zip ρ2 ++ (hd.its v ++ l1) := fun σ1 ρ2 H2 l1 ag h1 h2 i2 => by
    cases hd with
    | tm d => simp [Hd.its, Hd.get]
    | sl i =>
      have a1' : σ[i]? = some (some v) := a1
      have a2 : σ1[i]? = some (some v) := by rw [ag i hh]; exact a1'
      have h3 : i < ρ2.length := by have := (List.getElem?_eq_some_iff.mp a2).1; omega
      have h4 : ρ2[i]? = some ρ2[i] := List.getElem?_eq_getElem h3
      show (some v, ρ2.getD i .any) ∈ _
      rw [getD_of h4]
      exact List.mem_append_left _ (zip_mem a2 h4)
  have i1' : Items X.K [] H1 (σ.zip ρ1 ++ (hd.its v ++ l)) := i1.perm perm_mid
  have item := fun (σ1 : Sl) (ρ2 : Ev) (H2 : Hp) (l1 : List Itm) (k : Nat) (ag : Agr C σ σ1) (h1 : σ1.length = σ.length) (h2 : ρ2.length = σ.length) (i2 : Items X.K [] H2 (σ1.zip ρ2 ++ (hd.its v ++ l1))) => it_item i2 (late σ1 ρ2 H2 l1 ag h1 h2 i2) k
  have i1' : Items X.K [] H1 (σ.zip ρ1 ++ (hd.its v ++ l)) := i1.perm perm_mid
  -- a list
  have okL : ∀ a xs, v = .ref a → SqL X.K H1 a xs → it = itK isL hd → ρ' = ρ1 → iAny X.K t σ H R → True := fun _ _ _ _ _ _ _ => trivial
  have doL : ∀ a xs, v = .ref a → SqL X.K H1 a xs → it = itK isL hd → ρ1 = ρ' → R (Itl X.K a) H1 := by
    rintro a xs rfl hs rfl rfl
    refine q _ H1 (hd.its (.ref a)) l1 i1' fun k σ1 ρ2 H2 l2 ag h1 h2 i2 => ?_
    obtain ⟨it1, it2, it3, it4⟩ := item σ1 ρ2 H2 l2 k ag h1 h2 i2
    unfold itK
    cases e : hd.get ρ2 with
    | lst b ds =>
      obtain ⟨a', ev, p1, p2⟩ := it1 b ds e
      cases ev
      rw [e] at p1 p2
      exact ⟨fun h => p1 h, fun d h => p2 d h⟩
    | cst ds =>
      obtain ⟨a', ev, p1, p2⟩ := it2 ds e
      cases ev
      rw [e] at p1 p2
      exact ⟨fun h => p1 h, fun d h => p2 d h⟩
    | _ => exact ⟨fun h => (by cases h), fun d h => (by cases h)⟩
  have doT : ∀ a xs, v = .ref a → SqT X.K H1 a xs → it = itK isT hd → ρ1 = ρ' → R (Itt X.K a) H1 := by
    rintro a xs rfl hs rfl rfl
    refine q _ H1 (hd.its (.ref a)) l1 i1' fun k σ1 ρ2 H2 l2 ag h1 h2 i2 => ?_
    obtain ⟨it1, it2, it3, it4⟩ := item σ1 ρ2 H2 l2 k ag h1 h2 i2
    unfold itK
    cases e : hd.get ρ2 with
    | tup ds =>
      obtain ⟨a', ev, p1, p2⟩ := it3 ds e
      cases ev
      rw [e] at p1 p2
      exact ⟨fun h => p1 h, fun d h => p2 d h⟩
    | _ => exact ⟨fun h => (by cases h), fun d h => (by cases h)⟩
  have doS : ∀ z, v = .str z → it = itK isS hd → ρ1 = ρ' → R (Its z) H1 := by
    rintro z rfl rfl rfl
    refine q _ H1 (hd.its (.str z)) l1 i1' fun k σ1 ρ2 H2 l2 ag h1 h2 i2 => ?_
    obtain ⟨it1, it2, it3, it4⟩ := item σ1 ρ2 H2 l2 k ag h1 h2 i2
    unfold itK
    cases e : hd.get ρ2 with
    | str z' =>
      obtain ⟨ev, p1, p2⟩ := it4 z' e
      cases ev
      rw [e] at p1 p2
      exact ⟨fun h => p1 h, fun d h => p2 d h⟩
    | _ => exact ⟨fun h => (by cases h), fun d h => (by cases h)⟩
  show (∃ a xs, v = .ref a ∧ SqL X.K H1 a xs ∧ R (Itl X.K a) H1) ∨ (∃ a xs, v = .ref a ∧ SqT X.K H1 a xs ∧ R (Itt X.K a) H1) ∨ ∃ z, v = .str z ∧ R (Its z) H1
  replace hf : (match hd.get ρ1 with
    | .lst _ _ => some (itK isL hd, ρ1)
    | .cst _ => some (itK isL hd, ρ1)
    | .tup _ => some (itK isT hd, ρ1)
    | .str _ => some (itK isS hd, ρ1)
    | _ => none) = some (it, ρ') := hf
  cases e : hd.get ρ1 with
  | lst b ds =>
    rw [e] at hf m1
    obtain ⟨a, xs, ev, hs, _⟩ := i1.list m1
    exact .inl ⟨a, xs, ev, SqL.of hs, doL a xs ev (SqL.of hs) (by cases hf; rfl) (by cases hf; rfl)⟩
  | cst ds =>
    rw [e] at hf m1
    obtain ⟨a, xs, ev, hs, _⟩ := i1.const m1
    exact .inl ⟨a, xs, ev, hs, doL a xs ev hs (by cases hf; rfl) (by cases hf; rfl)⟩
  | tup ds =>
    rw [e] at hf m1
    obtain ⟨a, xs, ev, hs, _⟩ := i1.tuple m1
    exact .inr (.inl ⟨a, xs, ev, hs, doT a xs ev hs (by cases hf; rfl) (by cases hf; rfl)⟩)
  | str z =>
    rw [e] at hf m1
    have ev : v = .str z := i1.view m1
    exact .inr (.inr ⟨z, ev, doS z ev (by cases hf; rfl) (by cases hf; rfl)⟩)
  | _ => rw [e] at hf; cases hf
/-- for .. in range(..) -/
def itR (lo c : Int) (n : Nat) : Src := fun k _ => if k < n then some (some (.int (lo + (k : Int) * c))) else some none
def iRg1 (fa : Ev → Option (List Hd × Ev)) : Ev → Option (Src × Ev) := fun ρ => (fa ρ).bind fun p => match p.1.map (Hd.get p.2) with
  | [.int j] => if -(2 ^ 62) ≤ j ∧ j < 2 ^ 62 then some (itR 0 1 j.toNat, p.2) else none
  | _ => none
def iRg2 (fa : Ev → Option (List Hd × Ev)) : Ev → Option (Src × Ev) := fun ρ => (fa ρ).bind fun p => match p.1.map (Hd.get p.2) with
  | [.int i, .int j] => if -(2 ^ 62) ≤ i ∧ i < 2 ^ 62 ∧ -(2 ^ 62) ≤ j ∧ j < 2 ^ 62 then some (itR i 1 (j - i).toNat, p.2) else none
  | _ => none
theorem itR_ok {C : List Nat} {σ : Sl} {lo : Int} {n : Nat} : ItOk X C σ [] (Itr lo n) (itR lo 1 n) := fun k σ1 ρ1 H1 l1 ag h1 h2 i1 => by
  unfold itR
  by_cases hk : k < n
  · rw [if_pos hk]
    refine ⟨fun h => (by cases h), fun d h => ?_⟩
    cases h
    refine ⟨hk, fun x H2 hy => ?_⟩
    obtain ⟨rfl, rfl⟩ := hy
    rw [Int.mul_one]
    exact i1.add rfl fun _ _ => rfl
  · rw [if_neg hk]
    exact ⟨fun _ => Nat.le_of_not_lt hk, fun d h => (by cases h)⟩
theorem di_range1 {a : Expr} {tg : Expr} {fa : Ev → Option (List Hd × Ev)} {p pos : Pos} (hg : Gl X "range") (hm : X.mg "range" = none) (ha : DA X [a] fa) (hs : starEach [a] X.env = [(false, eval a X.env)] := by rfl) : DI X C tg (.Call (.Name "range" p) [a] [] pos) (iRg1 fa) := by
  obtain ⟨t, ht, k⟩ := ha.ex
  refine ⟨_, pi_range1 hg hm ht hs, fun σ H ρ l R it ρ' hl hi hf q => ?_⟩
  obtain ⟨⟨hds, ρ1⟩, e1, hf⟩ := Option.bind_eq_some_iff.mp hf
  refine k σ H ρ l _ hds ρ1 hl hi e1 fun vs H1 l1 a1 i1 => ?_
  have hm := mem_hits (K := X.K) (H := H1) (ρ := ρ1) (by omega) (l := l) a1
  replace hf : (match hds.map (Hd.get ρ1) with
    | [.int j] => if -(2 ^ 62) ≤ j ∧ j < 2 ^ 62 then some (itR 0 1 j.toNat, ρ1) else none
    | _ => none) = some (it, ρ') := hf
  split at hf
  · rename_i j e
    rw [e] at hm
    cases hm with
    | cons m1 mr =>
      cases mr
      rename_i x
      have hx : x = .int j := i1.view m1
      subst hx
      split at hf
      · rename_i hj
        cases hf
        refine ⟨j, rfl, hj.1, hj.2, q (Itr 0 j.toNat) H1 [] l1 ?_ itR_ok⟩
        exact i1.drop
      · cases hf
  · cases hf
theorem di_range2 {a b : Expr} {tg : Expr} {fa : Ev → Option (List Hd × Ev)} {p pos : Pos} (hg : Gl X "range") (hm : X.mg "range" = none) (ha : DA X [a, b] fa) (hs : starEach [a, b] X.env = [(false, eval a X.env), (false, eval b X.env)] := by rfl) (hs2 : starEach [b] X.env = [(false, eval b X.env)] := by rfl) :
    DI X C tg (.Call (.Name "range" p) [a, b] [] pos) (iRg2 fa) := by
  obtain ⟨t, ht, k⟩ := ha.ex
  refine ⟨_, pi_range2 hg hm ht hs hs2, fun σ H ρ l R it ρ' hl hi hf q => ?_⟩
  obtain ⟨⟨hds, ρ1⟩, e1, hf⟩ := Option.bind_eq_some_iff.mp hf
  refine k σ H ρ l _ hds ρ1 hl hi e1 fun vs H1 l1 a1 i1 => ?_
  have hm := mem_hits (K := X.K) (H := H1) (ρ := ρ1) (by omega) (l := l) a1
  replace hf : (match hds.map (Hd.get ρ1) with
    | [.int i, .int j] => if -(2 ^ 62) ≤ i ∧ i < 2 ^ 62 ∧ -(2 ^ 62) ≤ j ∧ j < 2 ^ 62 then some (itR i 1 (j - i).toNat, ρ1) else none
    | _ => none) = some (it, ρ') := hf
  split at hf
  · rename_i i j e
    rw [e] at hm
    cases hm with
    | cons m1 mr =>
      cases mr with
      | cons m2 mr =>
        cases mr
        rename_i x y
        have hx : x = .int i := i1.view m1
        have hy : y = .int j := i1.view m2
        subst hx hy
        split at hf
        · rename_i hj
          cases hf
          refine ⟨i, j, rfl, hj, q (Itr i (j - i).toNat) H1 [] l1 ?_ itR_ok⟩
          exact i1.drop
        · cases hf
  · cases hf
end
end Mv
end
section
set_option Elab.async false
set_option linter.all false
set_option maxRecDepth 100000
/-! Comprehensions; the program's own defs. -/
namespace Mv
open PySem PySem.Spec PyProof.Rows L2

section
variable {X : Cx} {C : List Nat}
/-! ### a comprehension's own names -/
def wipeD (ρ : Ev) : List Nat → Ev
  | [] => ρ
  | v :: vs => (wipeD ρ vs).set v .any
def hold (σ : Sl) (ρ : Ev) : List Nat → List Itm
  | [] => []
  | v :: vs => ((σ[v]?).getD none, ρ.getD v .any) :: hold σ ρ vs
/-- the outer data at those places again -/
def unw (ρ : Ev) : List Nat → Ev → Ev
  | [], ρ2 => ρ2
  | v :: vs, ρ2 => unw ρ vs (ρ2.set v (ρ.getD v .any))
def unwS (σ : Sl) : List Nat → Sl → Sl
  | [], σ2 => σ2
  | v :: vs, σ2 => unwS σ vs (σ2.set v ((σ[v]?).getD none))
theorem wipeD_len (ρ : Ev) : ∀ vs, (wipeD ρ vs).length = ρ.length
  | [] => rfl
  | v :: vs => by unfold wipeD; rw [List.length_set, wipeD_len ρ vs]
theorem unw_len (ρ : Ev) : ∀ vs ρ2, (unw ρ vs ρ2).length = ρ2.length
  | [], _ => rfl
  | v :: vs, ρ2 => by unfold unw; rw [unw_len ρ vs]; simp
theorem unwS_len (σ : Sl) : ∀ vs σ2, (unwS σ vs σ2).length = σ2.length
  | [], _ => rfl
  | v :: vs, σ2 => by unfold unwS; rw [unwS_len σ vs]; simp
theorem wipe_get (σ : Sl) {i : Nat} : ∀ {vs : List Nat}, i ∉ vs → (wipe σ vs)[i]? = σ[i]?
  | [], _ => rfl
  | v :: vs, h => by
    unfold wipe
    have hne : v ≠ i := fun z => h (by simp [z])
    rw [List.getElem?_set_ne hne]
    exact wipe_get σ fun z => h (by simp [z])
theorem wipeD_get (ρ : Ev) {i : Nat} : ∀ {vs : List Nat}, i ∉ vs → (wipeD ρ vs)[i]? = ρ[i]?
  | [], _ => rfl
  | v :: vs, h => by
    unfold wipeD
    have hne : v ≠ i := fun z => h (by simp [z])
    rw [List.getElem?_set_ne hne]
    exact wipeD_get ρ fun z => h (by simp [z])
theorem wipe_items {K : Frg} {E : List Addr} {H : Hp} {σ : Sl} {ρ : Ev} (hl : σ.length = ρ.length) : ∀ {vs : List Nat} {l : List Itm}, vs.Nodup → (∀ v ∈ vs, v < σ.length) → Items K E H (σ.zip ρ ++ l) → Items K E H ((wipe σ vs).zip (wipeD ρ vs) ++ (hold σ ρ vs ++ l))
  | [], _, _, _, h => h
  | v :: vs, l, nd, hv, h => by
    obtain ⟨nd1, nd2⟩ := List.nodup_cons.mp nd
    have ih := wipe_items hl nd2 (fun w hw => hv w (by simp [hw])) h
    have hlt : v < σ.length := hv v (by simp)
    have e1 : (wipe σ vs)[v]? = some σ[v] := by rw [wipe_get σ nd1]; exact List.getElem?_eq_getElem hlt
    have e2 : (wipeD ρ vs)[v]? = some (ρ[v]'(by omega)) := by rw [wipeD_get ρ nd1]; exact List.getElem?_eq_getElem (by omega)
    obtain ⟨A, B, k1, _, k3⟩ := zip_at e1 e2
    unfold wipe wipeD hold
    rw [k3]
    rw [k1] at ih
    have e3 : (σ[v]?).getD none = σ[v] := by rw [List.getElem?_eq_getElem hlt]; rfl
    have e4 : ρ.getD v .any = ρ[v]'(by omega) := getD_of (List.getElem?_eq_getElem (by omega))
    rw [e3, e4]
    have h1 := Items.perm1 ih
    have h2 : Items K E H ((none, D.any) :: ((σ[v], ρ[v]'(by omega)) :: (A ++ B ++ (hold σ ρ vs ++ l)))) := h1.blank
    have h3 : Items K E H ((none, D.any) :: (A ++ B ++ ((σ[v], ρ[v]'(by omega)) :: (hold σ ρ vs ++ l)))) := h2.perm (.cons _ List.perm_middle.symm)
    exact Items.perm2 h3
theorem unwipe_items {K : Frg} {E : List Addr} {H : Hp} {σ : Sl} {ρ : Ev} : ∀ {vs : List Nat} {σ2 : Sl} {ρ2 : Ev} {l : List Itm}, σ2.length = ρ2.length → (∀ v ∈ vs, v < σ2.length) → Items K E H (σ2.zip ρ2 ++ (hold σ ρ vs ++ l)) → Items K E H ((unwS σ vs σ2).zip (unw ρ vs ρ2) ++ l)
  | [], _, _, _, _, _, h => h
  | v :: vs, σ2, ρ2, l, hl, hv, h => by
    unfold unwS unw
    refine unwipe_items (by simp [hl]) (fun w hw => by rw [List.length_set]; exact hv w (by simp [hw])) ?_
    have h1 : Items K E H (((σ[v]?).getD none, ρ.getD v .any) :: (σ2.zip ρ2 ++ (hold σ ρ vs ++ l))) := h.perm List.perm_middle
    exact set_items hl (hv v (by simp)) h1
theorem unwS_get (σ : Sl) {i : Nat} : ∀ {vs : List Nat} {σ2 : Sl}, i ∉ vs → (unwS σ vs σ2)[i]? = σ2[i]?
  | [], _, _ => rfl
  | v :: vs, σ2, h => by
    unfold unwS
    have hne : v ≠ i := fun z => h (by simp [z])
    rw [unwS_get σ (fun z => h (by simp [z])), List.getElem?_set_ne hne]
theorem unwS_own (σ : Sl) {i : Nat} : ∀ {vs : List Nat} {σ2 : Sl}, i ∈ vs → i < σ.length → σ2.length = σ.length → (unwS σ vs σ2)[i]? = σ[i]?
  | [], _, h, _, _ => by cases h
  | v :: vs, σ2, h, hi, hl => by
    unfold unwS
    by_cases hm : i ∈ vs
    · exact unwS_own σ hm hi (by simp [hl])
    · have e : i = v := by simpa [hm] using h
      subst e
      rw [unwS_get σ hm, List.getElem?_set_self (by omega), List.getElem?_eq_getElem hi]
      rfl
theorem unwS_eq {σ σ2 : Sl} {vs : List Nat} (hl : σ2.length = σ.length) (h : ∀ i, i ∉ vs → σ2[i]? = σ[i]?) : unwS σ vs σ2 = σ := by
  apply List.ext_getElem?
  intro i
  by_cases hm : i ∈ vs
  · by_cases hi : i < σ.length
    · exact unwS_own σ hm hi hl
    · rw [List.getElem?_eq_none (by rw [unwS_len]; omega), List.getElem?_eq_none (by omega)]
  · rw [unwS_get σ hm]
    exact h i hm
theorem wipe_same {σ σ2 : Sl} : ∀ {vs : List Nat}, σ2.length = σ.length → (∀ i, i ∉ vs → σ2[i]? = σ[i]?) → wipe σ2 vs = wipe σ vs := by
  have get_in : ∀ (σ : Sl) (vs : List Nat) (i : Nat), i ∈ vs → i < σ.length → (wipe σ vs)[i]? = some none := fun σ vs => by
    induction vs with
    | nil => intro i h; cases h
    | cons v vs ih =>
      intro i h hi
      unfold wipe
      by_cases e : v = i
      · subst e
        rw [List.getElem?_set_self (by rw [wipe_length]; exact hi)]
      · rw [List.getElem?_set_ne e]
        exact ih i (by simpa [Ne.symm e] using h) hi
  intro vs hl h
  apply List.ext_getElem?
  intro i
  by_cases hm : i ∈ vs
  · by_cases hi : i < σ.length
    · rw [get_in σ vs i hm hi, get_in σ2 vs i hm (by omega)]
    · rw [List.getElem?_eq_none (by rw [wipe_length]; omega), List.getElem?_eq_none (by rw [wipe_length]; omega)]
  · rw [wipe_get σ hm, wipe_get σ2 hm]
    exact h i hm

/-! ### [elt for tg in iter if test] -/
def cStep (vs : List Nat) (it : Src) (g : D → Ev → Option Ev) (test : Ev → Option (Bool × Ev)) (elt : Ev → Option (D × Ev)) : Nat → List D × Ev → Option ((List D × Ev) ⊕ (D × Ev)) := fun k a => (it k a.2).bind fun x => match x with
  | none => some (.inr (.lst true a.1, a.2))
  | some d => (g d (wipeD a.2 vs)).bind fun ρ1 => (test ρ1).bind fun p => if p.1 = true then (elt p.2).bind fun q => if a.1.length < 16777216 then some (.inl (a.1 ++ [q.1], unw a.2 vs q.2)) else none
    else some (.inl (a.1, unw a.2 vs p.2))
noncomputable def eLc (vs : List Nat) (fi : Ev → Option (Src × Ev)) (g : D → Ev → Option Ev) (test : Ev → Option (Bool × Ev)) (elt : Ev → Option (D × Ev)) : Ev → Option (D × Ev) := fun ρ => (fi ρ).bind fun p => lrun (cStep vs p.1 g test elt) ([], p.2)
def tAll : Ev → Option (Bool × Ev) := fun ρ => some (true, ρ)
structure DTs (X : Cx) (ifs : List Expr) (f : Ev → Option (Bool × Ev)) : Prop where
  ex : ∃ t, PTs X ifs t ∧ ∀ (σ : Sl) (H : Hp) (ρ : Ev) (l : List Itm) (Q : Bool → Hp → Prop) (r : Bool) (ρ' : Ev), σ.length = ρ.length → Items X.K [] H (σ.zip ρ ++ l) → f ρ = some (r, ρ') →
    (∀ H', ρ'.length = ρ.length → Items X.K [] H' (σ.zip ρ' ++ l) → Q r H') → t σ H Q
theorem dts_nil : DTs X [] tAll := ⟨_, pts_nil, fun σ H ρ l Q r ρ' hl hi hf q => by cases hf; exact q H rfl hi⟩
theorem dts_one {c : Expr} {f : Ev → Option (Bool × Ev)} (h : DT X c f) : DTs X [c] f := by
  obtain ⟨t, ht, k⟩ := h.ex
  exact ⟨_, pts_one ht, k⟩
/-! the reading that stands for all -/
def canE (K : Frg) (f : Ev → Option (D × Ev)) : TE := fun σ H Q => ∃ (ρ : Ev) (l : List Itm) (r : D) (ρ' : Ev), σ.length = ρ.length ∧ Items K [] H (σ.zip ρ ++ l) ∧ f ρ = some (r, ρ') ∧
  ∀ v H', ρ'.length = ρ.length → Items K [] H' ((some v, r) :: (σ.zip ρ' ++ l)) → Q v H'
def canT (K : Frg) (f : Ev → Option (Bool × Ev)) : TT := fun σ H Q => ∃ (ρ : Ev) (l : List Itm) (r : Bool) (ρ' : Ev), σ.length = ρ.length ∧ Items K [] H (σ.zip ρ ++ l) ∧ f ρ = some (r, ρ') ∧
  ∀ H', ρ'.length = ρ.length → Items K [] H' (σ.zip ρ' ++ l) → Q r H'
def canG (K : Frg) (C : List Nat) (f : D → Ev → Option Ev) : TG := fun v σ H Q => ∃ (d : D) (ρ : Ev) (l : List Itm) (ρ' : Ev), σ.length = ρ.length ∧ Items K [] H ((some v, d) :: (σ.zip ρ ++ l)) ∧ f d ρ = some ρ' ∧
  ∀ σ' H', σ'.length = σ.length → ρ'.length = σ.length → Agr C σ σ' → Items K [] H' (σ'.zip ρ' ++ l) → Q σ' H'
theorem DE.can {e : Expr} {f : Ev → Option (D × Ev)} (h : DE X e f) : PE X e (canE X.K f) := by
  obtain ⟨t, ht, k⟩ := h.ex
  exact ⟨fun pins s σ H Q I ⟨ρ, l, r, ρ', h1, h2, h3, h4⟩ => ht.run pins s σ H Q I (k σ H ρ l Q r ρ' h1 h2 h3 h4)⟩
theorem DTs.can {ifs : List Expr} {f : Ev → Option (Bool × Ev)} (h : DTs X ifs f) : PTs X ifs (canT X.K f) := by
  obtain ⟨t, ht, k⟩ := h.ex
  exact ⟨fun pins s σ H Q I ⟨ρ, l, r, ρ', h1, h2, h3, h4⟩ => ht.run pins s σ H Q I (k σ H ρ l Q r ρ' h1 h2 h3 h4)⟩
theorem DG.can {tg : Expr} {f : D → Ev → Option Ev} (h : DG X C tg f) : PG X tg (canG X.K C f) := by
  obtain ⟨t, ht, k⟩ := h.ex
  exact ⟨fun pins s σ H v u Q I hr ⟨d, ρ, l, ρ', h1, h2, h3, h4⟩ => ht.run pins s σ H v u Q I hr (k v d σ H ρ l Q ρ' h1 h2 h3 h4)⟩
theorem PE.len {e : Expr} {t : TE} (h : PE X e t) : PE X e (fun σ H Q => σ.length = X.N.length → t σ H Q) := ⟨fun pins s σ H Q I hw => h.run pins s σ H Q I (hw I.len)⟩
theorem PS.len {st : Stmt} {t : TS} (h : PS X st t) : PS X st (fun D' σ H => σ.length = X.N.length → t D' σ H) := ⟨fun pins s σ H D' I hw => h.run pins s σ H D' I (hw I.len)⟩
theorem lc_ok {fi : Ev → Option (Src × Ev)} {g : D → Ev → Option Ev} {test : Ev → Option (Bool × Ev)} {fe : Ev → Option (D × Ev)} {Cb : List Nat} {vs : List Nat} {n : Nat} {wi : TI}
    (hn : X.N.length = n) (nd : vs.Nodup) (hv : ∀ v ∈ vs, v < n) (hCb : ∀ i, i < n → i ∉ vs → i ∈ Cb)
    (ki : ∀ (σ : Sl) (H : Hp) (ρ : Ev) (l : List Itm) (R : It → Hp → Prop) (it : Src) (ρ' : Ev), σ.length = ρ.length → Items X.K [] H (σ.zip ρ ++ l) → fi ρ = some (it, ρ') →
      (∀ J H' held, ρ'.length = ρ.length → Items X.K [] H' (σ.zip ρ' ++ (held ++ l)) → ItOk X C σ held J it → R J H') → wi σ H R)
    (σ : Sl) (H : Hp) (ρ : Ev) (l : List Itm) (Q : VK) (r : D) (ρ' : Ev) (hσ : σ.length = n) (hl : σ.length = ρ.length) (hI : Items X.K [] H (σ.zip ρ ++ l)) (hf : eLc vs fi g test fe ρ = some (r, ρ'))
    (q : ∀ v H', ρ'.length = ρ.length → Items X.K [] H' ((some v, r) :: (σ.zip ρ' ++ l)) → Q v H') : tLc wi (canG X.K Cb g) (canT X.K test) (canE X.K fe) vs σ H Q := by
  obtain ⟨⟨it, ρ0⟩, e1, hf⟩ := Option.bind_eq_some_iff.mp hf
  obtain ⟨n0, hf⟩ := lrun_iff.mp hf
  refine ki σ H ρ l _ it ρ0 hl hI e1 fun J H1 held l1 i1 ok A hA => ?_
  refine ⟨fun k m H2 => ∃ acc ρ1, ρ1.length = σ.length ∧ Items X.K [] H2 ((some (.ref A), .lst true acc) :: (σ.zip ρ1 ++ (held ++ l))) ∧ lp (cStep vs it g test fe) m k (acc, ρ1) = some (r, ρ'), ⟨n0, [], ρ0, by omega, Items.new hA rfl i1 (fun b hb => by cases hb), hf⟩, ?_⟩
  rintro k m H2 ⟨acc, ρ1, h2, i2, e2⟩
  have i2' : Items X.K [] H2 (σ.zip ρ1 ++ (held ++ ((some (.ref A), .lst true acc) :: l))) := i2.perm (by
    refine List.Perm.trans List.perm_middle.symm ?_
    exact List.Perm.append_left _ List.perm_middle.symm)
  obtain ⟨ks, kn⟩ := ok k σ ρ1 H2 _ Agr.refl rfl h2 i2'
  cases m with
  | zero => cases e2
  | succ m =>
    obtain ⟨s, e3, e4⟩ := Option.bind_eq_some_iff.mp e2
    obtain ⟨x, e5, e6⟩ := Option.bind_eq_some_iff.mp e3
    cases x with
    | none =>
      cases e6
      cases e4
      exact .inl ⟨ks e5, q _ H2 (by show ρ1.length = _; omega) (i2.sub ⟨held, (List.Perm.cons _ perm_mid).trans List.perm_middle.symm⟩)⟩
    | some d =>
      obtain ⟨kg1, ky⟩ := kn d e5
      obtain ⟨ρ2, e7, e8⟩ := Option.bind_eq_some_iff.mp e6
      obtain ⟨⟨b, ρ3⟩, e9, e10⟩ := Option.bind_eq_some_iff.mp e8
      refine .inr ⟨kg1, fun H' => ∃ acc' ρ4, s = .inl (acc', ρ4) ∧ ρ4.length = σ.length ∧ Items X.K [] H' ((some (.ref A), .lst true acc') :: (σ.zip ρ4 ++ (held ++ l))), ?_, ?_⟩
      · rintro H' ⟨acc', ρ4, es, b1, i3⟩
        subst es
        exact ⟨m, Nat.lt_succ_self m, acc', ρ4, b1, i3, e4⟩
      · intro x H3 hy
        have i3 := ky x H3 hy
        have i4 : Items X.K [] H3 (σ.zip ρ1 ++ ((some x, d) :: (held ++ ((some (.ref A), .lst true acc) :: l)))) := i3.perm List.perm_middle.symm
        have i5 := wipe_items (vs := vs) (by omega) nd (fun v hv' => by rw [hσ]; exact hv v hv') i4
        have i6 : Items X.K [] H3 ((some x, d) :: ((wipe σ vs).zip (wipeD ρ1 vs) ++ (hold σ ρ1 vs ++ (held ++ ((some (.ref A), .lst true acc) :: l))))) := i5.perm (by
          refine List.Perm.trans (List.Perm.append_left _ List.perm_middle) ?_
          exact List.perm_middle)
        refine ⟨d, _, _, ρ2, by rw [wipe_length, wipeD_len]; omega, i6, e7, fun σ3 H4 m1 m2 ag i7 => ?_⟩
        rw [wipe_length] at m1 m2
        have same : ∀ i, i ∉ vs → σ3[i]? = σ[i]? := fun i hi => by
          by_cases hin : i < n
          · rw [ag i (hCb i hin hi), wipe_get σ hi]
          · rw [List.getElem?_eq_none (by omega), List.getElem?_eq_none (by omega)]
        refine ⟨wipe_same (by omega) same |>.trans ?_, ?_⟩
        · rfl
        · have back : ∀ (ρ5 : Ev) (H5 : Hp) (l' : List Itm), ρ5.length = σ.length → Items X.K [] H5 (σ3.zip ρ5 ++ (hold σ ρ1 vs ++ l')) → Items X.K [] H5 (σ.zip (unw ρ1 vs ρ5) ++ l') := fun ρ5 H5 l' hl5 hi5 => by
            have := unwipe_items (σ := σ) (ρ := ρ1) (vs := vs) (by omega) (fun v hv' => by rw [m1, hσ]; exact hv v hv') hi5
            rw [unwS_eq (by omega) same] at this
            exact this
          refine ⟨ρ2, _, b, ρ3, by omega, i7, e9, fun H5 m3 i8 => ?_⟩
          cases b with
          | false =>
            rw [if_neg Bool.false_ne_true] at e10
            rw [if_neg Bool.false_ne_true]
            cases e10
            refine ⟨acc, _, rfl, by rw [unw_len]; show ρ3.length = _; omega, ?_⟩
            have i9 := back ρ3 H5 _ (by omega) i8
            exact i9.perm (by
              refine List.Perm.trans (List.Perm.append_left _ List.perm_middle) ?_
              exact List.perm_middle)
          | true =>
            rw [if_pos rfl] at e10
            rw [if_pos rfl]
            obtain ⟨⟨y, ρ4⟩, e11, e12⟩ := Option.bind_eq_some_iff.mp e10
            replace e12 : (if acc.length < 16777216 then some (Sum.inl (acc ++ [y], unw ρ1 vs ρ4)) else none) = some s := e12
            split at e12
            · rename_i hz
              refine ⟨ρ3, _, y, ρ4, by omega, i8, e11, fun v H6 m4 i9 => ?_⟩
              have i10 : Items X.K [] H6 (σ3.zip ρ4 ++ (hold σ ρ1 vs ++ ((some v, y) :: (held ++ ((some (.ref A), .lst true acc) :: l))))) := i9.perm (by
                refine List.Perm.trans List.perm_middle.symm ?_
                exact List.Perm.append_left _ List.perm_middle.symm)
              have i11 := back ρ4 H6 _ (by omega) i10
              have i12 : Items X.K [] H6 ((some (.ref A), .lst true acc) :: ((some v, y) :: (σ.zip (unw ρ1 vs ρ4) ++ (held ++ l)))) := i11.perm (by
                refine List.Perm.trans List.perm_middle ?_
                refine List.Perm.trans (.cons _ (List.Perm.append_left _ List.perm_middle)) ?_
                refine List.Perm.trans (.cons _ List.perm_middle) ?_
                exact List.Perm.swap _ _ _)
              obtain ⟨us, hs, hlen, hop⟩ := i12.open
              refine ⟨us, hs, by rw [sizeLine_eq, hlen]; exact hz, acc ++ [y], _, by cases e12; rfl, by rw [unw_len]; omega, ?_⟩
              refine Items.close hs (by simp [hlen]) ?_
              have ep : prs (us ++ [v]) (acc ++ [y]) = prs us acc ++ [(some v, y)] := by
                show ((us ++ [v]).map some).zip (acc ++ [y]) = _
                rw [List.map_append, List.zip_append (by simp [hlen])]
                rfl
              rw [ep, List.append_assoc]
              exact hop
            · cases e12
theorem de_lc {elt tg iter : Expr} {ifs : List Expr} {scope : Scope} {own : List (Str × Nat)} {pos : Pos} {fi : Ev → Option (Src × Ev)} {g : D → Ev → Option Ev} {test : Ev → Option (Bool × Ev)} {fe : Ev → Option (D × Ev)} (C Cb : List Nat) (n : Nat)
    (hc : X.calm = true) (hN : X.N.Nodup) (hn : X.N.length = n) (hi : DI X C tg iter fi) (ok : BlkOk X.N X.env.scope scope own)
    (hg : ∀ (s : Shared) (H : Hp) (A : Addr) (cl : List (Str × Addr)) (fp : List Addr), DG (X.blk s H scope (compEnvC scope cl A X.env) fp) Cb tg g)
    (ht : ∀ (s : Shared) (H : Hp) (A : Addr) (cl : List (Str × Addr)) (fp : List Addr), DTs (X.blk s H scope (compEnvC scope cl A X.env) fp) ifs test)
    (he : ∀ (s : Shared) (H : Hp) (A : Addr) (cl : List (Str × Addr)) (fp : List Addr), DE (X.blk s H scope (compEnvC scope cl A X.env) fp) elt fe)
    (nd : (own.map (·.2)).Nodup := by decide) (hv : ∀ v ∈ own.map (·.2), v < n := by decide) (hCb : ∀ i, i < n → i ∉ own.map (·.2) → i ∈ Cb := by decide)
    (hs : ∀ x, foldedSetIterable iter X.env x = pure x := by intro _; rfl) : DE X (.ListComp elt [⟨tg, iter, ifs, 0⟩] scope pos) (eLc (own.map (·.2)) fi g test fe) := by
  obtain ⟨ti, pi, ki⟩ := hi.ex
  have h0 := pe_lc (te := canE X.K fe) (tt := canT X.K test) (g := canG X.K Cb g) hc hN pi ok (fun s H A cl fp => (hg s H A cl fp).can) (fun s H A cl fp => (ht s H A cl fp).can) (fun s H A cl fp => (he s H A cl fp).can) (pos := pos) hs
  exact ⟨_, PE.len h0, fun σ H ρ l Q r ρ' h2 h3 h4 h5 h1 => lc_ok hn nd hv hCb ki σ H ρ l Q r ρ' (by omega) h2 h3 h4 h5⟩
/-- name = [..] -/
theorem ds_setLc (i : Nat) {y : Str} {py : Pos} {elt tg iter : Expr} {ifs : List Expr} {scope : Scope} {own : List (Str × Nat)} {pos spos : Pos} {fi : Ev → Option (Src × Ev)} {g : D → Ev → Option Ev} {test : Ev → Option (Bool × Ev)} {fe : Ev → Option (D × Ev)} (C2 Cb : List Nat) (n : Nat)
    (hc : X.calm = true) (hN : X.N.Nodup) (hn : X.N.length = n) (hi : DI X C2 tg iter fi) (ok : BlkOk X.N X.env.scope scope own)
    (hg : ∀ (s : Shared) (H : Hp) (A : Addr) (cl : List (Str × Addr)) (fp : List Addr), DG (X.blk s H scope (compEnvC scope cl A X.env) fp) Cb tg g)
    (ht : ∀ (s : Shared) (H : Hp) (A : Addr) (cl : List (Str × Addr)) (fp : List Addr), DTs (X.blk s H scope (compEnvC scope cl A X.env) fp) ifs test)
    (he : ∀ (s : Shared) (H : Hp) (A : Addr) (cl : List (Str × Addr)) (fp : List Addr), DE (X.blk s H scope (compEnvC scope cl A X.env) fp) elt fe)
    (nd : (own.map (·.2)).Nodup := by decide) (hv : ∀ v ∈ own.map (·.2), v < n := by decide) (hCb : ∀ i, i < n → i ∉ own.map (·.2) → i ∈ Cb := by decide)
    (hC : i ∉ C := by decide) (hy : X.N[i]? = some y := by rfl) (hyl : X.env.scope.names.lookup y = some .local := by rfl)
    (hsw : swapsWith (.ListComp elt [⟨tg, iter, ifs, 0⟩] scope pos) (some (.Name y py)) spos.line X.env = pure true := by exact sw_true rfl rfl rfl (by decide +kernel))
    (hs : ∀ x, foldedSetIterable iter X.env x = pure x := by intro _; rfl) : DS X C (.Assign [.Name y py] (.ListComp elt [⟨tg, iter, ifs, 0⟩] scope pos) spos) (bAsg (eLc (own.map (·.2)) fi g test fe) (gNm i)) := by
  obtain ⟨ti, pi, ki⟩ := hi.ex
  have h0 := ps_setLc (te := canE X.K fe) (tt := canT X.K test) (g := canG X.K Cb g) (i := i) hc hN hy hyl hsw pi ok (fun s H A cl fp => (hg s H A cl fp).can) (fun s H A cl fp => (ht s H A cl fp).can) (fun s H A cl fp => (he s H A cl fp).can) hs
  refine ⟨_, PS.len h0, fun D' σ H ρ l o hl hI hf q h1 => ?_⟩
  obtain ⟨⟨d, ρ1⟩, e1, hf⟩ := Option.bind_eq_some_iff.mp hf
  cases hf
  refine lc_ok hn nd hv hCb ki σ H ρ l _ d ρ1 (by omega) hl hI e1 fun v H1 l1 i1 => ?_
  show D'.nx (σ.set i (some v)) H1
  by_cases h : i < σ.length
  · exact q _ H1 (by simp) (by simp; omega) (Agr.set hC) (set_items (by show σ.length = ρ1.length; have l2 : ρ1.length = ρ.length := l1; omega) h i1)
  · have e1 : σ.set i (some v) = σ := List.set_eq_of_length_le (by omega)
    have e2 : ρ1.set i d = ρ1 := List.set_eq_of_length_le (by omega)
    refine q _ H1 (by simp) (by simp; omega) (Agr.set hC) ?_
    show Items X.K [] H1 ((σ.set i (some v)).zip (ρ1.set i d) ++ l)
    rw [e1, e2]
    exact i1.tail

/-! ### the program's own defs -/
def keepL : List Bool → Ev → List D
  | c :: cs, d :: ρ => (if c = true then d else .any) :: keepL cs ρ
  | _, _ => []
def fnD (cs : List Bool) (ns : Nat) (body : Ev → Option Out) : List D → Option (D × List D) := fun ds => if ds.length = cs.length then (body (ds ++ List.replicate (ns - cs.length) .any)).bind fun o => match o with
    | .rt d ρ => some (d, keepL cs ρ)
    | .nx ρ => some (.non, keepL cs ρ)
    | _ => none
  else none
theorem keepL_items {K : Frg} {H : Hp} : ∀ {cs : List Bool} {σ : Sl} {ρ : Ev} {vs : List V} {l : List Itm}, vs.length = cs.length → cs.length ≤ σ.length → σ.length = ρ.length → (∀ i : Nat, cs[i]? = some true → σ[i]? = (vs[i]?).map some) →
    Items K [] H (σ.zip ρ ++ l) → Items K [] H (prs vs (keepL cs ρ) ++ l) ∧ (keepL cs ρ).length = cs.length
  | [], σ, ρ, vs, l, h1, h2, h3, h4, h => by
    unfold keepL
    cases vs with
    | cons _ _ => simp at h1
    | nil => exact ⟨h.drop, rfl⟩
  | c :: cs, [], _, _, _, _, h2, _, _, _ => by simp at h2
  | c :: cs, s :: σ, [], _, _, _, _, h3, _, _ => by simp at h3
  | c :: cs, s :: σ, d :: ρ, [], _, h1, _, _, _, _ => by simp at h1
  | c :: cs, s :: σ, d :: ρ, v :: vs, l, h1, h2, h3, h4, h => by
    have hh : Items K [] H ((s, d) :: (σ.zip ρ ++ l)) := h
    have rest : ∀ i : Nat, cs[i]? = some true → σ[i]? = (vs[i]?).map some := fun i hi => by
      have := h4 (i + 1) (by simpa using hi)
      simpa using this
    unfold keepL
    cases c with
    | true =>
      have e : s = some v := by
        have := h4 0 rfl
        simpa using this
      subst e
      have hh2 : Items K [] H (σ.zip ρ ++ ((some v, d) :: l)) := hh.perm List.perm_middle.symm
      obtain ⟨k1, k2⟩ := keepL_items (by simpa using h1) (by simpa using h2) (by simpa using h3) rest hh2
      refine ⟨?_, by simp [k2]⟩
      rw [if_pos rfl]
      exact k1.perm List.perm_middle
    | false =>
      obtain ⟨k1, k2⟩ := keepL_items (by simpa using h1) (by simpa using h2) (by simpa using h3) rest hh.tail
      refine ⟨?_, by simp [k2]⟩
      rw [if_neg Bool.false_ne_true]
      exact k1.blank
theorem start_zip {vs : List V} {ds : List D} {n : Nat} (h : vs.length = ds.length) : (vs.map some ++ List.replicate n none).zip (ds ++ List.replicate n D.any) = prs vs ds ++ List.replicate n ((none : Option V), D.any) := by
  rw [List.zip_append (by simp [h])]
  congr 1
  induction n with
  | zero => rfl
  | succ n ih => simp [List.replicate_succ, ih]
theorem blanks {K : Frg} {H : Hp} {l : List Itm} : ∀ {n : Nat}, Items K [] H l → Items K [] H (List.replicate n ((none : Option V), D.any) ++ l)
  | 0, h => h
  | n + 1, h => (blanks (n := n) h).blank
/-- a def by its body -/
theorem def_ok {P : Program} {w : World} {K : Frg} {mg : Str → Option Value} {base : Heap} {x : Str} {st : Stmt} {f : Addr} {fd : FuncData} {N ps : List Str} {k : Nat} (F : Fun K x x st f fd) (S : FnScope N ps (defScope st)) (hb : Binds K fd ps []) (hm : mg x = some (.ref f))
    (C : List Nat) (cs : List Bool) (ns : Nat) (body : Ev → Option Out) (hcs : cs.length = ps.length) (hns : N.length = ns) (hps : ps.length ≤ ns) (hC : ∀ i, i < cs.length → cs.getD i false = true → i ∈ C)
    (hbody : ∀ (cdv : Value) (A : Around) (outer : List Env) (s : Shared) (H : Hp) (E : XK), Room k (A.deeper (envOfC x (defScope st) s.heap.objs.size f cdv)) →
      DSs (cxOf CX0 P w K mg base N x (defScope st) f cdv A outer s H E).nox C (defBody st) body) : FOk P w K mg base (k + 1) x ps (fnD cs ns body) := by
  refine ⟨f, fd, hm, F.kp, hb, (by obtain ⟨oc, od, kV, doc, pm, an, cd', ct, osl, e, lk, _⟩ := F.ex; exact ⟨oc, od, osl, lk⟩), F.ok S ?_ ?_⟩
  · rintro vs H Q E ⟨l, ds, r, bs, h1, _⟩
    exact h1
  · rintro cdv A outer s H vs Q E hr ⟨l, ds, r, bs, h1, h2, hi, hf, q⟩
    obtain ⟨t, ht, kk⟩ := (hbody cdv A outer s H E hr).ex
    refine ⟨t, ht, ?_⟩
    unfold fnD at hf
    rw [if_pos (by omega)] at hf
    obtain ⟨o, e1, hf⟩ := Option.bind_eq_some_iff.mp hf
    have hst : L2.start N vs = vs.map some ++ List.replicate (ns - cs.length) none := by
      unfold L2.start
      rw [hns, h1, hcs]
    rw [hst]
    have hlen : (vs.map some ++ List.replicate (ns - cs.length) (none : Option V)).length = (ds ++ List.replicate (ns - cs.length) D.any).length := by simp [h1, h2]
    have key : ∀ (d : D) (ρ' : Ev) (σ' : Sl) (H' : Hp) (l' : List Itm), σ'.length = (vs.map some ++ List.replicate (ns - cs.length) (none : Option V)).length → ρ'.length = (vs.map some ++ List.replicate (ns - cs.length) (none : Option V)).length → Agr C (vs.map some ++ List.replicate (ns - cs.length) (none : Option V)) σ' →
        Items K [] H' (σ'.zip ρ' ++ l') → Items K [] H' (prs vs (keepL cs ρ') ++ l') ∧ (keepL cs ρ').length = cs.length := fun d ρ' σ' H' l' m1 m2 ag i => by
      refine keepL_items (by omega) (by rw [m1]; simp; omega) (by omega) (fun i hi => ?_) i
      have hlt : i < cs.length := (List.getElem?_eq_some_iff.mp hi).1
      have hin : i ∈ C := hC i hlt (by rw [List.getD_eq_getElem?_getD, hi]; rfl)
      rw [ag i hin, List.getElem?_append_left (by simp; omega), List.getElem?_map]
    refine kk _ _ H _ l o hlen ?_ e1 ?_
    · rw [start_zip (by omega), List.append_assoc]
      refine Items.perm (blanks (n := ns - cs.length) hi) perm_mid
    · cases o with
      | nx ρ' =>
        cases hf
        intro σ' H' m1 m2 ag i
        obtain ⟨k1, k2⟩ := key .non ρ' σ' H' l m1 m2 ag i
        exact q .non H' (by omega) (k1.add (d := .non) rfl fun _ _ => rfl)
      | rt d ρ' =>
        cases hf
        intro v σ' H' m1 m2 ag i
        have i' : Items K [] H' (σ'.zip ρ' ++ ((some v, r) :: l)) := i.perm List.perm_middle.symm
        obtain ⟨k1, k2⟩ := key r ρ' σ' H' ((some v, r) :: l) m1 m2 ag i'
        exact q v H' (by omega) (k1.perm List.perm_middle)
      | bk ρ' => cases hf
      | ct ρ' => cases hf
end
end Mv
end
section
set_option Elab.async false
set_option linter.all false
set_option maxRecDepth 100000
/-! What the operations make of data. -/
namespace Mv
open PySem PySem.Spec PyProof.Rows L2

/-! ### alternatives -/
def rOr (r r' : R2) : R2 := fun x y H Q => r x y H Q ∨ r' x y H Q
section
variable {X : Cx}
theorem OpR.or {f : Value → Value → Sem Value} {r r' : R2} (h : OpR X f r) (h' : OpR X f r') : OpR X f (rOr r r') := by
  intro pins s σ H x y v u Q I rx ry q
  rcases q with q | q
  · exact h pins s σ H x y v u Q I rx ry q
  · exact h' pins s σ H x y v u Q I rx ry q
def gOr (g g' : D → D → Option D) : D → D → Option D := fun a b => match g a b with
  | some d => some d
  | none => g' a b
theorem Op2.or {K : Frg} {r r' : R2} {g g' : D → D → Option D} (h : Op2 K r g) (h' : Op2 K r' g') : Op2 K (rOr r r') (gOr g g') := by
  intro x y H dx dy l Q d hi mx my hg q
  replace hg : (match g dx dy with
    | some d => some d
    | none => g' dx dy) = some d := hg
  split at hg
  · rename_i e
    exact .inl (h x y H dx dy l Q d hi mx my (by rw [e]; exact hg) q)
  · exact .inr (h' x y H dx dy l Q d hi mx my hg q)
end
/-! ### ints -/
/-- two ints in, under a condition, an int or a bool out -/
def gI (C : Int → Int → Prop) [∀ i j, Decidable (C i j)] (f : Int → Int → D) : D → D → Option D := fun a b => match a, b with
  | .int i, .int j => if C i j then some (f i j) else none
  | _, _ => none
def gI0 (f : Int → Int → D) : D → D → Option D := fun a b => match a, b with
  | .int i, .int j => some (f i j)
  | _, _ => none
section
variable {K : Frg}
theorem Op2.int {C C' : Int → Int → Prop} [∀ i j, Decidable (C' i j)] {f : Int → Int → V} {f' : Int → Int → D} (hC : ∀ i j, C' i j → C i j) (hf : ∀ i j, C' i j → (f' i j).frz = true ∧ ∀ G, Fz K G (f' i j) (f i j)) : Op2 K (rI C f) (gI C' f') := by
  intro x y H dx dy l Q d hi mx my hg q
  unfold gI at hg
  split at hg
  · rename_i i j
    split at hg
    · rename_i c
      cases hg
      refine ⟨i, j, hi.view mx, hi.view my, hC i j c, q _ H (hi.add (hf i j c).1 fun G _ => (hf i j c).2 G)⟩
    · cases hg
  · cases hg
theorem Op2.int0 {f : Int → Int → V} {f' : Int → Int → D} (hf : ∀ i j, (f' i j).frz = true ∧ ∀ G, Fz K G (f' i j) (f i j)) : Op2 K (rI0 f) (gI0 f') := by
  intro x y H dx dy l Q d hi mx my hg q
  unfold gI0 at hg
  split at hg
  · rename_i i j
    cases hg
    exact ⟨i, j, hi.view mx, hi.view my, q _ H (hi.add (hf i j).1 fun G _ => (hf i j).2 G)⟩
  · cases hg
end
def MulOk (i j : Int) : Prop := i.natAbs < 2 ^ 64 ∨ j.natAbs < 2 ^ 64 ∨ (i.natAbs < 2 ^ 4000 ∧ j.natAbs < 2 ^ 4000)
instance (i j : Int) : Decidable (MulOk i j) := by unfold MulOk; infer_instance
def DivOk (j : Int) : Prop := 0 < j ∧ j.natAbs < 2 ^ 4000
instance (j : Int) : Decidable (DivOk j) := by unfold DivOk; infer_instance
def DivNo (j : Int) : Prop := j < 0 ∧ j.natAbs < 2 ^ 4000
instance (j : Int) : Decidable (DivNo j) := by unfold DivNo; infer_instance
def PowOk (i j : Int) : Prop := 0 ≤ j ∧ j ≤ 1000000 ∧ i.natAbs < 2 ^ 64
instance (i j : Int) : Decidable (PowOk i j) := by unfold PowOk; infer_instance
def gAddS : D → D → Option D := fun a b => match a, b with
  | .str x, .str y => if x.length + y.length ≤ 16777216 then some (.str (x ++ y)) else none
  | _, _ => none
def gAddL : D → D → Option D := fun a b => match a, b with
  | .lst _ xs, .lst _ ys => if D.frzL xs = true ∧ D.frzL ys = true ∧ xs.length + ys.length ≤ 16777216 then some (.lst true (xs ++ ys)) else none
  | _, _ => none
def gAddT : D → D → Option D := fun a b => match a, b with
  | .tup xs, .tup ys => if D.frzL xs = true ∧ D.frzL ys = true ∧ xs ≠ [] ∧ xs.length + ys.length ≤ 16777216 then some (.tup (xs ++ ys)) else none
  | _, _ => none
def gAdd : D → D → Option D := fun a b => match a, b with
  | .int i, .int j => some (.int (i + j))
  | .str x, .str y => if x.length + y.length ≤ 16777216 then some (.str (x ++ y)) else none
  | .lst _ xs, .lst _ ys => if D.frzL xs = true ∧ D.frzL ys = true ∧ xs.length + ys.length ≤ 16777216 then some (.lst true (xs ++ ys)) else none
  | .tup xs, .tup ys => if D.frzL xs = true ∧ D.frzL ys = true ∧ xs.length + ys.length ≤ 16777216 then some (.tup (xs ++ ys)) else none
  | _, _ => none
def rAdd (K : Frg) : R2 := rOr (rI0 fun i j => .int (i + j)) (rOr (fun x y H Q => ∃ i j, x = .str i ∧ y = .str j ∧ i.length + j.length ≤ sizeLine ∧ Q (.str (i ++ j)) H) (rOr rCat (rCatA K)))
theorem frzL_app : ∀ {xs ys : List D}, D.frzL xs = true → D.frzL ys = true → D.frzL (xs ++ ys) = true
  | [], _, _, h => h
  | d :: ds, ys, h, h' => by
    have z : (d.frz && D.frzL ds) = true := h
    rw [Bool.and_eq_true] at z
    show (d.frz && D.frzL (ds ++ ys)) = true
    rw [z.1, frzL_app z.2 h']; rfl
theorem prs_app {xs ys : List V} {ds es : List D} (h : xs.length = ds.length) : prs (xs ++ ys) (ds ++ es) = prs xs ds ++ prs ys es := by
  show ((xs ++ ys).map some).zip (ds ++ es) = _
  rw [List.map_append, List.zip_append (by simp [h])]
  rfl
section
variable {X : Cx}
theorem op_addA : OpR X (binaryOp .Add) (rAdd X.K) := OpR.or op_add (OpR.or op_add_str (OpR.or op_cat op_catA))
theorem o2_add {K : Frg} : Op2 K (rAdd K) gAdd := by
  intro x y H dx dy l Q d hi mx my hg q
  unfold gAdd at hg
  split at hg
  · rename_i i j
    cases hg
    exact .inl ⟨i, j, hi.view mx, hi.view my, q _ H (hi.add rfl fun _ _ => rfl)⟩
  · rename_i a b
    split at hg
    · rename_i c
      cases hg
      exact .inr (.inl ⟨a, b, hi.view mx, hi.view my, by rw [sizeLine_eq]; exact c, q _ H (hi.add rfl fun _ _ => rfl)⟩)
    · cases hg
  · rename_i _ xs _ ys
    split at hg
    · rename_i c
      cases hg
      obtain ⟨a, us, rfl, ha, la, i1⟩ := hi.listAll mx c.1
      obtain ⟨b, ws, rfl, hb, lb, i2⟩ := i1.listAll (List.mem_append_right _ my) c.2.1
      refine .inr (.inr (.inl ⟨a, b, us, ws, rfl, rfl, ha, hb, by rw [sizeLine_eq, la, lb]; exact c.2.2, fun p np => q _ _ (Items.new np (by simp [la, lb]) ?_ (fun b hb => by cases hb))⟩))
      rw [prs_app la, List.append_assoc]
      exact i2.perm perm_mid
    · cases hg
  · rename_i xs ys
    split at hg
    · rename_i c
      cases hg
      obtain ⟨a, us, rfl, ha, la, i1⟩ := hi.tupleAll mx c.1
      obtain ⟨b, ws, rfl, hb, lb, i2⟩ := i1.tupleAll (List.mem_append_right _ my) c.2.1
      refine .inr (.inr (.inr ⟨a, b, us, ws, rfl, rfl, ha, hb, by rw [sizeLine_eq, la, lb]; exact c.2.2, fun e => ?_, fun _ e => ?_, fun _ _ p np => q _ _ (Items.newT np (by simp [la, lb]) ?_)⟩))
      · subst e
        have : xs = [] := by
          cases xs with
          | nil => rfl
          | cons _ _ => simp at la
        subst this
        exact q _ H (hi.dup my c.2.1)
      · subst e
        have : ys = [] := by
          cases ys with
          | nil => rfl
          | cons _ _ => simp at lb
        subst this
        rw [List.append_nil] at q
        exact q _ H (hi.dup mx c.1)
      · rw [prs_app la, List.append_assoc]
        exact i2.perm perm_mid
    · cases hg
  · cases hg
def gSubt : D → D → Option D := gI0 fun i j => .int (i - j)
theorem o2_sub {K : Frg} : Op2 K (rI0 fun i j => .int (i - j)) gSubt := Op2.int0 fun _ _ => ⟨rfl, fun _ => rfl⟩
def gMul : D → D → Option D := gI MulOk fun i j => .int (i * j)
def rMul : R2 := rOr (rI CMul fun i j => .int (i * j)) (rI CMulW fun i j => .int (i * j))
theorem op_mulA : OpR X (binaryOp .Mult) rMul := OpR.or op_mul op_mulW
theorem o2_mul {K : Frg} : Op2 K rMul gMul := by
  intro x y H dx dy l Q d hi mx my hg q
  unfold gMul gI at hg
  split at hg
  · rename_i i j
    split at hg
    · rename_i c
      cases hg
      have fin := q (.int (i * j)) H (hi.add rfl fun _ _ => rfl)
      rcases c with c | c | c
      · exact .inl ⟨i, j, hi.view mx, hi.view my, .inl (by omega), fin⟩
      · exact .inl ⟨i, j, hi.view mx, hi.view my, .inr (by omega), fin⟩
      · exact .inr ⟨i, j, hi.view mx, hi.view my, wide_mul c.1 c.2 (by decide) (by decide) (by decide), fin⟩
    · cases hg
  · cases hg
def gDiv : D → D → Option D := fun a b => match a, b with
  | .int i, .int j => if DivOk j then some (.int (i / j)) else if DivNo j then some (.int (i.fdiv j)) else none
  | _, _ => none
def CDivX (_ j : Int) : Prop := j ≠ 0 ∧ j.natAbs.log2 < 9000
theorem op_fdivX : OpR X (binaryOp .FloorDiv) (rI CDivX fun i j => .int (i.fdiv j)) := opI fun i j _ _ _ _ _ hc q => PyProof.Rows.floordiv_int hc.1 q (.inl (PyProof.noPylong_of_log2 hc.2))
theorem o2_div {K : Frg} : Op2 K (rI CDivX fun i j => .int (i.fdiv j)) gDiv := by
  intro x y H dx dy l Q d hi mx my hg q
  unfold gDiv at hg
  split at hg
  · rename_i i j
    split at hg
    · rename_i c
      cases hg
      refine ⟨i, j, hi.view mx, hi.view my, ⟨by have := c.1; omega, Nat.lt_of_lt_of_le (PySem.Flt.log2_lt_of (by decide) c.2) (by decide)⟩, ?_⟩
      show Q (.int (i.fdiv j)) H
      rw [Int.fdiv_eq_ediv_of_nonneg i (show 0 ≤ j by have := c.1; omega)]
      exact q _ H (hi.add rfl fun _ _ => rfl)
    · split at hg
      · rename_i c
        cases hg
        exact ⟨i, j, hi.view mx, hi.view my, ⟨by have := c.1; omega, Nat.lt_of_lt_of_le (PySem.Flt.log2_lt_of (by decide) c.2) (by decide)⟩, q _ H (hi.add rfl fun _ _ => rfl)⟩
      · cases hg
  · cases hg
def gMod : D → D → Option D := gI (fun _ j => 0 < j) fun i j => .int (i % j)
theorem o2_mod {K : Frg} : Op2 K (rI (fun _ j => 0 < j) fun i j => .int (i % j)) gMod := Op2.int (fun _ _ h => h) fun _ _ _ => ⟨rfl, fun _ => rfl⟩
def gPow : D → D → Option D := gI PowOk fun i j => .int (i ^ j.toNat)
theorem o2_pow {K : Frg} : Op2 K (rI CPow fun i j => .int (i ^ j.toNat)) gPow := Op2.int (fun _ _ h => h) fun _ _ _ => ⟨rfl, fun _ => rfl⟩
def gShl : D → D → Option D := gI PowOk fun i j => .int (i * 2 ^ j.toNat)
theorem o2_shl {K : Frg} : Op2 K (rI CPow fun i j => .int (i * 2 ^ j.toNat)) gShl := Op2.int (fun _ _ h => h) fun _ _ _ => ⟨rfl, fun _ => rfl⟩
def gShr : D → D → Option D := gI (fun _ j => 0 ≤ j) fun i j => .int (i / 2 ^ j.toNat)
theorem o2_shr {K : Frg} : Op2 K (rI (fun _ j => 0 ≤ j) fun i j => .int (i / 2 ^ j.toNat)) gShr := Op2.int (fun _ _ h => h) fun _ _ _ => ⟨rfl, fun _ => rfl⟩
def gNeg : D → Option D := fun a => match a with
  | .int i => some (.int (-i))
  | _ => none
theorem o1_neg {K : Frg} : Op1 K (rU fun i => .int (-i)) gNeg := by
  intro x H dx l Q d hi mx hg q
  unfold gNeg at hg
  split at hg
  · cases hg
    exact ⟨_, hi.view mx, q _ H (hi.add rfl fun _ _ => rfl)⟩
  · cases hg
def gLt : D → D → Option D := gI0 fun i j => .bl (decide (i < j))
def gLe : D → D → Option D := gI0 fun i j => .bl (decide (i ≤ j))
def gGt : D → D → Option D := gI0 fun i j => .bl (decide (j < i))
def gGe : D → D → Option D := gI0 fun i j => .bl (decide (j ≤ i))
theorem o2_lt {K : Frg} : Op2 K (rI0 fun i j => .bl (decide (i < j))) gLt := Op2.int0 fun _ _ => ⟨rfl, fun _ => rfl⟩
theorem o2_le {K : Frg} : Op2 K (rI0 fun i j => .bl (decide (i ≤ j))) gLe := Op2.int0 fun _ _ => ⟨rfl, fun _ => rfl⟩
theorem o2_gt {K : Frg} : Op2 K (rI0 fun i j => .bl (decide (j < i))) gGt := Op2.int0 fun _ _ => ⟨rfl, fun _ => rfl⟩
theorem o2_ge {K : Frg} : Op2 K (rI0 fun i j => .bl (decide (j ≤ i))) gGe := Op2.int0 fun _ _ => ⟨rfl, fun _ => rfl⟩

/-! ### equal -/
mutual
def D.pd : D → PyData
  | .bl b => .bool b
  | .int i => .int i
  | .str x => .str x
  | .lst _ xs => .list (D.pdL xs)
  | .cst xs => .list (D.pdL xs)
  | .tup xs => .tuple (D.pdL xs)
  | .non => .none
  | .any => .none
  | .rng _ _ => .none
  | .ty _ => .none
  | .obj _ => .none
def D.pdL : List D → List PyData
  | [] => []
  | d :: ds => D.pd d :: D.pdL ds
end
mutual
def D.dat : D → Bool
  | .bl _ => true
  | .int _ => true
  | .str _ => true
  | .lst _ xs => D.datL xs
  | .cst xs => D.datL xs
  | .tup xs => D.datL xs
  | .non => true
  | .any => false
  | .rng _ _ => false
  | .ty _ => false
  | .obj _ => false
def D.datL : List D → Bool
  | [] => true
  | d :: ds => D.dat d && D.datL ds
end
mutual
theorem Fz.dp {K : Frg} {H : Hp} : ∀ (d : D) (v : V), d.dat = true → Fz K H d v → Dp K H v d.pd
  | .bl b, _, _, h => by cases h; exact .bl b
  | .int i, _, _, h => by cases h; exact .int i
  | .str x, _, _, h => by cases h; exact .str x
  | .non, _, _, h => by cases h; exact .non
  | .lst _ xs, _, z, ⟨a, us, ev, hs, hl⟩ => by subst ev; exact .lst (SqL.of hs) (FzL.dp xs us z hl)
  | .cst xs, _, z, ⟨a, us, ev, hs, hl⟩ => by subst ev; exact .lst hs (FzL.dp xs us z hl)
  | .tup xs, _, z, ⟨a, us, ev, hs, hl⟩ => by subst ev; exact .tup hs (FzL.dp xs us z hl)
  | .any, _, z, _ => by cases z
  | .rng _ _, _, z, _ => by cases z
  | .ty _, _, z, _ => by cases z
  | .obj _, _, z, _ => by cases z
theorem FzL.dp {K : Frg} {H : Hp} : ∀ (ds : List D) (vs : List V), D.datL ds = true → FzL K H ds vs → DpAll K H vs (D.pdL ds)
  | [], _, _, h => by cases h; exact .nil
  | d :: ds, _, z, ⟨x, r, ex, h1, h2⟩ => by
    have z' : (d.dat && D.datL ds) = true := z
    rw [Bool.and_eq_true] at z'
    subst ex
    exact .cons (Fz.dp d x z'.1 h1) (FzL.dp ds r z'.2 h2)
end
/-- two simple things -/
def sEq : D → D → Option Bool
  | .int i, .int j => some (decide (i = j))
  | .bl i, .bl j => some (decide (i = j))
  | .str i, .str j => some (decide (i = j))
  | .non, .non => some true
  | .non, .int _ => some false
  | .int _, .non => some false
  | .non, .str _ => some false
  | .str _, .non => some false
  | .non, .bl _ => some false
  | .bl _, .non => some false
  | .int _, .str _ => some false
  | .str _, .int _ => some false
  | _, _ => none
theorem sEq_ok {K : Frg} {H : Hp} {dx dy : D} {x y : V} {b : Bool} (h : sEq dx dy = some b) (hx : Fz K H dx x) (hy : Fz K H dy y) : scal x y = true ∧ decide (x = y) = b := by
  unfold sEq at h
  split at h <;> first | cases h | skip
  all_goals (cases hx; cases hy; refine ⟨rfl, ?_⟩)
  all_goals first | (rw [decide_eq_decide]; constructor <;> intro z <;> first | (cases z; rfl) | (rw [z])) | rfl
def gEq : D → D → Option D := fun a b => match sEq a b with
  | some c => some (.bl c)
  | none => if a.dat = true ∧ b.dat = true ∧ SeqAt.shaped a.pd = true ∧ SeqAt.shaped b.pd = true then some (.bl (PyData.eqv a.pd b.pd)) else none
def gNe : D → D → Option D := fun a b => match sEq a b with
  | some c => some (.bl (!c))
  | none => if a.dat = true ∧ b.dat = true ∧ SeqAt.shaped a.pd = true ∧ SeqAt.shaped b.pd = true then some (.bl (!PyData.eqv a.pd b.pd)) else none
theorem o2_eq {K : Frg} : Op2 K (rOr rEq (rEqD K)) gEq := by
  intro x y H dx dy l Q d hi mx my hg q
  unfold gEq at hg
  split at hg
  · rename_i c e
    cases hg
    obtain ⟨k1, k2⟩ := sEq_ok e (hi.view mx) (hi.view my)
    exact .inl ⟨k1, by rw [k2]; exact q _ H (hi.add rfl fun _ _ => rfl)⟩
  · split at hg
    · rename_i c
      cases hg
      exact .inr ⟨_, _, Fz.dp _ _ c.1 (hi.view mx), Fz.dp _ _ c.2.1 (hi.view my), c.2.2.1, c.2.2.2, q _ H (hi.add rfl fun _ _ => rfl)⟩
    · cases hg
theorem o2_ne {K : Frg} : Op2 K (rOr rNe (rNeD K)) gNe := by
  intro x y H dx dy l Q d hi mx my hg q
  unfold gNe at hg
  split at hg
  · rename_i c e
    cases hg
    obtain ⟨k1, k2⟩ := sEq_ok e (hi.view mx) (hi.view my)
    exact .inl ⟨k1, by rw [k2]; exact q _ H (hi.add rfl fun _ _ => rfl)⟩
  · split at hg
    · rename_i c
      cases hg
      exact .inr ⟨_, _, Fz.dp _ _ c.1 (hi.view mx), Fz.dp _ _ c.2.1 (hi.view my), c.2.2.1, c.2.2.2, q _ H (hi.add rfl fun _ _ => rfl)⟩
    · cases hg
theorem op_eqA (hu : X.A.units + 64 < cLine) : OpR X (compareOp .Eq) (rOr rEq (rEqD X.K)) := OpR.or op_eq (op_eqD hu)
theorem op_neA (hu : X.A.units + 64 < cLine) : OpR X (compareOp .NotEq) (rOr rNe (rNeD X.K)) := OpR.or op_ne (op_neD hu)
/-! ### is -/
def gIsB (neg : Bool) : D → D → Option D := fun a b => match b with
  | .non => match a with
    | .any => none
    | .non => some (.bl (!neg))
    | _ => some (.bl neg)
  | .bl c => match a with
    | .any => none
    | .bl e => some (.bl (if neg then !(decide (e = c)) else decide (e = c)))
    | _ => some (.bl neg)
  | _ => none
/-- is a bool, whatever the left one -/
def rIsX (neg : Bool) : R2 := fun x y H Q => ∃ c : Bool, y = .bl c ∧ Q (.bl (if neg then !(decide (x = .bl c)) else decide (x = .bl c))) H
theorem op_isX : OpR X (compareOp .Is) (rIsX false) := by
  intro pins s σ H x y v u Q I rx ry h
  obtain ⟨c, rfl, q⟩ := h
  cases (show u = Value.bool c from ry)
  have q' : Q (.bl (decide (x = .bl c))) H := q
  cases x with
  | bl e =>
    cases (show v = Value.bool e from rx)
    by_cases z : e = c
    · subst z
      exact wpAny_is_self rfl ⟨.bl true, H, I, rfl, by simpa using q'⟩
    · exact wpAny_is_other rfl (fun w => z (Value.bool.inj w)) ⟨.bl false, H, I, rfl, by simpa [z] using q'⟩
  | non => cases (show v = Value.none from rx); exact wpAny_is_other rfl (fun w => nomatch w) ⟨.bl false, H, I, rfl, by simpa using q'⟩
  | int i => obtain ⟨t, rfl⟩ := rx; exact wpAny_is_other rfl (fun w => nomatch w) ⟨.bl false, H, I, rfl, by simpa using q'⟩
  | str i => obtain ⟨t, rfl⟩ := rx; exact wpAny_is_other rfl (fun w => nomatch w) ⟨.bl false, H, I, rfl, by simpa using q'⟩
  | byt i => obtain ⟨t, rfl⟩ := rx; exact wpAny_is_other rfl (fun w => nomatch w) ⟨.bl false, H, I, rfl, by simpa using q'⟩
  | flt i => obtain ⟨t, rfl⟩ := rx; exact wpAny_is_other rfl (fun w => nomatch w) ⟨.bl false, H, I, rfl, by simpa using q'⟩
  | ref a => cases (show v = Value.ref a from rx); exact wpAny_is_other rfl (fun w => nomatch w) ⟨.bl false, H, I, rfl, by simpa using q'⟩
  | ty n => cases (show v = Value.type n from rx); exact wpAny_is_other rfl (fun w => nomatch w) ⟨.bl false, H, I, rfl, by simpa using q'⟩
theorem op_isNotX : OpR X (compareOp .IsNot) (rIsX true) := by
  intro pins s σ H x y v u Q I rx ry h
  obtain ⟨c, rfl, q⟩ := h
  cases (show u = Value.bool c from ry)
  have q' : Q (.bl (!(decide (x = .bl c)))) H := q
  cases x with
  | bl e =>
    cases (show v = Value.bool e from rx)
    by_cases z : e = c
    · subst z
      exact wpAny_isNot_self rfl ⟨.bl false, H, I, rfl, by simpa using q'⟩
    · exact wpAny_isNot_other rfl (fun w => z (Value.bool.inj w)) ⟨.bl true, H, I, rfl, by simpa [z] using q'⟩
  | non => cases (show v = Value.none from rx); exact wpAny_isNot_other rfl (fun w => nomatch w) ⟨.bl true, H, I, rfl, by simpa using q'⟩
  | int i => obtain ⟨t, rfl⟩ := rx; exact wpAny_isNot_other rfl (fun w => nomatch w) ⟨.bl true, H, I, rfl, by simpa using q'⟩
  | str i => obtain ⟨t, rfl⟩ := rx; exact wpAny_isNot_other rfl (fun w => nomatch w) ⟨.bl true, H, I, rfl, by simpa using q'⟩
  | byt i => obtain ⟨t, rfl⟩ := rx; exact wpAny_isNot_other rfl (fun w => nomatch w) ⟨.bl true, H, I, rfl, by simpa using q'⟩
  | flt i => obtain ⟨t, rfl⟩ := rx; exact wpAny_isNot_other rfl (fun w => nomatch w) ⟨.bl true, H, I, rfl, by simpa using q'⟩
  | ref a => cases (show v = Value.ref a from rx); exact wpAny_isNot_other rfl (fun w => nomatch w) ⟨.bl true, H, I, rfl, by simpa using q'⟩
  | ty n => cases (show v = Value.type n from rx); exact wpAny_isNot_other rfl (fun w => nomatch w) ⟨.bl true, H, I, rfl, by simpa using q'⟩
theorem not_bl {K : Frg} {H : Hp} {d : D} {v : V} {c : Bool} (h : Fz K H d v) (h1 : d ≠ .any) (h2 : ∀ e, d ≠ .bl e) : decide (v = .bl c) = false := by
  apply decide_eq_false
  rintro rfl
  cases d with
  | any => exact h1 rfl
  | bl e => exact h2 e rfl
  | non => cases h
  | int _ => cases h
  | str _ => cases h
  | ty _ => cases h
  | lst _ _ => obtain ⟨a, xs, e, _⟩ := h; cases e
  | tup _ => obtain ⟨a, xs, e, _⟩ := h; cases e
  | cst _ => obtain ⟨a, xs, e, _⟩ := h; cases e
  | rng _ _ => obtain ⟨a, e, _⟩ := h; cases e
  | obj _ => obtain ⟨a, e⟩ := h; cases e
def rIs : R2 := rOr (fun x y H Q => y = .non ∧ Q (.bl (decide (x = .non))) H) (rIsX false)
def rIsNot : R2 := rOr (fun x y H Q => y = .non ∧ Q (.bl (!decide (x = .non))) H) (rIsX true)
theorem op_isA : OpR X (compareOp .Is) rIs := OpR.or op_isN op_isX
theorem op_isNotA : OpR X (compareOp .IsNot) rIsNot := OpR.or op_notN op_isNotX
theorem not_non {K : Frg} {H : Hp} {d : D} {v : V} (h : Fz K H d v) (h1 : d ≠ .any) (h2 : d ≠ .non) : decide (v = .non) = false := by
  apply decide_eq_false
  rintro rfl
  cases d with
  | any => exact h1 rfl
  | non => exact h2 rfl
  | bl _ => cases h
  | int _ => cases h
  | str _ => cases h
  | ty _ => cases h
  | lst _ _ => obtain ⟨a, xs, e, _⟩ := h; cases e
  | tup _ => obtain ⟨a, xs, e, _⟩ := h; cases e
  | cst _ => obtain ⟨a, xs, e, _⟩ := h; cases e
  | rng _ _ => obtain ⟨a, e, _⟩ := h; cases e
  | obj _ => obtain ⟨a, e⟩ := h; cases e
theorem o2_is {K : Frg} : Op2 K rIs (gIsB false) := by
  intro x y H dx dy l Q d hi mx my hg q
  unfold gIsB at hg
  split at hg
  · have hy : y = .non := hi.view my
    refine .inl ⟨hy, ?_⟩
    split at hg
    · cases hg
    · have hx : x = .non := hi.view mx
      cases hg
      rw [hx, decide_eq_true rfl]
      exact q _ H (hi.add rfl fun _ _ => rfl)
    · rename_i h1 h2
      cases hg
      rw [not_non (hi.view mx) h1 h2]
      exact q _ H (hi.add rfl fun _ _ => rfl)
  · rename_i c
    have hy : y = .bl c := hi.view my
    split at hg
    · cases hg
    · rename_i e
      have hx : x = .bl e := hi.view mx
      cases hg
      refine .inr ⟨c, hy, ?_⟩
      have : decide (x = .bl c) = decide (e = c) := by
        rw [hx]
        by_cases z : e = c
        · subst z; simp
        · simp [z]
      rw [this]
      exact q _ H (hi.add rfl fun _ _ => rfl)
    · rename_i h1 h2
      cases hg
      refine .inr ⟨c, hy, ?_⟩
      rw [not_bl (hi.view mx) h1 h2]
      exact q _ H (hi.add rfl fun _ _ => rfl)
  · cases hg
theorem o2_isNot {K : Frg} : Op2 K rIsNot (gIsB true) := by
  intro x y H dx dy l Q d hi mx my hg q
  unfold gIsB at hg
  split at hg
  · have hy : y = .non := hi.view my
    refine .inl ⟨hy, ?_⟩
    split at hg
    · cases hg
    · have hx : x = .non := hi.view mx
      cases hg
      rw [hx, decide_eq_true rfl]
      exact q _ H (hi.add rfl fun _ _ => rfl)
    · rename_i h1 h2
      cases hg
      rw [not_non (hi.view mx) h1 h2]
      exact q _ H (hi.add rfl fun _ _ => rfl)
  · rename_i c
    have hy : y = .bl c := hi.view my
    split at hg
    · cases hg
    · rename_i e
      have hx : x = .bl e := hi.view mx
      cases hg
      refine .inr ⟨c, hy, ?_⟩
      have : decide (x = .bl c) = decide (e = c) := by
        rw [hx]
        by_cases z : e = c
        · subst z; simp
        · simp [z]
      rw [this]
      exact q _ H (hi.add rfl fun _ _ => rfl)
    · rename_i h1 h2
      cases hg
      refine .inr ⟨c, hy, ?_⟩
      rw [not_bl (hi.view mx) h1 h2]
      exact q _ H (hi.add rfl fun _ _ => rfl)
  · cases hg

/-! ### items, lengths -/
def atF (xs : List D) (i : Int) : Option D := (atI xs i).bind fun d => if d.frz = true then some d else none
def gIdx : D → D → Option D := fun a b => match a, b with
  | .lst _ xs, .int i => atF xs i
  | .cst xs, .int i => atF xs i
  | .tup xs, .int i => atF xs i
  | .str z, .int i => if z.length ≤ 16777216 then (atI z.cps.toList i).map fun c => .str ⟨#[c]⟩ else none
  | _, _ => none
theorem atI_rel {xs : List V} {ds : List D} {i : Int} {d : D} (hl : xs.length = ds.length) (h : atI ds i = some d) : ∃ (j : Nat) (v : V), atI xs i = some v ∧ xs[j]? = some v ∧ ds[j]? = some d := by
  unfold atI at h ⊢
  rw [hl]
  cases e : ixN ds.length i with
  | none => rw [e] at h; cases h
  | some j =>
    rw [e] at h
    have h' : ds[j]? = some d := h
    have hj : j < xs.length := by rw [hl]; exact (List.getElem?_eq_some_iff.mp h').1
    exact ⟨j, xs[j], List.getElem?_eq_getElem hj, List.getElem?_eq_getElem hj, h'⟩
theorem o2_idx {K : Frg} : Op2 K (rIx K) gIdx := by
  intro x y H dx dy l Q d hi mx my hg q
  unfold gIdx at hg
  split at hg
  · rename_i b xs i
    obtain ⟨c, e1, e2⟩ := Option.bind_eq_some_iff.mp hg
    split at e2
    · rename_i z
      cases e2
      obtain ⟨a, us, rfl, hs, hl, _, hd⟩ := hi.list mx
      obtain ⟨j, v, k1, k2, k3⟩ := atI_rel hl e1
      exact .inl ⟨a, us, i, v, rfl, hi.view my, SqL.of hs, k1, q v H (hd j _ v k3 k2 z)⟩
    · cases e2
  · rename_i xs i
    obtain ⟨c, e1, e2⟩ := Option.bind_eq_some_iff.mp hg
    split at e2
    · rename_i z
      cases e2
      obtain ⟨a, us, rfl, hs, hl, _, hd⟩ := hi.const mx
      obtain ⟨j, v, k1, k2, k3⟩ := atI_rel hl e1
      exact .inl ⟨a, us, i, v, rfl, hi.view my, hs, k1, q v H (hd j _ v k3 k2 z)⟩
    · cases e2
  · rename_i xs i
    obtain ⟨c, e1, e2⟩ := Option.bind_eq_some_iff.mp hg
    split at e2
    · rename_i z
      cases e2
      obtain ⟨a, us, rfl, hs, hl, _, hd⟩ := hi.tuple mx
      obtain ⟨j, v, k1, k2, k3⟩ := atI_rel hl e1
      exact .inr (.inl ⟨a, us, i, v, rfl, hi.view my, hs, k1, q v H (hd j _ v k3 k2 z)⟩)
    · cases e2
  · rename_i z i
    split at hg
    · rename_i hz
      obtain ⟨c, e1, e2⟩ := Option.map_eq_some_iff.mp hg
      subst e2
      exact .inr (.inr ⟨z, i, c, hi.view mx, hi.view my, by rw [sizeLine_eq]; exact hz, e1, q _ H (hi.add rfl fun _ _ => rfl)⟩)
    · cases hg
  · cases hg
def gLen : List D → Option D := fun ds => match ds with
  | [.lst _ xs] => some (.int xs.length)
  | [.cst xs] => some (.int xs.length)
  | [.tup xs] => some (.int xs.length)
  | [.str z] => if z.length ≤ 16777216 then some (.int z.length) else none
  | _ => none
theorem one_of {K : Frg} {l : List Itm} {xs : List V} {d : D} (h : Paired (fun x dx => (some x, dx) ∈ l) xs [d]) : ∃ x, xs = [x] ∧ (some x, d) ∈ l := by
  cases h with
  | cons h r =>
    cases r
    exact ⟨_, rfl, h⟩
theorem two_of {K : Frg} {l : List Itm} {xs : List V} {d e : D} (h : Paired (fun x dx => (some x, dx) ∈ l) xs [d, e]) : ∃ x y, xs = [x, y] ∧ (some x, d) ∈ l ∧ (some y, e) ∈ l := by
  cases h with
  | cons h r =>
    cases r with
    | cons h' r =>
      cases r
      exact ⟨_, _, rfl, h, h'⟩
theorem on_len {K : Frg} : OpN K (fun xs H Q => ∃ x n, xs = [x] ∧ LenV K x H n ∧ Q (.int n) H) gLen := by
  intro xs H ds l Q d hi hm hg q
  unfold gLen at hg
  split at hg
  · obtain ⟨x, rfl, m⟩ := one_of (K := K) hm
    obtain ⟨a, us, rfl, hs, hl, _⟩ := hi.list m
    cases hg
    exact ⟨_, us.length, rfl, .inl ⟨us, SqL.of hs, rfl⟩, by rw [hl]; exact q _ H (hi.add rfl fun _ _ => rfl)⟩
  · obtain ⟨x, rfl, m⟩ := one_of (K := K) hm
    obtain ⟨a, us, rfl, hs, hl, _⟩ := hi.const m
    cases hg
    exact ⟨_, us.length, rfl, .inl ⟨us, hs, rfl⟩, by rw [hl]; exact q _ H (hi.add rfl fun _ _ => rfl)⟩
  · obtain ⟨x, rfl, m⟩ := one_of (K := K) hm
    obtain ⟨a, us, rfl, hs, hl, _⟩ := hi.tuple m
    cases hg
    exact ⟨_, us.length, rfl, .inr ⟨us, hs, rfl⟩, by rw [hl]; exact q _ H (hi.add rfl fun _ _ => rfl)⟩
  · rename_i z
    obtain ⟨x, rfl, m⟩ := one_of (K := K) hm
    have hx : x = .str z := hi.view m
    subst hx
    split at hg
    · rename_i hz
      cases hg
      exact ⟨_, z.length, rfl, ⟨by rw [sizeLine_eq]; exact hz, rfl⟩, q _ H (hi.add rfl fun _ _ => rfl)⟩
    · cases hg
  · cases hg
/-! ### builtins on ints -/
def gInt : List D → Option D := fun ds => match ds with
  | [.int i] => some (.int i)
  | [.bl b] => some (.int (if b then 1 else 0))
  | [.str a] => (PySem.intText? a).bind fun n => if a.length ≤ 640 then some (.int n) else none
  | _ => none
def rInt : List V → Hp → VK → Prop := fun xs H Q => ((∃ i, xs = [.int i] ∧ Q (.int i) H) ∨ ∃ k, xs = [.bl k] ∧ Q (.int (if k then 1 else 0)) H) ∨ ∃ a n, xs = [.str a] ∧ PySem.intText? a = some n ∧ a.length ≤ 640 ∧ Q (.int n) H
theorem call_intA : CallR X (.type "int") rInt := by
  intro pins s σ H xs us Q I r h
  rcases h with h | h
  · exact call_int1 pins s σ H xs us Q I r h
  · exact call_int_str pins s σ H xs us Q I r h
theorem on_int {K : Frg} : OpN K rInt gInt := by
  intro xs H ds l Q d hi hm hg q
  unfold gInt at hg
  split at hg
  · obtain ⟨x, rfl, m⟩ := one_of (K := K) hm
    cases hg
    exact .inl (.inl ⟨_, by rw [show x = _ from hi.view m], q _ H (hi.add rfl fun _ _ => rfl)⟩)
  · obtain ⟨x, rfl, m⟩ := one_of (K := K) hm
    cases hg
    exact .inl (.inr ⟨_, by rw [show x = _ from hi.view m], q _ H (hi.add rfl fun _ _ => rfl)⟩)
  · obtain ⟨x, rfl, m⟩ := one_of (K := K) hm
    obtain ⟨n, e, hg⟩ := Option.bind_eq_some_iff.mp hg
    split at hg
    · rename_i c
      cases hg
      exact .inr ⟨_, n, by rw [show x = _ from hi.view m], e, c, q _ H (hi.add rfl fun _ _ => rfl)⟩
    · cases hg
  · cases hg
def gAbs : List D → Option D := fun ds => match ds with
  | [.int i] => some (.int (if i < 0 then -i else i))
  | _ => none
theorem on_abs {K : Frg} : OpN K (fun xs H Q => ∃ i, xs = [.int i] ∧ Q (.int (if i < 0 then -i else i)) H) gAbs := by
  intro xs H ds l Q d hi hm hg q
  unfold gAbs at hg
  split at hg
  · obtain ⟨x, rfl, m⟩ := one_of (K := K) hm
    cases hg
    exact ⟨_, by rw [show x = _ from hi.view m], q _ H (hi.add rfl fun _ _ => rfl)⟩
  · cases hg
def gInt2 (f : Int → Int → Int) : List D → Option D := fun ds => match ds with
  | [.int i, .int j] => some (.int (f i j))
  | _ => none
theorem on_int2 {K : Frg} {f : Int → Int → Int} : OpN K (fun xs H Q => ∃ i j, xs = [.int i, .int j] ∧ Q (.int (f i j)) H) (gInt2 f) := by
  intro xs H ds l Q d hi hm hg q
  unfold gInt2 at hg
  split at hg
  · obtain ⟨x, y, rfl, m1, m2⟩ := two_of (K := K) hm
    cases hg
    exact ⟨_, _, by rw [show x = _ from hi.view m1, show y = _ from hi.view m2], q _ H (hi.add rfl fun _ _ => rfl)⟩
  · cases hg
def gMax2 : List D → Option D := gInt2 fun i j => if j > i then j else i
def gMin2 : List D → Option D := gInt2 fun i j => if j < i then j else i
def gGcd : List D → Option D := gInt2 fun a b => ((Nat.gcd a.natAbs b.natAbs : Nat) : Int)
theorem on_gcd {K : Frg} : OpN K rGcd gGcd := on_int2
def ints? : List D → Option (List Int)
  | [] => some []
  | .int i :: ds => (ints? ds).map fun r => i :: r
  | _ => none
theorem ints_ok {K : Frg} {H : Hp} : ∀ {ds : List D} {xs : List V} {ns : List Int}, ints? ds = some ns → FzL K H ds xs → xs = ns.map V.int
  | [], _, _, h, hl => by cases h; cases hl; rfl
  | .int i :: ds, _, _, h, ⟨x, r, ex, h1, h2⟩ => by
    obtain ⟨r', e1, e2⟩ := Option.map_eq_some_iff.mp h
    subst e2 ex
    rw [show x = .int i from h1, ints_ok e1 h2]
    rfl
  | .any :: _, _, _, h, _ => by cases h
  | .non :: _, _, _, h, _ => by cases h
  | .bl _ :: _, _, _, h, _ => by cases h
  | .str _ :: _, _, _, h, _ => by cases h
  | .lst _ _ :: _, _, _, h, _ => by cases h
  | .tup _ :: _, _, _, h, _ => by cases h
  | .cst _ :: _, _, _, h, _ => by cases h
  | .rng _ _ :: _, _, _, h, _ => by cases h
  | .ty _ :: _, _, _, h, _ => by cases h
  | .obj _ :: _, _, _, h, _ => by cases h
def gSum : List D → Option D := fun ds => match ds with
  | [.lst _ xs] => (ints? xs).map fun ns => .int ns.sum
  | _ => none
theorem on_sum {K : Frg} : OpN K (rSum K) gSum := by
  intro xs H ds l Q d hi hm hg q
  unfold gSum at hg
  split at hg
  · obtain ⟨x, rfl, m⟩ := one_of (K := K) hm
    obtain ⟨ns, e, rfl⟩ := Option.map_eq_some_iff.mp hg
    obtain ⟨a, us, rfl, hs, hl, hz, _⟩ := hi.list m
    have := ints_ok e hz
    subst this
    exact ⟨a, ns, rfl, SqL.of hs, q _ H (hi.add rfl fun _ _ => rfl)⟩
  · cases hg
/-- the greatest, the least of some ints -/
def topI (ns : List Int) : Option Int := ns.max?
def botI (ns : List Int) : Option Int := ns.min?
def gMaxL : List D → Option D := fun ds => match ds with
  | [.lst _ xs] => (ints? xs).bind fun ns => ns.max?.map D.int
  | _ => none
def gMinL : List D → Option D := fun ds => match ds with
  | [.lst _ xs] => (ints? xs).bind fun ns => ns.min?.map D.int
  | _ => none
theorem on_maxL {K : Frg} : OpN K (rMax K) gMaxL := by
  intro xs H ds l Q d hi hm hg q
  unfold gMaxL at hg
  split at hg
  · obtain ⟨x, rfl, m⟩ := one_of (K := K) hm
    obtain ⟨ns, e, hg⟩ := Option.bind_eq_some_iff.mp hg
    obtain ⟨z, e2, rfl⟩ := Option.map_eq_some_iff.mp hg
    obtain ⟨a, us, rfl, hs, hl, hz, _⟩ := hi.list m
    have := ints_ok e hz
    subst this
    obtain ⟨z1, z2⟩ := List.max?_eq_some_iff.mp e2
    refine ⟨a, ns, rfl, SqL.of hs, List.length_pos_of_mem z1, fun y hy hle => ?_⟩
    have : y = z := Int.le_antisymm (z2 y hy) (hle z z1)
    rw [this]
    exact q _ H (hi.add rfl fun _ _ => rfl)
  · cases hg
theorem on_minL {K : Frg} : OpN K (rMin K) gMinL := by
  intro xs H ds l Q d hi hm hg q
  unfold gMinL at hg
  split at hg
  · obtain ⟨x, rfl, m⟩ := one_of (K := K) hm
    obtain ⟨ns, e, hg⟩ := Option.bind_eq_some_iff.mp hg
    obtain ⟨z, e2, rfl⟩ := Option.map_eq_some_iff.mp hg
    obtain ⟨a, us, rfl, hs, hl, hz, _⟩ := hi.list m
    have := ints_ok e hz
    subst this
    obtain ⟨z1, z2⟩ := List.min?_eq_some_iff.mp e2
    refine ⟨a, ns, rfl, SqL.of hs, List.length_pos_of_mem z1, fun y hy hle => ?_⟩
    have : y = z := Int.le_antisymm (hle z z1) (z2 y hy)
    rw [this]
    exact q _ H (hi.add rfl fun _ _ => rfl)
  · cases hg
/-! ### texts of numbers -/
def gStrI : List D → Option D := fun ds => match ds with
  | [.int i] => if i.natAbs < 2 ^ 1900 then some (.str (toString i)) else none
  | _ => none
theorem log_lt {i : Int} (h : i.natAbs < 2 ^ 1900) : i.natAbs.log2 < 1920 := Nat.lt_of_lt_of_le (PySem.Flt.log2_lt_of (by decide) h) (by decide)
theorem on_strI {K : Frg} : OpN K (fun xs H Q => ∃ i, xs = [.int i] ∧ i.natAbs.log2 < 1920 ∧ Q (.str (toString i)) H) gStrI := by
  intro xs H ds l Q d hi hm hg q
  unfold gStrI at hg
  split at hg
  · obtain ⟨x, rfl, m⟩ := one_of (K := K) hm
    split at hg
    · rename_i c
      cases hg
      exact ⟨_, by rw [show x = _ from hi.view m], log_lt c, q _ H (hi.add rfl fun _ _ => rfl)⟩
    · cases hg
  · cases hg
/-- repr of an int, of a text -/
def rRepr : List V → Hp → VK → Prop := fun xs H Q => (∃ i, xs = [.int i] ∧ i.natAbs.log2 < 1920 ∧ Q (.str (toString i)) H) ∨ ∃ z : Str, xs = [.str z] ∧ (reprText z).length ≤ sizeLine ∧ Q (.str (reprText z)) H
theorem call_repr : CallR X (.builtin "repr") rRepr := by
  intro pins s σ H xs us Q I r h
  rcases h with h | ⟨z, rfl, hz, q⟩
  · exact SkE.call_repr_int pins s σ H xs us Q I r h
  · cases r with
    | cons r rr =>
      cases rr
      obtain ⟨t, rfl⟩ := r
      exact PySem.P.repr_of_str ⟨.str _, H, I.tok _, ⟨_, rfl⟩, q⟩ hz
def gRepr : List D → Option D := fun ds => match ds with
  | [.int i] => if i.natAbs < 2 ^ 1900 then some (.str (toString i)) else none
  | [.str z] => if (reprText z).length ≤ 16777216 then some (.str (reprText z)) else none
  | _ => none
theorem on_repr {K : Frg} : OpN K rRepr gRepr := by
  intro xs H ds l Q d hi hm hg q
  unfold gRepr at hg
  split at hg
  · obtain ⟨x, rfl, m⟩ := one_of (K := K) hm
    split at hg
    · rename_i c
      cases hg
      exact .inl ⟨_, by rw [show x = _ from hi.view m], log_lt c, q _ H (hi.add rfl fun _ _ => rfl)⟩
    · cases hg
  · obtain ⟨x, rfl, m⟩ := one_of (K := K) hm
    split at hg
    · rename_i c
      cases hg
      exact .inr ⟨_, by rw [show x = _ from hi.view m], by rw [sizeLine_eq]; exact c, q _ H (hi.add rfl fun _ _ => rfl)⟩
    · cases hg
  · cases hg
/-! ### isinstance -/
def D.tyn : D → Option String
  | .non => some "NoneType"
  | .bl _ => some "bool"
  | .int _ => some "int"
  | .str _ => some "str"
  | .lst _ _ => some "list"
  | .tup _ => some "tuple"
  | _ => none
def isiT (a b : String) : Option Bool :=
  if b = "int" then (if a = "int" ∨ a = "bool" then some true else some false)
  else if b = "str" ∨ b = "bool" ∨ b = "list" ∨ b = "tuple" then some (decide (a = b))
  else none
def gIsi : List D → Option D := fun ds => match ds with
  | [a, .ty c] => a.tyn.bind fun t => (isiT t c).map D.bl
  | _ => none
theorem kit_all {K : Frg} : ∀ a ∈ ["NoneType", "bool", "int", "str", "list", "tuple"], ∀ b ∈ ["int", "str", "bool", "list", "tuple"], ∀ r, isiT a b = some r → PySem.W.kitOne K (.type a) (.type b) = some r := by
  intro a ha b hb r h
  apply kit_ty
  revert a b r
  decide +kernel
theorem tyn_in {d : D} {t : String} (h : d.tyn = some t) : t ∈ ["NoneType", "bool", "int", "str", "list", "tuple"] := by
  cases d <;> cases h <;> decide
theorem isi_in {a b : String} {r : Bool} (h : isiT a b = some r) : b ∈ ["int", "str", "bool", "list", "tuple"] := by
  unfold isiT at h
  split at h
  · rename_i e; subst e; decide
  · split at h
    · rename_i e
      rcases e with rfl | rfl | rfl | rfl <;> decide
    · cases h
theorem on_isi {K : Frg} : OpN K (rIsi K) gIsi := by
  intro xs H ds l Q d hi hm hg q
  unfold gIsi at hg
  split at hg
  · rename_i a c
    obtain ⟨x, y, rfl, m1, m2⟩ := two_of (K := K) hm
    obtain ⟨t, e1, hg⟩ := Option.bind_eq_some_iff.mp hg
    obtain ⟨b, e2, rfl⟩ := Option.map_eq_some_iff.mp hg
    have hy : y = .ty c := hi.view m2
    subst hy
    refine ⟨x, .ty c, .type t, .type c, b, rfl, .ty c, ?_, kit_all t (tyn_in e1) c (isi_in e2) b e2, q _ H (hi.add rfl fun _ _ => rfl)⟩
    have hx := hi.view m1
    cases a with
    | non => cases e1; cases hx; exact .base .non
    | bl _ => cases e1; cases hx; exact .base (.bl _)
    | int _ => cases e1; cases hx; exact .base (.int _)
    | str _ => cases e1; cases hx; exact .base (.str _)
    | lst _ _ =>
      cases e1
      obtain ⟨p, us, rfl, hs, _⟩ := hx
      exact .base (.lst hs)
    | tup _ =>
      cases e1
      obtain ⟨p, us, rfl, hs, _⟩ := hx
      rcases hs with (hs | ⟨o, hs⟩) | ⟨o, its, n, hs, hc, _⟩
      · exact .base (.tup hs)
      · exact .fTuple hs
      · exact .kTuple hs hc
    | any => cases e1
    | cst _ => cases e1
    | rng _ _ => cases e1
    | ty _ => cases e1
    | obj _ => cases e1
  · cases hg
/-! ### list.append -/
def gApp : List D → List D → Option (D × List D) := fun xs ds => match ds with
  | [d] => if xs.length < 16777216 then some (.non, xs ++ [d]) else none
  | _ => none
theorem mo_app {K : Frg} : MutOp K rAppend gApp := by
  intro a vs H ds xs l Q d ys hlen hi hg q
  unfold gApp at hg
  split at hg
  · rename_i e
    split at hg
    · rename_i c
      cases hg
      match vs, hlen with
      | [v], _ =>
        obtain ⟨us, hs, hl, hop⟩ := hi.open
        refine ⟨a, us, v, rfl, rfl, hs, by rw [sizeLine_eq, hl]; exact c, q .non _ ?_⟩
        have hcl : Items K [a] H (prs (us ++ [v]) (xs ++ [e]) ++ l) := by
          rw [prs_app hl, List.append_assoc]
          exact hop
        exact (Items.close hs (by simp [hl]) hcl).add (d := .non) rfl fun _ _ => rfl
    · cases hg
  · cases hg
/-! ### a module's name for a built-in function; a type's name -/
theorem de_bf {x : Str} {id : String} {p pos : Pos} {e : Expr} {es : List Expr} {fa : Ev → Option (List Hd × Ev)} {r : List V → Hp → VK → Prop} {g : List D → Option D} (hc : CallR X (.builtin id) r) (hgo : OpN X.K r g) (hg : Gl X x) (hm : X.mg x = some (.builtin id)) (ha : DA X (e :: es) fa)
    (hdb : (x == ("__debug__" : Str)) = false := by decide) (he : starEach (e :: es) X.env = (false, eval e X.env) :: starEach es X.env := by rfl) (hpl : (backTo pos (starEach es X.env)).any (·.1) = false := by rfl) :
    DE X (.Call (.Name x p) (e :: es) [] pos) (eN g fa) := by
  obtain ⟨t, ht, k⟩ := callN hgo ha
  exact ⟨_, pe_callBfun hc hg hm ht hdb he hpl, k⟩
theorem de_tyn {x : Str} {T : String} {pos : Pos} (hg : Gl X x) (hm : X.mg x = none) (hv : bootBuiltins x = some (.type T)) (hn : x ≠ "__name__" := by decide) (hd : (x == ("__debug__" : Str)) = false := by decide) : DE X (.Name x pos) (eC (.ty T)) :=
  de_const (pe_bltn (v := .ty T) hg hm hv rfl hn hd) rfl fun _ => rfl
end
end Mv
end
section
set_option Elab.async false
set_option linter.all false
set_option maxRecDepth 100000
/-! More of what the operations make of data. -/
namespace Mv
open PySem PySem.Spec PyProof.Rows L2

theorem hu64 {A : Around} {k : Nat} (hr : Room k A) : A.units + 64 < cLine := by have := hr.un; omega
theorem hu65 {A : Around} {k : Nat} (hr : Room k A) : A.units + 65 < cLine := by have := hr.un; omega
theorem hsl_of {C : List Nat} {f : Ev → Option (D × Ev)} : ∀ ρ hd ρ', hE f ρ = some (hd, ρ') → hsl C hd := fun ρ hd ρ' h => by
  obtain ⟨p, _, e⟩ := Option.map_eq_some_iff.mp h
  cases e
  trivial
theorem hsl_var {C : List Nat} {i : Nat} (hi : i ∈ C) : ∀ ρ hd ρ', hV i ρ = some (hd, ρ') → hsl C hd := fun ρ hd ρ' h => by
  unfold hV at h
  split at h
  · cases h
  · cases h; exact hi
  · cases h
theorem blk_ok {N : List Str} {sc scope : Scope} {own : List (Str × Nat)} (h : blkC N sc scope own = true) : BlkOk N sc scope own := blkOk_by h

theorem FOk.void {P : Program} {w : World} {K : Frg} {mg : Str → Option Value} {base : Heap} {k : Nat} {x : Str} {st : Stmt} {f : Addr} {fd : FuncData} {ps : List Str} (F : Fun K x x st f fd) (hb : Binds K fd ps []) (hm : mg x = some (.ref f)) :
    FOk P w K mg base k x ps (fun _ => none) :=
  ⟨f, fd, hm, F.kp, hb, (by obtain ⟨oc, od, kV, doc, pm, an, cd', ct, osl, e, lk, _⟩ := F.ex; exact ⟨oc, od, osl, lk⟩), ⟨fun vs H Q E ⟨l, ds, r, bs, h1, _⟩ => h1, fun A outer s H args us vs Q E _ _ _ _ ⟨l, ds, r, bs, _, _, _, hf, _⟩ => nomatch hf⟩⟩
/-- what was owned is frozen -/
def eFz (f : Ev → Option (D × Ev)) : Ev → Option (D × Ev) := fun ρ => (f ρ).map fun p => (p.1.fz, p.2)
theorem de_fz {X : Cx} {e : Expr} {f : Ev → Option (D × Ev)} (h : DE X e f) : DE X e (eFz f) := by
  obtain ⟨t, ht, k⟩ := h.ex
  refine ⟨t, ht, fun σ H ρ l Q r ρ' hl hi hf q => ?_⟩
  obtain ⟨⟨d, ρ1⟩, e1, hf⟩ := Option.map_eq_some_iff.mp hf
  cases hf
  exact k σ H ρ l Q d ρ1 hl hi e1 fun v H1 l1 i1 => q v H1 l1 i1.freeze
section
variable {X : Cx}
/-! ### f-strings -/
def gFmt : D → Option D := fun d => match d with
  | .str y => if y.length ≤ 16777216 then some (.str y) else none
  | .int i => if i.natAbs < 2 ^ 1900 then some (.str (toString i)) else none
  | _ => none
theorem de_fmt {e : Expr} {pos : Pos} {f : Ev → Option (Hd × Ev)} (h : DH X e f) : DE X (.FormattedValue e (-1) none pos) (e1 gFmt f) := by
  obtain ⟨t, ht, k⟩ := h.ex
  refine ⟨_, pe_fmt ht, fun σ H ρ l Q d ρ' hl hi hf q => ?_⟩
  obtain ⟨⟨hd, ρ1⟩, e1, hf⟩ := Option.bind_eq_some_iff.mp hf
  obtain ⟨b, e2, hf⟩ := Option.map_eq_some_iff.mp hf
  obtain ⟨eb, eρ⟩ : b = d ∧ ρ1 = ρ' := by cases hf; exact ⟨rfl, rfl⟩
  subst eb eρ
  refine k σ H ρ l _ hd ρ1 hl hi e1 fun v H' hl' ha hi' => ?_
  have hz := hi'.view (mem_hd (X := X) (hl := by omega) ha hi')
  replace e2 : gFmt (hd.get ρ1) = some b := e2
  unfold gFmt at e2
  split at e2
  · rename_i y e
    rw [e] at hz
    cases hz
    split at e2
    · rename_i c
      cases e2
      exact .inl ⟨y, rfl, by rw [sizeLine_eq]; exact c, q _ H' hl' (hi'.drop.add (d := .str y) rfl fun _ _ => rfl)⟩
    · cases e2
  · rename_i i e
    rw [e] at hz
    cases hz
    split at e2
    · rename_i c
      cases e2
      exact .inr ⟨i, rfl, log_lt c, q _ H' hl' (hi'.drop.add (d := .str (toString i)) rfl fun _ _ => rfl)⟩
    · cases e2
  · cases e2
def eJ : List (Ev → Option (D × Ev)) → Str → Ev → Option (D × Ev)
  | [], acc, ρ => some (.str acc, ρ)
  | f :: fs, acc, ρ => (f ρ).bind fun p => match p.1 with
    | .str y => if (acc ++ y).length ≤ 16777216 then eJ fs (acc ++ y) p.2 else none
    | _ => none
structure DJ (X : Cx) (es : List Expr) (fs : List (Ev → Option (D × Ev))) : Prop where
  ex : ∃ ts, PJ X es ts ∧ ∀ (σ : Sl) (H : Hp) (ρ : Ev) (l : List Itm) (acc : Str) (Q : Str → Hp → Prop) (r : D) (ρ' : Ev), σ.length = ρ.length → Items X.K [] H (σ.zip ρ ++ l) → eJ fs acc ρ = some (r, ρ') →
    (∀ out H', r = .str out → ρ'.length = ρ.length → Items X.K [] H' (σ.zip ρ' ++ l) → Q out H') → tJs ts acc σ H Q
theorem dj_nil : DJ X [] [] := ⟨[], .nil, fun σ H ρ l acc Q r ρ' hl hi hf q => by cases hf; exact q acc H rfl rfl hi⟩
theorem dj_cons {e : Expr} {es : List Expr} {f : Ev → Option (D × Ev)} {fs : List (Ev → Option (D × Ev))} (h : DE X e f) (h' : DJ X es fs) : DJ X (e :: es) (f :: fs) := by
  obtain ⟨t, ht, k⟩ := h.ex
  obtain ⟨ts, hts, k'⟩ := h'.ex
  refine ⟨t :: ts, .cons ht hts, fun σ H ρ l acc Q r ρ' hl hi hf q => ?_⟩
  obtain ⟨⟨d, ρ1⟩, e1, hf⟩ := Option.bind_eq_some_iff.mp hf
  refine k σ H ρ l _ d ρ1 hl hi e1 fun v H1 l1 i1 => ?_
  cases d with
  | str y =>
    replace hf : (if (acc ++ y).length ≤ 16777216 then eJ fs (acc ++ y) ρ1 else none) = some (r, ρ') := hf
    split at hf
    · rename_i c
      have hv : v = .str y := i1.view (List.mem_cons_self)
      exact ⟨y, hv, by rw [sizeLine_eq]; exact c, k' σ H1 ρ1 l (acc ++ y) Q r ρ' (by omega) i1.tail hf fun out H2 eo l2 i2 => q out H2 eo (by omega) i2⟩
    · cases hf
  | _ => cases hf
theorem de_joined {v1 v2 : Expr} {rest : List Expr} {pos : Pos} {fs : List (Ev → Option (D × Ev))} (h : DJ X (v1 :: v2 :: rest) fs) : DE X (.JoinedStr (v1 :: v2 :: rest) pos) (eJ fs Str.empty) := by
  obtain ⟨ts, hts, k⟩ := h.ex
  refine ⟨_, pe_joined hts, fun σ H ρ l Q r ρ' hl hi hf q => ?_⟩
  refine k σ H ρ l Str.empty _ r ρ' hl hi hf fun out H' eo hl' hi' => ?_
  subst eo
  exact q _ H' hl' (hi'.add (d := .str out) rfl fun _ _ => rfl)
theorem de_joined1 {e : Expr} {pos : Pos} {f : Ev → Option (D × Ev)} (h : DE X e f) : DE X (.JoinedStr [e] pos) f := by
  obtain ⟨t, ht, k⟩ := h.ex
  exact ⟨_, pe_joined1 ht, k⟩
end
end Mv
end
section
set_option Elab.async false
set_option linter.all false
set_option maxRecDepth 100000
/-! list, tuple, any, all. -/
namespace Mv
open PySem PySem.Spec PyProof.Rows L2
def gList : List D → Option D := fun ds => match ds with
  | [.lst _ xs] => if D.frzL xs = true then some (.lst true xs) else none
  | [.tup xs] => if D.frzL xs = true then some (.lst true xs) else none
  | _ => none
theorem on_list {K : Frg} : OpN K (fun xs H Q => ∃ p ys, xs = [.ref p] ∧ (SqL K H p ys ∨ SqT K H p ys) ∧ ∀ l, H l = none → Q (.ref l) (upd H l (.lst ys))) gList := by
  intro xs H ds l Q d hi hm hg q
  unfold gList at hg
  split at hg
  · obtain ⟨x, rfl, m⟩ := one_of (K := K) hm
    split at hg
    · rename_i c
      cases hg
      obtain ⟨a, us, rfl, hs, hl, i1⟩ := hi.listAll m c
      exact ⟨a, us, rfl, .inl (SqL.of hs), fun p np => q _ _ (Items.new np hl i1 (fun b hb => by cases hb))⟩
    · cases hg
  · obtain ⟨x, rfl, m⟩ := one_of (K := K) hm
    split at hg
    · rename_i c
      cases hg
      obtain ⟨a, us, rfl, hs, hl, i1⟩ := hi.tupleAll m c
      exact ⟨a, us, rfl, .inr hs, fun p np => q _ _ (Items.new np hl i1 (fun b hb => by cases hb))⟩
    · cases hg
  · cases hg
def gTuple : List D → Option D := fun ds => match ds with
  | [.lst _ xs] => if D.frzL xs = true then some (.tup xs) else none
  | [.tup xs] => if D.frzL xs = true then some (.tup xs) else none
  | _ => none
theorem on_tuple {K : Frg} : OpN K (fun xs H Q => ∃ p ys, xs = [.ref p] ∧ ((SqL K H p ys ∧ ∀ l, H l = none → Q (.ref l) (upd H l (.tup ys))) ∨ (SqT K H p ys ∧ Q (.ref p) H))) gTuple := by
  intro xs H ds l Q d hi hm hg q
  unfold gTuple at hg
  split at hg
  · obtain ⟨x, rfl, m⟩ := one_of (K := K) hm
    split at hg
    · rename_i c
      cases hg
      obtain ⟨a, us, rfl, hs, hl, i1⟩ := hi.listAll m c
      exact ⟨a, us, rfl, .inl ⟨SqL.of hs, fun p np => q _ _ (Items.newT np hl i1)⟩⟩
    · cases hg
  · obtain ⟨x, rfl, m⟩ := one_of (K := K) hm
    split at hg
    · rename_i c
      cases hg
      obtain ⟨a, us, rfl, hs, hl, _⟩ := hi.tuple m
      exact ⟨a, us, rfl, .inr ⟨hs, q _ _ (hi.dup m c)⟩⟩
    · cases hg
  · cases hg
def bls? : List D → Option (List Bool)
  | [] => some []
  | .bl i :: ds => (bls? ds).map fun r => i :: r
  | _ => none
theorem bls_ok {K : Frg} {H : Hp} : ∀ {ds : List D} {xs : List V} {ns : List Bool}, bls? ds = some ns → FzL K H ds xs → xs = ns.map V.bl
  | [], _, _, h, hl => by cases h; cases hl; rfl
  | .bl i :: ds, _, _, h, ⟨x, r, ex, h1, h2⟩ => by
    obtain ⟨r', e1, e2⟩ := Option.map_eq_some_iff.mp h
    subst e2 ex
    rw [show x = .bl i from h1, bls_ok e1 h2]
    rfl
  | .any :: _, _, _, h, _ => by cases h
  | .non :: _, _, _, h, _ => by cases h
  | .int _ :: _, _, _, h, _ => by cases h
  | .str _ :: _, _, _, h, _ => by cases h
  | .lst _ _ :: _, _, _, h, _ => by cases h
  | .tup _ :: _, _, _, h, _ => by cases h
  | .cst _ :: _, _, _, h, _ => by cases h
  | .rng _ _ :: _, _, _, h, _ => by cases h
  | .ty _ :: _, _, _, h, _ => by cases h
  | .obj _ :: _, _, _, h, _ => by cases h
def gAny : List D → Option D := fun ds => match ds with
  | [.lst _ xs] => (bls? xs).map fun bs => .bl (bs.any id)
  | _ => none
def gAll : List D → Option D := fun ds => match ds with
  | [.lst _ xs] => (bls? xs).map fun bs => .bl (bs.all id)
  | _ => none
theorem on_any {K : Frg} : OpN K (rAny K) gAny := by
  intro xs H ds l Q d hi hm hg q
  unfold gAny at hg
  split at hg
  · obtain ⟨x, rfl, m⟩ := one_of (K := K) hm
    obtain ⟨ns, e, rfl⟩ := Option.map_eq_some_iff.mp hg
    obtain ⟨a, us, rfl, hs, hl, hz, _⟩ := hi.list m
    have := bls_ok e hz
    subst this
    exact ⟨a, ns, rfl, SqL.of hs, q _ H (hi.add rfl fun _ _ => rfl)⟩
  · cases hg
theorem on_all {K : Frg} : OpN K (rAll K) gAll := by
  intro xs H ds l Q d hi hm hg q
  unfold gAll at hg
  split at hg
  · obtain ⟨x, rfl, m⟩ := one_of (K := K) hm
    obtain ⟨ns, e, rfl⟩ := Option.map_eq_some_iff.mp hg
    obtain ⟨a, us, rfl, hs, hl, hz, _⟩ := hi.list m
    have := bls_ok e hz
    subst this
    exact ⟨a, ns, rfl, SqL.of hs, q _ H (hi.add rfl fun _ _ => rfl)⟩
  · cases hg
/-! ### what the top has left -/
theorem fn_top {K : Frg} {h : Heap} {mg : Str → Option Value} {x : Str} {st : Stmt} {f : Addr} {ps : List Str} {od an : Option Addr} {sl : Array (Option Value)} {oc kV dc pm cd ct : Value} (X : K.In h) (G : h.Ns mainGlobals mg)
    (a : PySem.W.nsIn K mainGlobals x = some (some (.ref f))) (l : K.lookup f = some ⟨oc, od, .func (PySem.W.fnOf x x (defArgs st) (defBody st) (defScope st) .none kV dc pm an cd ct), sl⟩) (c : PySem.W.codeIn K cd x = true) (k : PySem.W.keepIn K (.ref f) = true)
    (hb : ∀ (kV doc pm : Value) (an : Option Addr) (cdv ct : Value) (us : List Value), us.length = ps.length → bindArgs (PySem.W.fnOf x x (defArgs st) (defBody st) (defScope st) .none kV doc pm an cdv ct) ⟨us, []⟩ = pure (ps.zip us)) :
    ∃ f fd, Fun K x x st f fd ∧ Binds K fd ps [] ∧ mg x = some (.ref f) := by
  have F := fun_mk (st := st) l c k
  exact ⟨f, _, F, F.binds hb, PySem.W.mg_of X G a⟩
/-- the law's own promise -/
def spL (K : Frg) : Sp := fun vs H Q _ => ∃ (a : Addr) (ns : List Int), vs = [.ref a] ∧ SqL K H a (ns.map V.int) ∧ ns.length ≤ 63 ∧ ∀ H', Q (.bl true) H'
theorem law_end {P : Program} {w : World} {K : Frg} {mg : Str → Option Value} {base : Heap} {k : Nat} {x y : Str} {F : List D → Option (D × List D)} (h : FOk P w K mg base k x [y] F) (hF : ∀ ns : List Int, ns.length ≤ 63 → ∃ bs, F [.cst (ns.map D.int)] = some (.bl true, bs)) {fa : Addr} (hfa : mg x = some (.ref fa)) {fd : FuncData} {oc : Value} {od : Option Addr} {osl : Array (Option Value)} (hk : K.lookup fa = some ⟨oc, od, .func fd, osl⟩) :
    FnOk P w K mg base CX0 k fa fd [y] (spL K) := by
  obtain ⟨f, fd', h1, h2, h3, ⟨oc', od', osl', h4⟩, h5⟩ := h.ex
  rw [hfa] at h1
  cases h1
  rw [hk] at h4
  cases h4
  refine h5.imp ?_
  rintro vs H Q E ⟨a, ns, rfl, hs, hn, q⟩
  obtain ⟨bs, e⟩ := hF ns hn
  have hfz : ∀ ns : List Int, FzL K H (ns.map D.int) (ns.map V.int) := fun ns => by
    induction ns with
    | nil => rfl
    | cons n r ih => exact ⟨_, _, rfl, rfl, ih⟩
  have hfr : ∀ ns : List Int, D.frzL (ns.map D.int) = true := fun ns => by
    induction ns with
    | nil => rfl
    | cons n r ih => exact ih
  refine ⟨[], [.cst (ns.map D.int)], .bl true, bs, rfl, rfl, ?_, e, fun v H' hb hi => ?_⟩
  · exact ⟨H, [], Same.refl H, ⟨[], [], ⟨⟨a, _, rfl, hs, hfz ns⟩, rfl⟩, rfl, rfl⟩, .nil, fun a ha => by cases ha⟩
  · have : v = .bl true := hi.view (List.mem_cons_self)
    rw [this]
    exact q H'
end Mv
end
section
set_option Elab.async false
set_option linter.all false
set_option maxRecDepth 100000
/-! Slices. -/
namespace Mv
open PySem PySem.Spec PyProof.Rows L2
def cutD (xs : List D) (lo hi : Option Int) : List D := (xs.drop (HT.sIx xs.length 0 lo)).take (HT.sIx xs.length xs.length hi - HT.sIx xs.length 0 lo)
/-- what a slice makes of data (of a tuple never the whole) -/
def gSl : D → Option Int → Option Int → Option D := fun d lo hi => match d with
  | .lst _ xs => if D.frzL xs = true then some (.lst true (cutD xs lo hi)) else none
  | .str z => if z.length ≤ 16777216 then some (.str (cutS z lo hi)) else none
  | .tup xs => if D.frzL xs = true ∧ ¬ (HT.sIx xs.length 0 lo = 0 ∧ HT.sIx xs.length xs.length hi = xs.length) then some (.tup (cutD xs lo hi)) else none
  | _ => none
def rSl (K : PySem.W.Frag) : V → Option Int → Option Int → Hp → VK → Prop := fun x lo hi H Q => (rSlL K x lo hi H Q ∨ rSlS x lo hi H Q) ∨ rSlT K x lo hi H Q
theorem sl_any {X : Cx} : SlR X (rSl X.K) := SlR.or (SlR.or sl_list sl_str) sl_tup
theorem prs_drop : ∀ (n : Nat) (us : List V) (ds : List D), prs (us.drop n) (ds.drop n) = (prs us ds).drop n
  | 0, _, _ => rfl
  | n + 1, [], ds => by unfold prs; simp
  | n + 1, u :: us, [] => by unfold prs; simp
  | n + 1, u :: us, d :: ds => by
    show prs (us.drop n) (ds.drop n) = (prs us ds).drop n
    exact prs_drop n us ds
theorem prs_take : ∀ (n : Nat) (us : List V) (ds : List D), prs (us.take n) (ds.take n) = (prs us ds).take n
  | 0, _, _ => by unfold prs; simp
  | n + 1, [], ds => by unfold prs; simp
  | n + 1, u :: us, [] => by unfold prs; simp
  | n + 1, u :: us, d :: ds => by
    show (some u, d) :: prs (us.take n) (ds.take n) = (some u, d) :: (prs us ds).take n
    rw [prs_take n us ds]
theorem Items.cut {K : Frg} {E : List Addr} {H : Hp} {us : List V} {ds : List D} {l : List Itm} {lo hi : Option Int} (hl : us.length = ds.length) (h : Items K E H (prs us ds ++ l)) : Items K E H (prs (cutV us lo hi) (cutD ds lo hi) ++ l) := by
  unfold cutV cutD
  rw [hl, prs_take, prs_drop]
  generalize HT.sIx ds.length 0 lo = a
  generalize HT.sIx ds.length ds.length hi - a = b
  refine h.sub ⟨(prs us ds).take a ++ ((prs us ds).drop a).drop b, ?_⟩
  have e : prs us ds = (prs us ds).take a ++ (((prs us ds).drop a).take b ++ ((prs us ds).drop a).drop b) := by rw [List.take_append_drop, List.take_append_drop]
  conv => lhs; rw [e]
  simp only [List.append_assoc]
  refine List.Perm.append_left _ ?_
  rw [← List.append_assoc, ← List.append_assoc]
  exact List.Perm.append_right l List.perm_append_comm
theorem cutV_len {us : List V} {ds : List D} {lo hi : Option Int} (hl : us.length = ds.length) : (cutV us lo hi).length = (cutD ds lo hi).length := by
  unfold cutV cutD
  rw [List.length_take, List.length_take, List.length_drop, List.length_drop, hl]
theorem o3_sl {K : Frg} {x : V} {H : Hp} {dx : D} {lo hi : Option Int} {l : List Itm} {Q : VK} {d : D} (hi' : Items K [] H l) (m : (some x, dx) ∈ l) (hg : gSl dx lo hi = some d)
    (q : ∀ v H', Items K [] H' ((some v, d) :: l) → Q v H') : rSl K x lo hi H Q := by
  unfold gSl at hg
  split at hg
  · split at hg
    · rename_i c
      cases hg
      obtain ⟨a, us, rfl, hs, hl, i1⟩ := hi'.listAll m c
      exact .inl (.inl ⟨a, us, rfl, SqL.of hs, fun p np => q _ _ (Items.new np (cutV_len hl) (Items.cut hl i1) (fun b hb => by cases hb))⟩)
    · cases hg
  · split at hg
    · rename_i c
      cases hg
      rename_i z
      exact .inl (.inr ⟨z, hi'.view m, by rw [sizeLine_eq]; exact c, q _ H (hi'.add rfl fun _ _ => rfl)⟩)
    · cases hg
  · split at hg
    · rename_i c
      cases hg
      obtain ⟨a, us, rfl, hs, hl, i1⟩ := hi'.tupleAll m c.1
      exact .inr ⟨a, us, rfl, hs, by rw [hl]; exact c.2, fun p np => q _ _ (Items.newT np (cutV_len hl) (Items.cut hl i1))⟩
    · cases hg
  · cases hg
section
variable {X : Cx}
/-- a slice's bound -/
structure DP (X : Cx) (e : Option Expr) (f : Ev → Option (Option Int × Ev)) : Prop where
  ex : ∃ t, PO X e t ∧ ∀ (σ : Sl) (H : Hp) (ρ : Ev) (l : List Itm) (Q : Option Int → Hp → Prop) (r : Option Int) (ρ' : Ev), σ.length = ρ.length → Items X.K [] H (σ.zip ρ ++ l) → f ρ = some (r, ρ') →
    (∀ H', ρ'.length = ρ.length → Items X.K [] H' (σ.zip ρ' ++ l) → Q r H') → t σ H Q
def pN : Ev → Option (Option Int × Ev) := fun ρ => some (none, ρ)
def pS (f : Ev → Option (Hd × Ev)) : Ev → Option (Option Int × Ev) := fun ρ => (f ρ).bind fun p => match p.1.get p.2 with
  | .int i => some (some i, p.2)
  | _ => none
theorem dp_none : DP X none pN := ⟨_, po_none, fun σ H ρ l Q r ρ' hl hi hf q => by cases hf; exact q H rfl hi⟩
theorem dp_some {e : Expr} {f : Ev → Option (Hd × Ev)} (h : DH X e f) : DP X (some e) (pS f) := by
  obtain ⟨t, pt, k⟩ := h.ex
  refine ⟨_, po_some pt, fun σ H ρ l Q r ρ' hl hi hf q => ?_⟩
  obtain ⟨⟨hd, ρ1⟩, e1, hf⟩ := Option.bind_eq_some_iff.mp hf
  refine k σ H ρ l _ hd ρ1 hl hi e1 fun v H' l1 a1 i1 => ?_
  have m := i1.view (mem_hd (X := X) (hl := by omega) a1 i1)
  replace hf : (match hd.get ρ1 with
    | .int i => some (some i, ρ1)
    | _ => none) = some (r, ρ') := hf
  split at hf
  · rename_i i e
    cases hf
    rw [e] at m
    exact ⟨i, m, q H' l1 i1.drop⟩
  · cases hf
def eSl (fe : Ev → Option (Hd × Ev)) (fl fh : Ev → Option (Option Int × Ev)) : Ev → Option (D × Ev) := fun ρ => (fe ρ).bind fun p => (fl p.2).bind fun q => (fh q.2).bind fun r => (gSl (p.1.get r.2) q.1 r.1).map fun d => (d, r.2)
theorem de_sl {e : Expr} {lo hi : Option Expr} {p2 pos : Pos} {fe : Ev → Option (Hd × Ev)} {fl fh : Ev → Option (Option Int × Ev)} (he : DH X e fe) (hlo : DP X lo fl) (hhi : DP X hi fh) : DE X (.Subscript e (.Slice lo hi none p2) pos) (eSl fe fl fh) := by
  obtain ⟨te, pe, ke⟩ := he.ex
  obtain ⟨tl, pl, kl⟩ := hlo.ex
  obtain ⟨th, ph, kh⟩ := hhi.ex
  refine ⟨_, pe_slice sl_any pe pl ph, fun σ H ρ l Q d ρ' hl hi hf q => ?_⟩
  obtain ⟨⟨hd, ρ1⟩, e1, hf⟩ := Option.bind_eq_some_iff.mp hf
  obtain ⟨⟨lo, ρ2⟩, e2, hf⟩ := Option.bind_eq_some_iff.mp hf
  obtain ⟨⟨hi2, ρ3⟩, e3, hf⟩ := Option.bind_eq_some_iff.mp hf
  obtain ⟨d', e4, hf⟩ := Option.map_eq_some_iff.mp hf
  cases hf
  refine ke σ H ρ l _ hd ρ1 hl hi e1 fun v H1 l1 a1 i1 => ?_
  have i1' : Items X.K [] H1 (σ.zip ρ1 ++ (hd.its v ++ l)) := i1.perm (by
    rw [← List.append_assoc, ← List.append_assoc]
    exact List.Perm.append_right l List.perm_append_comm)
  refine kl σ H1 ρ1 _ _ lo ρ2 (by omega) i1' e2 fun H2 l2 i2 => ?_
  refine kh σ H2 ρ2 _ _ hi2 ρ3 (by omega) i2 e3 fun H3 l3 i3 => ?_
  have i3' : Items X.K [] H3 (hd.its v ++ (σ.zip ρ3 ++ l)) := i3.perm (by
    rw [← List.append_assoc, ← List.append_assoc]
    exact List.Perm.append_right l List.perm_append_comm)
  have m := mem_hd (X := X) (hl := by omega) a1 i3'
  refine o3_sl i3' m e4 fun w H4 i4 => ?_
  exact q w H4 (by show ρ3.length = ρ.length; omega) (i4.sub ⟨hd.its v, by
    exact List.perm_middle.symm⟩)
/-! ### enumerate, zip -/
theorem late1 {C : List Nat} {σ σ1 : Sl} {hd : Hd} {v : V} {ρ2 : Ev} (a1 : hd.at' σ v) (hh : hsl C hd) (ag : Agr C σ σ1) (h1 : σ1.length = σ.length) (h2 : ρ2.length = σ.length) : (some v, hd.get ρ2) ∈ σ1.zip ρ2 ∨ (some v, hd.get ρ2) ∈ hd.its v := by
  cases hd with
  | tm d => exact .inr (by simp [Hd.its, Hd.get])
  | sl i =>
    have a1' : σ[i]? = some (some v) := a1
    have a2 : σ1[i]? = some (some v) := by rw [ag i hh]; exact a1'
    have h3 : i < ρ2.length := by have := (List.getElem?_eq_some_iff.mp a2).1; omega
    have h4 : ρ2[i]? = some ρ2[i] := List.getElem?_eq_getElem h3
    refine .inl ?_
    show (some v, ρ2.getD i .any) ∈ _
    rw [getD_of h4]
    exact zip_mem a2 h4
/-- a list's turns -/
theorem it_list {K : Frg} {H : Hp} {l : List Itm} {v : V} {d : D} (hi : Items K [] H l) (hm : (some v, d) ∈ l) (k : Nat) (hL : isL d = true) :
    ∃ a, v = .ref a ∧ (itD d k = some none → ∃ xs : List V, SqL K H a xs ∧ xs.length ≤ k) ∧ ∀ c, itD d k = some (some c) → (∃ (xs : List V) (x : V), SqL K H a xs ∧ xs[k]? = some x) ∧ ∀ x, (∀ xs, SqL K H a xs → xs[k]? = some x) → Items K [] H ((some x, c) :: l) ∧ c.frz = true := by
  obtain ⟨it1, it2, it3, it4⟩ := it_item hi hm k
  cases d with
  | lst b ds =>
    obtain ⟨a, ev, p1, p2⟩ := it1 b ds rfl
    refine ⟨a, ev, fun h => p1 h, fun c h => ⟨(p2 c h).1, fun x hx => ⟨(p2 c h).2 x H ⟨rfl, hx⟩, ?_⟩⟩⟩
    replace h : (match ds[k]? with
      | some c => if c.frz = true then some (some c) else none
      | none => some (none : Option D)) = some (some c) := h
    split at h
    · split at h
      · cases h; assumption
      · cases h
    · cases h
  | cst ds =>
    obtain ⟨a, ev, p1, p2⟩ := it2 ds rfl
    refine ⟨a, ev, fun h => p1 h, fun c h => ⟨(p2 c h).1, fun x hx => ⟨(p2 c h).2 x H ⟨rfl, hx⟩, ?_⟩⟩⟩
    replace h : (match ds[k]? with
      | some c => if c.frz = true then some (some c) else none
      | none => some (none : Option D)) = some (some c) := h
    split at h
    · split at h
      · cases h; assumption
      · cases h
    · cases h
  | _ => cases hL
def itE (h : Hd) : Src := fun k ρ => (itK isL h k ρ).map (Option.map fun c => D.tup [.int (k : Nat), c])
def iEn (fa : Ev → Option (List Hd × Ev)) : Ev → Option (Src × Ev) := fun ρ => (fa ρ).bind fun p => match p.1 with
  | [h] => if isL (h.get p.2) = true then some (itE h, p.2) else none
  | _ => none
theorem di_enum {C : List Nat} {e : Expr} {fa : Ev → Option (List Hd × Ev)} {p pos tpos : Pos} {elts : List Expr} {kk : Nat} (hg : Gl X "enumerate") (hm : X.mg "enumerate" = none) (ha : DA X [e] fa) (hC : ∀ ρ hds ρ', fa ρ = some (hds, ρ') → ∀ h ∈ hds, hsl C h) (hs : starEach [e] X.env = [(false, eval e X.env)] := by rfl) :
    DI X C (.Tuple elts kk tpos) (.Call (.Name "enumerate" p) [e] [] pos) (iEn fa) := by
  obtain ⟨t, ht, k⟩ := ha.ex
  refine ⟨_, pi_enum hg hm ht hs, fun σ H ρ l R it ρ' hl hi hf q => ?_⟩
  obtain ⟨⟨hds, ρ1⟩, e1, hf⟩ := Option.bind_eq_some_iff.mp hf
  refine k σ H ρ l _ hds ρ1 hl hi e1 fun vs H1 l1 a1 i1 => ?_
  have hh := hC ρ hds ρ1 e1
  match hds, vs, hf, a1, i1, hh with
  | [h], [v], hf, ⟨a1, _⟩, i1, hh =>
    replace hf : (if isL (h.get ρ1) = true then some (itE h, ρ1) else none) = some (it, ρ') := hf
    split at hf
    · rename_i hL
      cases hf
      have i1' : Items X.K [] H1 (h.its v ++ (σ.zip ρ' ++ l)) := by
        have e0 : hits [h] [v] = h.its v := by show h.its v ++ [] = _; rw [List.append_nil]
        rw [e0] at i1; exact i1
      have m1 := mem_hd (X := X) (hl := by omega) a1 i1'
      obtain ⟨a, ev, _, _⟩ := it_list i1' m1 0 hL
      subst ev
      have hq : ∃ xs, SqL X.K H1 a xs := by
        cases e : h.get ρ' with
        | lst b ds => rw [e] at m1; obtain ⟨a', xs, ev, hs, _⟩ := i1'.list m1; cases ev; exact ⟨xs, SqL.of hs⟩
        | cst ds => rw [e] at m1; obtain ⟨a', xs, ev, hs, _⟩ := i1'.const m1; cases ev; exact ⟨xs, hs⟩
        | _ => rw [e] at hL; cases hL
      obtain ⟨xs, hq⟩ := hq
      refine ⟨a, xs, rfl, hq, q (Ite X.K a) H1 (h.its (.ref a)) l1 (i1'.perm perm_mid) fun k σ1 ρ2 H2 l2 ag h1 h2 i2 => ?_⟩
      have m2 : (some (.ref a), h.get ρ2) ∈ σ1.zip ρ2 ++ (h.its (.ref a) ++ l2) := by
        rcases late1 a1 (hh h (by simp)) ag h1 h2 with m | m
        · exact List.mem_append_left _ m
        · exact List.mem_append_right _ (List.mem_append_left _ m)
      unfold itE itK
      by_cases hL2 : isL (h.get ρ2) = true
      · rw [if_pos hL2]
        obtain ⟨a', ev, p1, p2⟩ := it_list i2 m2 k hL2
        cases ev
        refine ⟨fun hn => ?_, fun d hd => ?_⟩
        · obtain ⟨o, eo, eo2⟩ := Option.map_eq_some_iff.mp hn
          cases o with
          | none => exact p1 eo
          | some c => cases eo2
        · obtain ⟨o, eo, eo2⟩ := Option.map_eq_some_iff.mp hd
          cases o with
          | none => cases eo2
          | some c =>
            cases eo2
            obtain ⟨g1, g2⟩ := p2 c eo
            refine ⟨g1, fun x H3 hy => ?_⟩
            obtain ⟨T, y, rfl, nT, rfl, hy⟩ := hy
            obtain ⟨i3, _⟩ := g2 y hy
            refine Items.newT nT rfl ?_
            exact i3.add (v := .int (k : Nat)) rfl fun _ _ => rfl
      · rw [if_neg hL2]
        exact ⟨fun h => (by cases h), fun d h => (by cases h)⟩
    · cases hf
def itZ (h h' : Hd) : Src := fun k ρ => (itK isL h k ρ).bind fun o => (itK isL h' k ρ).map fun o' => match o, o' with
  | some c, some c' => some (D.tup [c, c'])
  | _, _ => none
def iZp (fa : Ev → Option (List Hd × Ev)) : Ev → Option (Src × Ev) := fun ρ => (fa ρ).bind fun p => match p.1 with
  | [h, h'] => if isL (h.get p.2) = true ∧ isL (h'.get p.2) = true then some (itZ h h', p.2) else none
  | _ => none
theorem di_zip {C : List Nat} {e e2 : Expr} {fa : Ev → Option (List Hd × Ev)} {p pos tpos : Pos} {elts : List Expr} {kk : Nat} (hg : Gl X "zip") (hm : X.mg "zip" = none) (ha : DA X [e, e2] fa) (hC : ∀ ρ hds ρ', fa ρ = some (hds, ρ') → ∀ h ∈ hds, hsl C h)
    (hs : starEach [e, e2] X.env = (false, eval e X.env) :: starEach [e2] X.env := by rfl) (hpl : (backTo pos (starEach [e2] X.env)).any (·.1) = false := by rfl) :
    DI X C (.Tuple elts kk tpos) (.Call (.Name "zip" p) [e, e2] [] pos) (iZp fa) := by
  obtain ⟨t, ht, k⟩ := ha.ex
  refine ⟨_, pi_zip hg hm ht hs hpl, fun σ H ρ l R it ρ' hl hi hf q => ?_⟩
  obtain ⟨⟨hds, ρ1⟩, e1, hf⟩ := Option.bind_eq_some_iff.mp hf
  refine k σ H ρ l _ hds ρ1 hl hi e1 fun vs H1 l1 a1 i1 => ?_
  have hh := hC ρ hds ρ1 e1
  match hds, vs, hf, a1, i1, hh with
  | [h, h'], [v, v'], hf, ⟨a1, a2, _⟩, i1, hh =>
    replace hf : (if isL (h.get ρ1) = true ∧ isL (h'.get ρ1) = true then some (itZ h h', ρ1) else none) = some (it, ρ') := hf
    split at hf
    · rename_i hL
      cases hf
      have i1' : Items X.K [] H1 (σ.zip ρ' ++ ((h.its v ++ h'.its v') ++ l)) := by
        have e0 : hits [h, h'] [v, v'] = h.its v ++ h'.its v' := by show h.its v ++ (h'.its v' ++ []) = _; rw [List.append_nil]
        rw [e0] at i1; exact i1.perm perm_mid
      have mem : ∀ (σ1 : Sl) (ρ2 : Ev) (l2 : List Itm), Agr C σ σ1 → σ1.length = σ.length → ρ2.length = σ.length → (some v, h.get ρ2) ∈ σ1.zip ρ2 ++ ((h.its v ++ h'.its v') ++ l2) ∧ (some v', h'.get ρ2) ∈ σ1.zip ρ2 ++ ((h.its v ++ h'.its v') ++ l2) := fun σ1 ρ2 l2 ag h1 h2 => by
        constructor
        · rcases late1 a1 (hh h (by simp)) ag h1 h2 with m | m
          · exact List.mem_append_left _ m
          · exact List.mem_append_right _ (List.mem_append_left _ (List.mem_append_left _ m))
        · rcases late1 a2 (hh h' (by simp)) ag h1 h2 with m | m
          · exact List.mem_append_left _ m
          · exact List.mem_append_right _ (List.mem_append_left _ (List.mem_append_right _ m))
      obtain ⟨m1, m2⟩ := mem σ ρ' l (fun _ _ => rfl) rfl (by omega)
      have sq : ∀ (v : V) (d : D), (some v, d) ∈ σ.zip ρ' ++ ((h.its v ++ h'.its v') ++ l) → True := fun _ _ _ => trivial
      have sq : ∀ (u : V) (d : D), (some u, d) ∈ σ.zip ρ' ++ ((h.its v ++ h'.its v') ++ l) → isL d = true → ∃ a xs, u = .ref a ∧ SqL X.K H1 a xs := fun u d m hL => by
        cases d with
        | lst b ds => obtain ⟨a', xs, ev, hs, _⟩ := i1'.list m; exact ⟨a', xs, ev, SqL.of hs⟩
        | cst ds => obtain ⟨a', xs, ev, hs, _⟩ := i1'.const m; exact ⟨a', xs, ev, hs⟩
        | _ => cases hL
      obtain ⟨a, xs, ea, sa⟩ := sq v _ m1 hL.1
      obtain ⟨b, ys, eb, sb⟩ := sq v' _ m2 hL.2
      subst ea eb
      refine ⟨a, b, xs, ys, rfl, sa, sb, q (Itz X.K a b) H1 _ l1 i1' fun k σ1 ρ2 H2 l2 ag h1 h2 i2 => ?_⟩
      obtain ⟨m3, m4⟩ := mem σ1 ρ2 l2 ag h1 h2
      unfold itZ itK
      by_cases hL2 : isL (h.get ρ2) = true
      · rw [if_pos hL2]
        by_cases hL3 : isL (h'.get ρ2) = true
        · rw [if_pos hL3]
          obtain ⟨a', ev, p1, p2⟩ := it_list i2 m3 k hL2
          cases ev
          obtain ⟨b', ev, p3, p4⟩ := it_list i2 m4 k hL3
          cases ev
          have any1 : ∀ o, itD (h.get ρ2) k = some o → ∃ xs : List V, SqL X.K H2 a xs := fun o eo => by
            cases o with
            | none => obtain ⟨xs, s, _⟩ := p1 eo; exact ⟨xs, s⟩
            | some c => obtain ⟨⟨xs, _, s, _⟩, _⟩ := p2 c eo; exact ⟨xs, s⟩
          have any2 : ∀ o, itD (h'.get ρ2) k = some o → ∃ xs : List V, SqL X.K H2 b xs := fun o eo => by
            cases o with
            | none => obtain ⟨xs, s, _⟩ := p3 eo; exact ⟨xs, s⟩
            | some c => obtain ⟨⟨xs, _, s, _⟩, _⟩ := p4 c eo; exact ⟨xs, s⟩
          refine ⟨fun hn => ?_, fun d hd => ?_⟩
          · obtain ⟨o, eo, hn⟩ := Option.bind_eq_some_iff.mp hn
            obtain ⟨o', eo', eo2⟩ := Option.map_eq_some_iff.mp hn
            obtain ⟨xs, s1⟩ := any1 o eo
            obtain ⟨ys, s2⟩ := any2 o' eo'
            cases o with
            | none => obtain ⟨xs, s1, z⟩ := p1 eo; exact ⟨xs, ys, s1, s2, .inl z⟩
            | some c =>
              cases o' with
              | none => obtain ⟨ys, s2, z⟩ := p3 eo'; exact ⟨xs, ys, s1, s2, .inr z⟩
              | some c' => cases eo2
          · obtain ⟨o, eo, hd⟩ := Option.bind_eq_some_iff.mp hd
            obtain ⟨o', eo', eo2⟩ := Option.map_eq_some_iff.mp hd
            cases o with
            | none => cases eo2
            | some c =>
              cases o' with
              | none => cases eo2
              | some c' =>
                cases eo2
                obtain ⟨⟨xs, x, s1, e1⟩, g2⟩ := p2 c eo
                obtain ⟨⟨ys, y, s2, e2⟩, g4⟩ := p4 c' eo'
                refine ⟨⟨xs, ys, x, y, s1, s2, e1, e2⟩, fun z H3 hy => ?_⟩
                obtain ⟨T, x', y', rfl, nT, rfl, hx', hy'⟩ := hy
                obtain ⟨i3, z3⟩ := g2 x' hx'
                obtain ⟨b'', ev, _, p4'⟩ := it_list i3 (List.mem_cons_of_mem _ m4) k hL3
                cases ev
                obtain ⟨i5, _⟩ := (p4' c' eo').2 y' hy'
                exact Items.newT nT rfl (i5.perm (List.Perm.swap _ _ _))
        · rw [if_neg hL3]
          refine ⟨fun hn => ?_, fun d hd => ?_⟩
          · obtain ⟨o, eo, hn⟩ := Option.bind_eq_some_iff.mp hn; cases hn
          · obtain ⟨o, eo, hd⟩ := Option.bind_eq_some_iff.mp hd; cases hd
      · rw [if_neg hL2]
        exact ⟨fun h => (by cases h), fun d h => (by cases h)⟩
    · cases hf
end
end Mv
end
section
set_option Elab.async false
set_option linter.all false
set_option maxRecDepth 100000
/-! range of three, reversed, index, count, two comparisons. -/
namespace Mv
open PySem PySem.Spec PyProof.Rows L2
section
variable {X : Cx} {C : List Nat}
def iRg3 (fa : Ev → Option (List Hd × Ev)) : Ev → Option (Src × Ev) := fun ρ => (fa ρ).bind fun p => match p.1.map (Hd.get p.2) with
  | [.int i, .int j, .int c] => if c ≠ 0 ∧ c.natAbs < 1073741824 ∧ Builtin.Range.small i j c = true then some (itR i c (Builtin.Range.rangeSize i j c).toNat, p.2) else none
  | _ => none
theorem itRc_ok {σ : Sl} {lo c : Int} {n : Nat} : ItOk X C σ [] (Itc lo c n) (itR lo c n) := fun k σ1 ρ1 H1 l1 ag h1 h2 i1 => by
  unfold itR
  by_cases hk : k < n
  · rw [if_pos hk]
    refine ⟨fun h => (by cases h), fun d h => ?_⟩
    cases h
    refine ⟨hk, fun x H2 hy => ?_⟩
    obtain ⟨rfl, rfl⟩ := hy
    exact i1.add rfl fun _ _ => rfl
  · rw [if_neg hk]
    exact ⟨fun _ => Nat.le_of_not_lt hk, fun d h => (by cases h)⟩
theorem di_range3 {a b c : Expr} {tg : Expr} {fa : Ev → Option (List Hd × Ev)} {p pos : Pos} (hg : Gl X "range") (hm : X.mg "range" = none) (ha : DA X [a, b, c] fa)
    (hs : starEach [a, b, c] X.env = (false, eval a X.env) :: starEach [b, c] X.env := by rfl) (hpl : (backTo pos (starEach [b, c] X.env)).any (·.1) = false := by rfl) : DI X C tg (.Call (.Name "range" p) [a, b, c] [] pos) (iRg3 fa) := by
  obtain ⟨t, ht, k⟩ := ha.ex
  refine ⟨_, pi_range3 hg hm ht hs hpl, fun σ H ρ l R it ρ' hl hi hf q => ?_⟩
  obtain ⟨⟨hds, ρ1⟩, e1, hf⟩ := Option.bind_eq_some_iff.mp hf
  refine k σ H ρ l _ hds ρ1 hl hi e1 fun vs H1 l1 a1 i1 => ?_
  have hm := mem_hits (K := X.K) (H := H1) (ρ := ρ1) (by omega) (l := l) a1
  replace hf : (match hds.map (Hd.get ρ1) with
    | [.int i, .int j, .int c] => if c ≠ 0 ∧ c.natAbs < 1073741824 ∧ Builtin.Range.small i j c = true then some (itR i c (Builtin.Range.rangeSize i j c).toNat, ρ1) else none
    | _ => none) = some (it, ρ') := hf
  split at hf
  · rename_i i j c e
    rw [e] at hm
    cases hm with
    | cons m1 mr =>
      cases mr with
      | cons m2 mr =>
        cases mr with
        | cons m3 mr =>
          cases mr
          rename_i x y z
          have hx : x = .int i := i1.view m1
          have hy : y = .int j := i1.view m2
          have hz : z = .int c := i1.view m3
          subst hx hy hz
          split at hf
          · rename_i hj
            cases hf
            exact ⟨i, j, c, _, rfl, ⟨hj.1, hj.2.1, hj.2.2, rangeSize_toNat i j c⟩, q (Itc i c _) H1 [] l1 i1.drop itRc_ok⟩
          · cases hf
  · cases hf
/-! ### reversed -/
def itV (n : Nat) (h : Hd) : Src := fun k ρ => if k < n then (if isL (h.get ρ) = true then (match itD (h.get ρ) (n - 1 - k) with
  | some (some c) => some (some c)
  | _ => none) else none) else some none
def lenL : D → Nat
  | .lst _ ds => ds.length
  | .cst ds => ds.length
  | _ => 0
def iRv (fa : Ev → Option (List Hd × Ev)) : Ev → Option (Src × Ev) := fun ρ => (fa ρ).bind fun p => match p.1 with
  | [h] => if isL (h.get p.2) = true then some (itV (lenL (h.get p.2)) h, p.2) else none
  | _ => none
theorem di_rev {e tg : Expr} {fa : Ev → Option (List Hd × Ev)} {p pos : Pos} (hg : Gl X "reversed") (hm : X.mg "reversed" = none) (ha : DA X [e] fa) (hC : ∀ ρ hds ρ', fa ρ = some (hds, ρ') → ∀ h ∈ hds, hsl C h) (hs : starEach [e] X.env = [(false, eval e X.env)] := by rfl) :
    DI X C tg (.Call (.Name "reversed" p) [e] [] pos) (iRv fa) := by
  obtain ⟨t, ht, k⟩ := ha.ex
  refine ⟨_, pi_reversed hg hm ht hs, fun σ H ρ l R it ρ' hl hi hf q => ?_⟩
  obtain ⟨⟨hds, ρ1⟩, e1, hf⟩ := Option.bind_eq_some_iff.mp hf
  refine k σ H ρ l _ hds ρ1 hl hi e1 fun vs H1 l1 a1 i1 => ?_
  have hh := hC ρ hds ρ1 e1
  match hds, vs, hf, a1, i1, hh with
  | [h], [v], hf, ⟨a1, _⟩, i1, hh =>
    replace hf : (if isL (h.get ρ1) = true then some (itV (lenL (h.get ρ1)) h, ρ1) else none) = some (it, ρ') := hf
    split at hf
    · rename_i hL
      cases hf
      have i1' : Items X.K [] H1 (h.its v ++ (σ.zip ρ' ++ l)) := by
        have e0 : hits [h] [v] = h.its v := by show h.its v ++ [] = _; rw [List.append_nil]
        rw [e0] at i1; exact i1
      have m1 := mem_hd (X := X) (hl := by omega) a1 i1'
      have hq : ∃ a xs, v = .ref a ∧ SqL X.K H1 a xs ∧ xs.length = lenL (h.get ρ') := by
        cases e : h.get ρ' with
        | lst b ds => rw [e] at m1; obtain ⟨a', xs, ev, hs, hl, _⟩ := i1'.list m1; exact ⟨a', xs, ev, SqL.of hs, hl⟩
        | cst ds => rw [e] at m1; obtain ⟨a', xs, ev, hs, hl, _⟩ := i1'.const m1; exact ⟨a', xs, ev, hs, hl⟩
        | _ => rw [e] at hL; cases hL
      obtain ⟨a, xs, rfl, hq, hlen⟩ := hq
      refine ⟨a, xs, rfl, hq, ?_⟩
      rw [← hlen] at q
      refine q (Itv X.K a xs.length) H1 (h.its (.ref a)) l1 (i1'.perm perm_mid) fun k σ1 ρ2 H2 l2 ag h1 h2 i2 => ?_
      have m2 : (some (.ref a), h.get ρ2) ∈ σ1.zip ρ2 ++ (h.its (.ref a) ++ l2) := by
        rcases late1 a1 (hh h (by simp)) ag h1 h2 with m | m
        · exact List.mem_append_left _ m
        · exact List.mem_append_right _ (List.mem_append_left _ m)
      unfold itV
      by_cases hk : k < xs.length
      · rw [if_pos hk]
        by_cases hL2 : isL (h.get ρ2) = true
        · rw [if_pos hL2]
          obtain ⟨a', ev, p1, p2⟩ := it_list i2 m2 (xs.length - 1 - k) hL2
          cases ev
          refine ⟨fun hn => ?_, fun d hd => ?_⟩
          · split at hn <;> cases hn
          · split at hd
            · rename_i c eo
              cases hd
              obtain ⟨⟨ys, y, s1, e1⟩, g2⟩ := p2 _ eo
              refine ⟨⟨hk, ys, y, s1, e1⟩, fun x H3 hy => ?_⟩
              obtain ⟨rfl, hy⟩ := hy
              exact (g2 x hy).1
            · cases hd
        · rw [if_neg hL2]
          exact ⟨fun h => (by cases h), fun d h => (by cases h)⟩
      · rw [if_neg hk]
        exact ⟨fun _ => Nat.le_of_not_lt hk, fun d h => (by cases h)⟩
    · cases hf
/-! ### list.index, list.count of numbers -/
def gIndex : List D → Option D := fun ds => match ds with
  | [.lst _ xs, .int k] => (ints? xs).bind fun ns => if k ∈ ns then some (.int (ns.idxOf k : Nat)) else none
  | _ => none
theorem on_index {K : Frg} : OpN K (fun xs H Q => ∃ x r', xs = x :: r' ∧ rIndex K x r' H Q) gIndex := by
  intro xs H ds l Q d hi hm hg q
  unfold gIndex at hg
  split at hg
  · rename_i b ys k
    obtain ⟨ns, e1, hg⟩ := Option.bind_eq_some_iff.mp hg
    split at hg
    · rename_i hk
      cases hg
      cases hm with
      | cons m1 mr =>
        cases mr with
        | cons m2 mr =>
          cases mr
          rename_i x y
          have hy : y = .int k := hi.view m2
          subst hy
          obtain ⟨a, us, rfl, hs, hl, hz, _⟩ := hi.list m1
          have hu := ints_ok e1 hz
          subst hu
          have hlt : ns.idxOf k < ns.length := List.idxOf_lt_length_of_mem hk
          refine ⟨_, _, rfl, a, _, .int k, ns.idxOf k, .int k, rfl, rfl, SqL.of hs, rfl, by simp [flatV], ?_, by simp [eqV], ?_, q _ H (hi.add rfl fun _ _ => rfl)⟩
          · rw [List.getElem?_map, List.getElem?_eq_getElem hlt]
            simp
          · intro m z' hm hz'
            rw [List.getElem?_map] at hz'
            obtain ⟨i, ei, rfl⟩ := Option.map_eq_some_iff.mp hz'
            have : i ≠ k := by
              intro e
              subst e
              have := List.not_of_lt_findIdx (p := (· == i)) (xs := ns) (i := m) hm
              obtain ⟨hlt, e⟩ := List.getElem?_eq_some_iff.mp ei
              rw [e] at this
              simp at this
            show (i == k) = false
            simpa using this
    · cases hg
  · cases hg
def gCount : List D → Option D := fun ds => match ds with
  | [.lst _ xs, .int k] => (ints? xs).map fun ns => .int (ns.count k : Nat)
  | _ => none
theorem on_count {K : Frg} : OpN K (fun xs H Q => ∃ x r', xs = x :: r' ∧ rCntI K x r' H Q) gCount := by
  intro xs H ds l Q d hi hm hg q
  unfold gCount at hg
  split at hg
  · rename_i b ys k
    obtain ⟨ns, e1, hg⟩ := Option.map_eq_some_iff.mp hg
    subst hg
    cases hm with
    | cons m1 mr =>
      cases mr with
      | cons m2 mr =>
        cases mr
        rename_i x y
        have hy : y = .int k := hi.view m2
        subst hy
        obtain ⟨a, us, rfl, hs, hl, hz, _⟩ := hi.list m1
        have hu := ints_ok e1 hz
        subst hu
        exact ⟨_, _, rfl, a, ns, k, rfl, rfl, SqL.of hs, q _ H (hi.add rfl fun _ _ => rfl)⟩
  · cases hg
/-! ### a < b < c -/
def eCh (g g' : D → D → Option D) (fa fb fc : Ev → Option (Hd × Ev)) : Ev → Option (D × Ev) := fun ρ => (fa ρ).bind fun p => (fb p.2).bind fun q => (g (p.1.get q.2) (q.1.get q.2)).bind fun d => match d with
  | .bl b => if b = true then (fc q.2).bind fun r => (g' (q.1.get r.2) (r.1.get r.2)).map fun d => (d, r.2) else some (.bl false, q.2)
  | _ => none
theorem chain2 {a b c : Expr} {fa fb fc : Ev → Option (Hd × Ev)} {g g' : D → D → Option D} {r r' : R2} (hg : Op2 X.K r g) (hg' : Op2 X.K r' g') (ha : DH X a fa) (hb : DH X b fb) (hc : DH X c fc) :
    ∃ ta tb tc, PE X a ta ∧ PE X b tb ∧ PE X c tc ∧ ∀ (σ : Sl) (H : Hp) (ρ : Ev) (l : List Itm) (Q : VK) (d : D) (ρ' : Ev), σ.length = ρ.length → Items X.K [] H (σ.zip ρ ++ l) → eCh g g' fa fb fc ρ = some (d, ρ') →
      (∀ v H', ρ'.length = ρ.length → Items X.K [] H' ((some v, d) :: (σ.zip ρ' ++ l)) → Q v H') → tChain r r' ta tb tc σ H Q := by
  obtain ⟨ta, pa, ka⟩ := ha.ex
  obtain ⟨tb, pb, kb⟩ := hb.ex
  obtain ⟨tc, pc, kc⟩ := hc.ex
  refine ⟨ta, tb, tc, pa, pb, pc, fun σ H ρ l Q d ρ' hl hi hf q => ?_⟩
  obtain ⟨⟨h1, ρ1⟩, e1, hf⟩ := Option.bind_eq_some_iff.mp hf
  obtain ⟨⟨h2, ρ2⟩, e2, hf⟩ := Option.bind_eq_some_iff.mp hf
  obtain ⟨d', e3, hf⟩ := Option.bind_eq_some_iff.mp hf
  refine ka σ H ρ l _ h1 ρ1 hl hi e1 fun v1 H1 l1 a1 i1 => ?_
  have i1' : Items X.K [] H1 (σ.zip ρ1 ++ (h1.its v1 ++ l)) := i1.perm perm_mid
  refine kb σ H1 ρ1 _ _ h2 ρ2 (by omega) i1' e2 fun v2 H2 l2 a2 i2 => ?_
  have m2 := mem_hd (X := X) (hl := by omega) a2 i2
  have i2' : Items X.K [] H2 (h1.its v1 ++ (σ.zip ρ2 ++ (h2.its v2 ++ l))) := i2.perm (by
    refine perm_mid.trans ?_
    refine List.Perm.trans ?_ perm_mid
    refine List.Perm.append_left _ perm_mid)
  have m1 := mem_hd (X := X) (hl := by omega) a1 i2'
  have m1' : (some v1, h1.get ρ2) ∈ h2.its v2 ++ (σ.zip ρ2 ++ (h1.its v1 ++ l)) := by
    simp only [List.mem_append] at m1 ⊢
    rcases m1 with m | m | m | m
    · exact .inr (.inr (.inl m))
    · exact .inr (.inl m)
    · exact .inl m
    · exact .inr (.inr (.inr m))
  refine hg v1 v2 H2 _ _ _ _ _ i2 m1' m2 e3 fun v H3 i3 => ?_
  cases d' with
  | bl b =>
    have hv : v = .bl b := i3.view List.mem_cons_self
    subst hv
    refine ⟨b, rfl, ?_⟩
    cases b with
    | false =>
      cases hf
      refine q (.bl false) H3 (by show ρ2.length = ρ.length; omega) (i3.sub ⟨h2.its v2 ++ h1.its v1, ?_⟩)
      have p3 : (h2.its v2 ++ (σ.zip ρ2 ++ (h1.its v1 ++ l))).Perm ((h2.its v2 ++ h1.its v1) ++ (σ.zip ρ2 ++ l)) := by
        rw [List.append_assoc]
        exact List.Perm.append_left _ perm_mid
      exact (List.Perm.cons _ p3).trans List.perm_middle.symm
    | true =>
      replace hf : ((fc ρ2).bind fun r => (g' (h2.get r.2) (r.1.get r.2)).map fun d => (d, r.2)) = some (d, ρ') := hf
      obtain ⟨⟨h3, ρ3⟩, e4, hf⟩ := Option.bind_eq_some_iff.mp hf
      obtain ⟨d', e5, hf⟩ := Option.map_eq_some_iff.mp hf
      cases hf
      have i4 : Items X.K [] H3 (σ.zip ρ2 ++ (h2.its v2 ++ (h1.its v1 ++ l))) := i3.tail.perm perm_mid
      refine kc σ H3 ρ2 _ _ h3 ρ3 (by omega) i4 e4 fun v3 H4 l4 a4 i5 => ?_
      have m3 := mem_hd (X := X) (hl := by omega) a4 i5
      have i5' : Items X.K [] H4 (h2.its v2 ++ (σ.zip ρ3 ++ (h3.its v3 ++ (h1.its v1 ++ l)))) := i5.perm (by
        refine perm_mid.trans ?_
        refine List.Perm.trans ?_ perm_mid
        refine List.Perm.append_left _ perm_mid)
      have m4 := mem_hd (X := X) (hl := by omega) a2 i5'
      have m4' : (some v2, h2.get ρ3) ∈ h3.its v3 ++ (σ.zip ρ3 ++ (h2.its v2 ++ (h1.its v1 ++ l))) := by
        simp only [List.mem_append] at m4 ⊢
        rcases m4 with m | m | m | m | m
        · exact .inr (.inr (.inl m))
        · exact .inr (.inl m)
        · exact .inl m
        · exact .inr (.inr (.inr (.inl m)))
        · exact .inr (.inr (.inr (.inr m)))
      refine hg' v2 v3 H4 _ _ _ Q _ i5 m4' m3 e5 fun v H5 i6 => ?_
      refine q v H5 (by show ρ3.length = ρ.length; omega) (i6.sub ⟨h3.its v3 ++ (h2.its v2 ++ h1.its v1), ?_⟩)
      have p3 : (h3.its v3 ++ (σ.zip ρ3 ++ (h2.its v2 ++ (h1.its v1 ++ l)))).Perm ((h3.its v3 ++ (h2.its v2 ++ h1.its v1)) ++ (σ.zip ρ3 ++ l)) := by
        rw [List.append_assoc]
        refine List.Perm.append_left _ ?_
        refine perm_mid.trans ?_
        rw [List.append_assoc]
        exact List.Perm.append_left _ perm_mid
      exact (List.Perm.cons _ p3).trans List.perm_middle.symm
  | _ => cases hf
theorem de_chain {a b c : Expr} {op op' : CmpOp} {fa fb fc : Ev → Option (Hd × Ev)} {g g' : D → D → Option D} {r r' : R2} {pos : Pos} (ho : OpR X (compareOp op) r) (ho' : OpR X (compareOp op') r') (hg : Op2 X.K r g) (hg' : Op2 X.K r' g') (ha : DH X a fa) (hb : DH X b fb) (hc : DH X c fc)
    (hm : lastMarks [op, op'] [b, c] = false := by with_unfolding_all rfl) : DE X (.Compare a [op, op'] [b, c] pos) (eCh g g' fa fb fc) := by
  obtain ⟨ta, tb, tc, pa, pb, pc, k⟩ := chain2 hg hg' ha hb hc
  exact ⟨_, pe_chain ho ho' pa pb pc hm, k⟩
theorem dt_chain {a b c : Expr} {op op' : CmpOp} {fa fb fc : Ev → Option (Hd × Ev)} {g g' : D → D → Option D} {r r' : R2} {pos : Pos} (ho : OpR X (compareOp op) r) (ho' : OpR X (compareOp op') r') (hg : Op2 X.K r g) (hg' : Op2 X.K r' g') (ha : DH X a fa) (hb : DH X b fb) (hc : DH X c fc)
    (hm : lastMarks [op, op'] [b, c] = false := by with_unfolding_all rfl) : DT X (.Compare a [op, op'] [b, c] pos) (tB' (eCh g g' fa fb fc)) := by
  obtain ⟨ta, tb, tc, pa, pb, pc, k⟩ := chain2 hg hg' ha hb hc
  refine ⟨_, pt_chain ho ho' pa pb pc hm, fun σ H ρ l Q c ρ' hl hi hf q => ?_⟩
  obtain ⟨⟨d, ρ1⟩, e1, hf⟩ := Option.bind_eq_some_iff.mp hf
  cases d with
  | bl b' =>
    cases hf
    refine k σ H ρ l _ _ _ hl hi e1 fun v H' hl' hi' => ?_
    have hv : v = .bl c := hi'.view (List.mem_cons_self)
    subst hv
    exact ⟨c, rfl, q H' hl' hi'.tail⟩
  | _ => cases hf
/-! what the operands of enumerate, zip, reversed keep -/
theorem hsls_nil : ∀ ρ hds ρ', aNil ρ = some (hds, ρ') → ∀ h ∈ hds, hsl C h := fun ρ hds ρ' e h hh => by cases e; cases hh
theorem hsls_cons {f : Ev → Option (Hd × Ev)} {g : Ev → Option (List Hd × Ev)} (hf : ∀ ρ hd ρ', f ρ = some (hd, ρ') → hsl C hd) (hg : ∀ ρ hds ρ', g ρ = some (hds, ρ') → ∀ h ∈ hds, hsl C h) : ∀ ρ hds ρ', aCons f g ρ = some (hds, ρ') → ∀ h ∈ hds, hsl C h := fun ρ hds ρ' e h hh => by
  obtain ⟨⟨hd, ρ1⟩, e1, e⟩ := Option.bind_eq_some_iff.mp e
  obtain ⟨⟨hs, ρ2⟩, e2, e⟩ := Option.map_eq_some_iff.mp e
  cases e
  rcases List.mem_cons.mp hh with rfl | hh
  · exact hf _ _ _ e1
  · exact hg _ _ _ e2 h hh
theorem hsls_var {i : Nat} {g : Ev → Option (List Hd × Ev)} (hi : i ∈ C) (hg : ∀ ρ hds ρ', g ρ = some (hds, ρ') → ∀ h ∈ hds, hsl C h) : ∀ ρ hds ρ', aCons (hV i) g ρ = some (hds, ρ') → ∀ h ∈ hds, hsl C h := hsls_cons (hsl_var hi) hg
theorem hsls_of {f : Ev → Option (D × Ev)} {g : Ev → Option (List Hd × Ev)} (hg : ∀ ρ hds ρ', g ρ = some (hds, ρ') → ∀ h ∈ hds, hsl C h) : ∀ ρ hds ρ', aCons (hE f) g ρ = some (hds, ρ') → ∀ h ∈ hds, hsl C h := hsls_cons hsl_of hg
end
end Mv
end
section
set_option Elab.async false
set_option linter.all false
set_option maxRecDepth 100000
/-! Ranges that are kept in a name. -/
namespace Mv
open PySem PySem.Spec PyProof.Rows L2
theorem Items.newR {K : Frg} {H : Hp} {l : List Itm} {a : Addr} {i j : Int} (ha : H a = none) (h : Items K [] H l) : Items K [] (upd H a (.rng i j)) ((some (.ref a), .rng i j) :: l) := by
  obtain ⟨G, fp, e, ho, nd, hn⟩ := h
  have ga : G a = none := e.free ha
  have hnd : a ∉ fp := fun z => by
    obtain ⟨ys, q⟩ := ho.there a z
    rw [ha] at q; cases q
  have keep : ∀ b ∈ fp, upd H a (.rng i j) b = H b := fun b hb => upd_ne fun z => hnd (z ▸ hb)
  have sG : Same G (upd G a (.rng i j)) := fun b o hb => by rw [upd_ne (ne_of_none hb ga)]; exact hb
  refine ⟨upd G a (.rng i j), fp, fun b o hb => ?_, ⟨[], fp, Ow.of_fz (K := K) (H := upd H a (.rng i j)) (.rng i j) (.ref a) rfl ⟨a, rfl, upd_same⟩, ho.mono sG keep, rfl⟩, nd, fun b hb => ?_⟩
  · by_cases z : b = a
    · subst z; rw [upd_same] at hb ⊢; exact hb
    · rw [upd_ne z] at hb ⊢; exact e b o hb
  · rw [upd_ne (show b ≠ a from fun z => hnd (z ▸ (by simpa using hb)))]
    exact hn b hb
def gRange : List D → Option D := fun ds => match ds with
  | [.int i, .int j] => some (.rng i j)
  | _ => none
theorem on_range {K : Frg} : OpN K (fun vs H Q => ∃ i j, vs = [V.int i, V.int j] ∧ ∀ p, H p = none → Q (.ref p) (upd H p (.rng i j))) gRange := by
  intro xs H ds l Q d hi hm hg q
  unfold gRange at hg
  split at hg
  · rename_i i j
    cases hg
    cases hm with
    | cons m1 mr =>
      cases mr with
      | cons m2 mr =>
        cases mr
        rename_i x y
        have hx : x = .int i := hi.view m1
        have hy : y = .int j := hi.view m2
        subst hx hy
        exact ⟨i, j, rfl, fun p np => q _ _ (hi.newR np)⟩
  · cases hg
section
variable {X : Cx} {C : List Nat}
def iRngV (te : TE) : TI := fun σ H R => te σ H fun x H1 => ∃ a lo hi, x = .ref a ∧ H1 a = some (.rng lo hi) ∧ -(2 ^ 62) ≤ lo ∧ lo < 2 ^ 62 ∧ -(2 ^ 62) ≤ hi ∧ hi < 2 ^ 62 ∧ R (Itr lo (hi - lo).toNat) H1
theorem pi_rngV {tg e : Expr} {te : TE} (he : PE X e te) : PI X tg e (iRngV te) := by
  constructor
  intro pins s σ H R I h
  refine thn (he.run pins s σ H _ I h) ?_
  rintro v s1 ⟨x, H1, I1, r1, a, lo, hi, rfl, ha, h1, h2, h3, h4, q⟩
  cases r1
  have hr : ∃ t u v, s1.heap.get? a = some { cls := .type "range", data := .fields #[.int lo t, .int hi u, .int 1 v] } := I1.hok a _ ha
  obtain ⟨t, u, v, hr⟩ := hr
  refine wpAny_pyIter_range hr (small_one h1 h2 h3 h4) ?_
  refine ⟨s1.heap.objs.size, [s1.heap.objs.size], _, _, H1, rfl, I1.kept (t' := s1.toks) fun b o e => Heap.get?_push_of_some _ e, turn_range _ lo (hi - lo).toNat, ?_, fun b hb => ?_, q⟩
  · have e1 : lo + ((0 : Nat) : Int) * 1 = lo := by simp
    have e2 : (((hi - lo).toNat : Nat) : Int) - ((0 : Nat) : Int) = Builtin.Range.rangeSize lo hi 1 := by rw [rangeSize_one]; split <;> omega
    show IsRangeIter _ _ (lo + ((0 : Nat) : Int) * 1) ((((hi - lo).toNat : Nat) : Int) - ((0 : Nat) : Int)) 1
    rw [e1, e2]
    exact Heap.get?_push_size _ rfl
  · have e : b = s1.heap.objs.size := by simpa using hb
    subst e
    exact I1.fpOk (Nat.le_refl _) (I1.hok.fresh (Nat.le_refl _))
def iRgV (f : Ev → Option (Hd × Ev)) : Ev → Option (Src × Ev) := fun ρ => (f ρ).bind fun p => match p.1.get p.2 with
  | .rng lo hi => if -(2 ^ 62) ≤ lo ∧ lo < 2 ^ 62 ∧ -(2 ^ 62) ≤ hi ∧ hi < 2 ^ 62 then some (itR lo 1 (hi - lo).toNat, p.2) else none
  | _ => none
theorem di_rngV {tg e : Expr} {f : Ev → Option (Hd × Ev)} (h : DH X e f) : DI X C tg e (iRgV f) := by
  obtain ⟨t, ht, k⟩ := h.ex
  refine ⟨_, pi_rngV ht, fun σ H ρ l R it ρ' hl hi hf q => ?_⟩
  obtain ⟨⟨hd, ρ1⟩, e1, hf⟩ := Option.bind_eq_some_iff.mp hf
  refine k σ H ρ l _ hd ρ1 hl hi e1 fun v H1 l1 a1 i1 => ?_
  have m1 := mem_hd (X := X) (hl := by omega) a1 i1
  replace hf : (match hd.get ρ1 with
    | .rng lo hi => if -(2 ^ 62) ≤ lo ∧ lo < 2 ^ 62 ∧ -(2 ^ 62) ≤ hi ∧ hi < 2 ^ 62 then some (itR lo 1 (hi - lo).toNat, ρ1) else none
    | _ => none) = some (it, ρ') := hf
  split at hf
  · rename_i lo hi e
    split at hf
    · rename_i hb
      cases hf
      rw [e] at m1
      obtain ⟨a, ev, ha⟩ := i1.range m1
      exact ⟨a, lo, hi, ev, ha, hb.1, hb.2.1, hb.2.2.1, hb.2.2.2, q (Itr lo (hi - lo).toNat) H1 [] l1 i1.drop itR_ok⟩
    · cases hf
  · cases hf
end
end Mv
end
section
set_option Elab.async false
set_option linter.all false
set_option maxRecDepth 100000
/-! Reckoning with readings: W o Q says that o is some a with Q a. -/
namespace Mv
open PySem PySem.Spec PyProof.Rows L2
def W {α : Type} (o : Option α) (Q : α → Prop) : Prop := ∃ a, o = some a ∧ Q a
section
variable {α β : Type}
theorem W_some {a : α} {Q : α → Prop} : W (some a) Q = Q a := propext ⟨fun ⟨b, e, q⟩ => by cases e; exact q, fun q => ⟨a, rfl, q⟩⟩
theorem W_none {Q : α → Prop} : W none Q = False := propext ⟨fun ⟨b, e, q⟩ => (nomatch e), fun q => q.elim⟩
theorem W_bind {o : Option α} {f : α → Option β} {Q : β → Prop} : W (o.bind f) Q = W o fun a => W (f a) Q := propext ⟨fun ⟨b, e, q⟩ => by
  obtain ⟨a, e1, e2⟩ := Option.bind_eq_some_iff.mp e
  exact ⟨a, e1, b, e2, q⟩, fun ⟨a, e1, b, e2, q⟩ => ⟨b, Option.bind_eq_some_iff.mpr ⟨a, e1, e2⟩, q⟩⟩
theorem W_map {o : Option α} {f : α → β} {Q : β → Prop} : W (o.map f) Q = W o fun a => Q (f a) := propext ⟨fun ⟨b, e, q⟩ => by
  obtain ⟨a, e1, e2⟩ := Option.map_eq_some_iff.mp e
  subst e2
  exact ⟨a, e1, q⟩, fun ⟨a, e1, q⟩ => ⟨f a, by rw [e1]; rfl, q⟩⟩
theorem W_ite {c : Prop} [Decidable c] {a b : Option α} {Q : α → Prop} : W (if c then a else b) Q = if c then W a Q else W b Q := by
  by_cases h : c
  · rw [if_pos h, if_pos h]
  · rw [if_neg h, if_neg h]
theorem W_mono {o : Option α} {Q Q' : α → Prop} (h : W o Q) (k : ∀ a, Q a → Q' a) : W o Q' := let ⟨a, e, q⟩ := h; ⟨a, e, k a q⟩
theorem W_of {o : Option α} {a : α} {Q : α → Prop} (e : o = some a) (q : Q a) : W o Q := ⟨a, e, q⟩
theorem W_eq {o : Option α} {a : α} {Q : α → Prop} (e : o = some a) : W o Q = Q a := by rw [e, W_some]
theorem W_if {c : Prop} [Decidable c] {a : Option α} {Q : α → Prop} (h : c) (k : W a Q) : W (if c then a else none) Q := by rw [if_pos h]; exact k
end
section
variable {x0 : D} {ρ : Ev}
/-! ### blocks -/
theorem W_bNil {Q : Out → Prop} : W (bNil (x0 :: ρ)) Q = Q (.nx (x0 :: ρ)) := W_some
theorem W_bCons {f g : Ev → Option Out} {Q : Out → Prop} : W (bCons f g (x0 :: ρ)) Q = W (f (x0 :: ρ)) fun o => match o with
    | .nx ρ' => W (g ρ') Q
    | .rt d ρ' => Q (.rt d ρ')
    | .bk ρ' => Q (.bk ρ')
    | .ct ρ' => Q (.ct ρ') := by
  unfold bCons
  rw [W_bind]
  congr 1
  funext o
  cases o <;> simp only [W_some]
theorem W_bBrk {Q : Out → Prop} : W (bBrk (x0 :: ρ)) Q = Q (.bk (x0 :: ρ)) := W_some
theorem W_bCnt {Q : Out → Prop} : W (bCnt (x0 :: ρ)) Q = Q (.ct (x0 :: ρ)) := W_some
theorem W_bExp {f : Ev → Option (D × Ev)} {Q : Out → Prop} : W (bExp f (x0 :: ρ)) Q = W (f (x0 :: ρ)) fun p => Q (.nx p.2) := W_map
theorem W_bRet {f : Ev → Option (D × Ev)} {Q : Out → Prop} : W (bRet f (x0 :: ρ)) Q = W (f (x0 :: ρ)) fun p => Q (.rt p.1 p.2) := W_map
theorem W_bRetN {Q : Out → Prop} : W (bRetN (x0 :: ρ)) Q = Q (.rt .non (x0 :: ρ)) := W_some
theorem W_bIf {c : Ev → Option (Bool × Ev)} {f g : Ev → Option Out} {Q : Out → Prop} : W (bIf c f g (x0 :: ρ)) Q = W (c (x0 :: ρ)) fun p => if p.1 = true then W (f p.2) Q else W (g p.2) Q := by
  unfold bIf
  rw [W_bind]
  congr 1
  funext p
  exact W_ite
theorem W_bAsg {f : Ev → Option (D × Ev)} {g : D → Ev → Option Ev} {Q : Out → Prop} : W (bAsg f g (x0 :: ρ)) Q = W (f (x0 :: ρ)) fun p => W (g p.1 p.2) fun ρ' => Q (.nx ρ') := by
  unfold bAsg
  rw [W_bind]
  congr 1
  funext p
  exact W_map
theorem W_bPar {i j : Nat} {fa : Ev → Option (List Hd × Ev)} {Q : Out → Prop} : W (bPar i j fa (x0 :: ρ)) Q = W (fa (x0 :: ρ)) fun p => W (match tms p.1 with
  | some [d, e] => some (.nx ((p.2.set i d).set j e))
  | _ => none) Q := W_bind
theorem W_bAug {i : Nat} {g : D → D → Option D} {fe : Ev → Option (Hd × Ev)} {Q : Out → Prop} : W (bAug i g fe (x0 :: ρ)) Q = W (fe (x0 :: ρ)) fun p => W (match (x0 :: ρ)[i]? with
  | some .any => none
  | none => none
  | some _ => (g (p.2.getD i .any) (p.1.get p.2)).map fun d => .nx (p.2.set i d)) Q := W_bind
/-! ### expressions -/
theorem W_eC {d : D} {Q : D × Ev → Prop} : W (eC d (x0 :: ρ)) Q = Q (d, (x0 :: ρ)) := W_some
theorem W_eV {i : Nat} {Q : D × Ev → Prop} : W (eV i (x0 :: ρ)) Q = W (match (x0 :: ρ)[i]? with
  | some .any => none
  | some d => if d.frz = true then some (d, (x0 :: ρ)) else some (d.fz, (x0 :: ρ).set i d.fz)
  | none => none) Q := rfl
theorem W_eM {i : Nat} {Q : D × Ev → Prop} : W (eM i (x0 :: ρ)) Q = W (match (x0 :: ρ)[i]? with
  | some .any => none
  | some d => some (d, (x0 :: ρ).set i .any)
  | none => none) Q := rfl
theorem W_hV {i : Nat} {Q : Hd × Ev → Prop} : W (hV i (x0 :: ρ)) Q = W (match (x0 :: ρ)[i]? with
  | some .any => none
  | some _ => some (.sl i, (x0 :: ρ))
  | none => none) Q := rfl
theorem W_eFz {f : Ev → Option (D × Ev)} {Q : D × Ev → Prop} : W (eFz f (x0 :: ρ)) Q = W (f (x0 :: ρ)) fun p => Q (p.1.fz, p.2) := W_map
theorem W_hE {f : Ev → Option (D × Ev)} {Q : Hd × Ev → Prop} : W (hE f (x0 :: ρ)) Q = W (f (x0 :: ρ)) fun p => Q (.tm p.1, p.2) := W_map
theorem W_e1 {g : D → Option D} {fa : Ev → Option (Hd × Ev)} {Q : D × Ev → Prop} : W (e1 g fa (x0 :: ρ)) Q = W (fa (x0 :: ρ)) fun p => W (g (p.1.get p.2)) fun d => Q (d, p.2) := by
  unfold e1
  rw [W_bind]
  congr 1
  funext p
  exact W_map
theorem W_e2 {g : D → D → Option D} {fa fb : Ev → Option (Hd × Ev)} {Q : D × Ev → Prop} : W (e2 g fa fb (x0 :: ρ)) Q = W (fa (x0 :: ρ)) fun p => W (fb p.2) fun q => W (g (p.1.get q.2) (q.1.get q.2)) fun d => Q (d, q.2) := by
  unfold e2
  rw [W_bind]
  congr 1
  funext p
  rw [W_bind]
  congr 1
  funext q
  exact W_map
theorem W_aNil {Q : List Hd × Ev → Prop} : W (aNil (x0 :: ρ)) Q = Q ([], (x0 :: ρ)) := W_some
theorem W_aCons {f : Ev → Option (Hd × Ev)} {g : Ev → Option (List Hd × Ev)} {Q : List Hd × Ev → Prop} : W (aCons f g (x0 :: ρ)) Q = W (f (x0 :: ρ)) fun p => W (g p.2) fun q => Q (p.1 :: q.1, q.2) := by
  unfold aCons
  rw [W_bind]
  congr 1
  funext p
  exact W_map
theorem W_eN {g : List D → Option D} {fa : Ev → Option (List Hd × Ev)} {Q : D × Ev → Prop} : W (eN g fa (x0 :: ρ)) Q = W (fa (x0 :: ρ)) fun p => W (g (p.1.map (Hd.get p.2))) fun d => Q (d, p.2) := by
  unfold eN
  rw [W_bind]
  congr 1
  funext p
  exact W_map
theorem W_eTup {fa : Ev → Option (List Hd × Ev)} {Q : D × Ev → Prop} : W (eTup fa (x0 :: ρ)) Q = W (fa (x0 :: ρ)) fun p => W (tms p.1) fun ds => W (if ds.length ≤ 16777216 then some (D.tup ds, p.2) else none) Q := by
  unfold eTup
  rw [W_bind]
  congr 1
  funext p
  exact W_bind
theorem W_eLst {fa : Ev → Option (List Hd × Ev)} {Q : D × Ev → Prop} : W (eLst fa (x0 :: ρ)) Q = W (fa (x0 :: ρ)) fun p => W (tms p.1) fun ds => W (if ds.length ≤ 16777216 then some (D.lst true ds, p.2) else none) Q := by
  unfold eLst
  rw [W_bind]
  congr 1
  funext p
  exact W_bind
theorem W_eCall {n : Nat} {F : List D → Option (D × List D)} {fa : Ev → Option (List Hd × Ev)} {Q : D × Ev → Prop} : W (eCall n F fa (x0 :: ρ)) Q = W (fa (x0 :: ρ)) fun p => p.1.length = n ∧ W (F (lend p.1 p.2).1) fun r => Q (r.1, unlend p.1 (lend p.1 p.2).1 r.2 (lend p.1 p.2).2) := by
  unfold eCall
  rw [W_bind]
  congr 1
  funext p
  by_cases h : p.1.length = n
  · rw [if_pos h, W_map]; simp [h]
  · rw [if_neg h, W_none]; simp [h]
theorem W_eMut {i : Nat} {g : List D → List D → Option (D × List D)} {fa : Ev → Option (List Hd × Ev)} {Q : D × Ev → Prop} : W (eMut i g fa (x0 :: ρ)) Q = W (match (x0 :: ρ)[i]? with
  | some (.lst _ _) => (fa (x0 :: ρ)).bind fun p => (tms p.1).bind fun ds => match p.2[i]? with
    | some (.lst true xs) => (g xs ds).map fun q => (q.1, p.2.set i (.lst true q.2))
    | _ => none
  | _ => none) Q := rfl
theorem W_eMt {T : String} {g : List D → Option D} {fo : Ev → Option (Hd × Ev)} {fa : Ev → Option (List Hd × Ev)} {Q : D × Ev → Prop} : W (eMt T g fo fa (x0 :: ρ)) Q = W (fo (x0 :: ρ)) fun p => W (if kindD T (p.1.get p.2) = true then (fa p.2).bind fun q => (g (p.1.get q.2 :: q.1.map (Hd.get q.2))).map fun d => (d, q.2) else none) Q := W_bind
theorem W_eIf {c : Ev → Option (Bool × Ev)} {f g : Ev → Option (D × Ev)} {Q : D × Ev → Prop} : W (eIf c f g (x0 :: ρ)) Q = W (c (x0 :: ρ)) fun p => if p.1 = true then W (f p.2) Q else W (g p.2) Q := by
  unfold eIf
  rw [W_bind]
  congr 1
  funext p
  exact W_ite
theorem W_eAn {f g : Ev → Option (D × Ev)} {Q : D × Ev → Prop} : W (eAn f g (x0 :: ρ)) Q = W (f (x0 :: ρ)) fun p => W p.1.tru fun b => if b = true then W (g p.2) Q else Q p := by
  unfold eAn
  rw [W_bind]
  congr 1
  funext p
  rw [W_bind]
  congr 1
  funext b
  rw [W_ite, W_some]
theorem W_eOr {f g : Ev → Option (D × Ev)} {Q : D × Ev → Prop} : W (eOr f g (x0 :: ρ)) Q = W (f (x0 :: ρ)) fun p => W p.1.tru fun b => if b = true then Q p else W (g p.2) Q := by
  unfold eOr
  rw [W_bind]
  congr 1
  funext p
  rw [W_bind]
  congr 1
  funext b
  rw [W_ite, W_some]
theorem W_eNo {f : Ev → Option (D × Ev)} {Q : D × Ev → Prop} : W (eNo f (x0 :: ρ)) Q = W (f (x0 :: ρ)) fun p => W p.1.tru fun b => Q (.bl (!b), p.2) := by
  unfold eNo
  rw [W_bind]
  congr 1
  funext p
  exact W_map
theorem W_eLc {vs : List Nat} {fi : Ev → Option (Src × Ev)} {g : D → Ev → Option Ev} {test : Ev → Option (Bool × Ev)} {elt : Ev → Option (D × Ev)} {Q : D × Ev → Prop} : W (eLc vs fi g test elt (x0 :: ρ)) Q = W (fi (x0 :: ρ)) fun p => W (lrun (cStep vs p.1 g test elt) ([], p.2)) Q := W_bind
theorem W_eJ0 {acc : Str} {Q : D × Ev → Prop} : W (eJ [] acc (x0 :: ρ)) Q = Q (.str acc, (x0 :: ρ)) := W_some
theorem W_eJ1 {f : Ev → Option (D × Ev)} {fs : List (Ev → Option (D × Ev))} {acc : Str} {Q : D × Ev → Prop} : W (eJ (f :: fs) acc (x0 :: ρ)) Q = W (f (x0 :: ρ)) fun p => W (match p.1 with
    | .str y => if (acc ++ y).length ≤ 16777216 then eJ fs (acc ++ y) p.2 else none
    | _ => none) Q := W_bind
/-! ### tests -/
theorem W_tT {f : Ev → Option (Hd × Ev)} {Q : Bool × Ev → Prop} : W (tT f (x0 :: ρ)) Q = W (f (x0 :: ρ)) fun p => W (p.1.get p.2).tru fun b => Q (b, p.2) := by
  unfold tT
  rw [W_bind]
  congr 1
  funext p
  exact W_map
theorem W_tB {f : Ev → Option (D × Ev)} {Q : Bool × Ev → Prop} : W (tB' f (x0 :: ρ)) Q = W (f (x0 :: ρ)) fun p => W (match p.1 with
  | .bl b => some (b, p.2)
  | _ => none) Q := W_bind
theorem W_tNo {f : Ev → Option (Bool × Ev)} {Q : Bool × Ev → Prop} : W (tNo f (x0 :: ρ)) Q = W (f (x0 :: ρ)) fun p => Q (!p.1, p.2) := W_map
theorem W_tAn {f g : Ev → Option (Bool × Ev)} {Q : Bool × Ev → Prop} : W (tAn f g (x0 :: ρ)) Q = W (f (x0 :: ρ)) fun p => if p.1 = true then W (g p.2) Q else Q (false, p.2) := by
  unfold tAn
  rw [W_bind]
  congr 1
  funext p
  rw [W_ite, W_some]
theorem W_tOr {f g : Ev → Option (Bool × Ev)} {Q : Bool × Ev → Prop} : W (tOr' f g (x0 :: ρ)) Q = W (f (x0 :: ρ)) fun p => if p.1 = true then Q (true, p.2) else W (g p.2) Q := by
  unfold tOr'
  rw [W_bind]
  congr 1
  funext p
  rw [W_ite, W_some]
theorem W_tAll {Q : Bool × Ev → Prop} : W (tAll (x0 :: ρ)) Q = Q (true, (x0 :: ρ)) := W_some
/-! ### targets, loops -/
theorem W_gNm {i : Nat} {d : D} {Q : Ev → Prop} : W (gNm i d (x0 :: ρ)) Q = Q ((x0 :: ρ).set i d) := W_some
theorem W_gsNil {Q : Ev → Prop} : W (gsNil [] (x0 :: ρ)) Q = Q (x0 :: ρ) := W_some
theorem W_gsCons {f : D → Ev → Option Ev} {g : List D → Ev → Option Ev} {d : D} {r : List D} {Q : Ev → Prop} : W (gsCons f g (d :: r) (x0 :: ρ)) Q = W (f d (x0 :: ρ)) fun ρ1 => W (g r ρ1) Q := W_bind
theorem W_gTp {n : Nat} {g : List D → Ev → Option Ev} {ds : List D} {Q : Ev → Prop} : W (gTp n g (.tup ds) (x0 :: ρ)) Q = W (if ds.length = n then g ds (x0 :: ρ) else none) Q := rfl
theorem W_gTpL {n : Nat} {g : List D → Ev → Option Ev} {o : Bool} {ds : List D} {Q : Ev → Prop} : W (gTp n g (.lst o ds) (x0 :: ρ)) Q = W (if ds.length = n ∧ D.frzL ds = true then g ds (x0 :: ρ) else none) Q := rfl
theorem W_gIx {j : Nat} {fi : Ev → Option (Hd × Ev)} {d : D} {Q : Ev → Prop} : W (gIx j fi d (x0 :: ρ)) Q = W (match (x0 :: ρ)[j]? with
  | some (.lst _ _) => (fi (x0 :: ρ)).bind fun p => match p.2[j]?, p.1.get p.2 with
    | some (.lst true xs), .int k => (ixN xs.length k).map fun m => p.2.set j (.lst true (xs.set m d))
    | _, _ => none
  | _ => none) Q := rfl
theorem W_bFor {fi : Ev → Option (Src × Ev)} {g : D → Ev → Option Ev} {body : Ev → Option Out} {Q : Out → Prop} : W (bFor fi g body (x0 :: ρ)) Q = W (fi (x0 :: ρ)) fun p => W (lrun (fStep p.1 g body) p.2) Q := W_bind
theorem W_bWhile {c : Ev → Option (Bool × Ev)} {body : Ev → Option Out} {Q : Out → Prop} : W (bWhile c body (x0 :: ρ)) Q = W (lrun (wStep c body) (x0 :: ρ)) Q := rfl
theorem W_iRg1 {fa : Ev → Option (List Hd × Ev)} {Q : Src × Ev → Prop} : W (iRg1 fa (x0 :: ρ)) Q = W (fa (x0 :: ρ)) fun p => W (match p.1.map (Hd.get p.2) with
  | [.int j] => if -(2 ^ 62) ≤ j ∧ j < 2 ^ 62 then some (itR 0 1 j.toNat, p.2) else none
  | _ => none) Q := W_bind
theorem W_iRg2 {fa : Ev → Option (List Hd × Ev)} {Q : Src × Ev → Prop} : W (iRg2 fa (x0 :: ρ)) Q = W (fa (x0 :: ρ)) fun p => W (match p.1.map (Hd.get p.2) with
  | [.int i, .int j] => if -(2 ^ 62) ≤ i ∧ i < 2 ^ 62 ∧ -(2 ^ 62) ≤ j ∧ j < 2 ^ 62 then some (itR i 1 (j - i).toNat, p.2) else none
  | _ => none) Q := W_bind
theorem W_iSq {f : Ev → Option (Hd × Ev)} {Q : Src × Ev → Prop} : W (iSq f (x0 :: ρ)) Q = W (f (x0 :: ρ)) fun p => W (match p.1.get p.2 with
  | .lst _ _ => some (itK isL p.1, p.2)
  | .cst _ => some (itK isL p.1, p.2)
  | .tup _ => some (itK isT p.1, p.2)
  | .str _ => some (itK isS p.1, p.2)
  | _ => none) Q := W_bind
end
/-- a def's reading by its body -/
theorem W_fnD {cs : List Bool} {ns : Nat} {body : Ev → Option Out} {ds : List D} {Q : D × List D → Prop} (hl : ds.length = cs.length) : W (fnD cs ns body ds) Q = W (body (ds ++ List.replicate (ns - cs.length) .any)) fun o => match o with
    | .rt d ρ => Q (d, keepL cs ρ)
    | .nx ρ => Q (.non, keepL cs ρ)
    | _ => False := by
  unfold fnD
  rw [if_pos hl, W_bind]
  congr 1
  funext o
  cases o <;> simp only [W_some, W_none]
theorem of_W {α : Type} {o : Option α} {a : α} (h : W o fun b => b = a) : o = some a := by
  obtain ⟨b, e, rfl⟩ := h
  exact e
/-! ### loops -/
theorem W_lrun {α β : Type} {step : Nat → α → Option (α ⊕ β)} {a : α} {Q : β → Prop} (P : Nat → α → Prop) (μ : Nat → α → Nat) (h0 : P 0 a)
    (hs : ∀ k a, P k a → W (step k a) fun s => match s with
      | .inl b => P (k + 1) b ∧ μ (k + 1) b < μ k a
      | .inr o => Q o) : W (lrun step a) Q := by
  obtain ⟨o, e, q⟩ := lrun_inv P Q μ h0 fun k a p => hs k a p
  exact ⟨o, e, q⟩
/-- for .. in range: what holds before turn k -/
theorem W_range {lo : Int} {n : Nat} {g : D → Ev → Option Ev} {body : Ev → Option Out} {ρ : Ev} {Q : Out → Prop} (P : Nat → Ev → Prop) (h0 : P 0 ρ)
    (hs : ∀ k ρ, k < n → P k ρ → W (g (.int (lo + k)) ρ) fun ρ1 => W (body ρ1) fun o => match o with
      | .nx ρ2 => P (k + 1) ρ2
      | .ct ρ2 => P (k + 1) ρ2
      | .bk ρ2 => Q (.nx ρ2)
      | .rt d ρ2 => Q (.rt d ρ2))
    (hd : ∀ ρ, P n ρ → Q (.nx ρ)) : W (lrun (fStep (itR lo 1 n) g body) ρ) Q := by
  refine W_lrun (fun k ρ => k ≤ n ∧ P k ρ) (fun k _ => n - k) ⟨Nat.zero_le _, h0⟩ ?_
  rintro k ρ ⟨hk, hp⟩
  unfold fStep
  rw [W_bind]
  unfold itR
  by_cases h : k < n
  · rw [if_pos h, W_some, Int.mul_one]
    rw [W_bind]
    refine W_mono (hs k ρ h hp) fun ρ1 h1 => ?_
    rw [W_map]
    refine W_mono h1 fun o ho => ?_
    cases o with
    | nx ρ2 => exact ⟨⟨h, ho⟩, by show n - (k + 1) < n - k; omega⟩
    | ct ρ2 => exact ⟨⟨h, ho⟩, by show n - (k + 1) < n - k; omega⟩
    | bk ρ2 => exact ho
    | rt d ρ2 => exact ho
  · rw [if_neg h, W_some]
    have : k = n := by omega
    subst this
    rw [W_some]
    exact hd ρ hp
/-- for .. in a list that stays -/
theorem W_list {it : Src} {ds : List D} {g : D → Ev → Option Ev} {body : Ev → Option Out} {ρ : Ev} {Q : Out → Prop} (P : Nat → Ev → Prop) (h0 : P 0 ρ)
    (hi : ∀ k ρ, P k ρ → it k ρ = some ds[k]?)
    (hs : ∀ k d ρ, ds[k]? = some d → P k ρ → W (g d ρ) fun ρ1 => W (body ρ1) fun o => match o with
      | .nx ρ2 => P (k + 1) ρ2
      | .ct ρ2 => P (k + 1) ρ2
      | .bk ρ2 => Q (.nx ρ2)
      | .rt d ρ2 => Q (.rt d ρ2))
    (hd : ∀ ρ, P ds.length ρ → Q (.nx ρ)) : W (lrun (fStep it g body) ρ) Q := by
  refine W_lrun (fun k ρ => k ≤ ds.length ∧ P k ρ) (fun k _ => ds.length - k) ⟨Nat.zero_le _, h0⟩ ?_
  rintro k ρ ⟨hk, hp⟩
  unfold fStep
  rw [W_bind, hi k ρ hp, W_some]
  cases e : ds[k]? with
  | some d =>
    have h : k < ds.length := (List.getElem?_eq_some_iff.mp e).1
    show W ((g d ρ).bind _) _
    rw [W_bind]
    refine W_mono (hs k d ρ e hp) fun ρ1 h1 => ?_
    rw [W_map]
    refine W_mono h1 fun o ho => ?_
    cases o with
    | nx ρ2 => exact ⟨⟨h, ho⟩, by show ds.length - (k + 1) < ds.length - k; omega⟩
    | ct ρ2 => exact ⟨⟨h, ho⟩, by show ds.length - (k + 1) < ds.length - k; omega⟩
    | bk ρ2 => exact ho
    | rt d ρ2 => exact ho
  | none =>
    have : k = ds.length := by
      have := List.getElem?_eq_none_iff.mp e
      omega
    subst this
    show W (some _) _
    rw [W_some]
    exact hd ρ hp
/-- while -/
theorem W_while {c : Ev → Option (Bool × Ev)} {body : Ev → Option Out} {ρ : Ev} {Q : Out → Prop} (P : Ev → Prop) (μ : Ev → Nat) (h0 : P ρ)
    (hs : ∀ ρ, P ρ → W (c ρ) fun p => if p.1 = true then W (body p.2) fun o => match o with
      | .nx ρ2 => P ρ2 ∧ μ ρ2 < μ ρ
      | .ct ρ2 => P ρ2 ∧ μ ρ2 < μ ρ
      | .bk ρ2 => Q (.nx ρ2)
      | .rt d ρ2 => Q (.rt d ρ2) else Q (.nx p.2)) : W (lrun (wStep c body) ρ) Q := by
  refine W_lrun (fun _ ρ => P ρ) (fun _ ρ => μ ρ) h0 fun k ρ hp => ?_
  unfold wStep
  rw [W_bind]
  refine W_mono (hs ρ hp) fun p h1 => ?_
  obtain ⟨b, ρ1⟩ := p
  cases b with
  | true =>
    rw [if_pos rfl] at h1 ⊢
    rw [W_map]
    refine W_mono h1 fun o ho => ?_
    cases o <;> exact ho
  | false =>
    rw [if_neg Bool.false_ne_true] at h1 ⊢
    rw [W_some]
    exact h1
/-- a comprehension over a range -/
theorem W_compR {vs : List Nat} {lo : Int} {n : Nat} {g : D → Ev → Option Ev} {test : Ev → Option (Bool × Ev)} {elt : Ev → Option (D × Ev)} {ρ : Ev} {Q : D × Ev → Prop} (P : Nat → List D → Ev → Prop) (h0 : P 0 [] ρ)
    (hs : ∀ k acc ρ, k < n → P k acc ρ → W (g (.int (lo + k)) (wipeD ρ vs)) fun ρ1 => W (test ρ1) fun p => if p.1 = true then W (elt p.2) fun q => acc.length < 16777216 ∧ P (k + 1) (acc ++ [q.1]) (unw ρ vs q.2) else P (k + 1) acc (unw ρ vs p.2))
    (hd : ∀ acc ρ, P n acc ρ → Q (.lst true acc, ρ)) : W (lrun (cStep vs (itR lo 1 n) g test elt) ([], ρ)) Q := by
  refine W_lrun (fun k a => k ≤ n ∧ P k a.1 a.2) (fun k _ => n - k) ⟨Nat.zero_le _, h0⟩ ?_
  rintro k ⟨acc, ρ⟩ ⟨hk, hp⟩
  unfold cStep
  rw [W_bind]
  unfold itR
  by_cases h : k < n
  · rw [if_pos h, W_some, Int.mul_one]
    show W ((g _ _).bind _) _
    rw [W_bind]
    refine W_mono (hs k acc ρ h hp) fun ρ1 h1 => ?_
    rw [W_bind]
    refine W_mono h1 fun p h2 => ?_
    rw [W_ite]
    split
    · rename_i hb
      rw [if_pos hb] at h2
      rw [W_bind]
      refine W_mono h2 fun q h3 => ?_
      rw [if_pos h3.1, W_some]
      exact ⟨⟨h, h3.2⟩, by show n - (k + 1) < n - k; omega⟩
    · rename_i hb
      rw [if_neg hb] at h2
      rw [W_some]
      exact ⟨⟨h, h2⟩, by show n - (k + 1) < n - k; omega⟩
  · rw [if_neg h, W_some]
    have : k = n := by omega
    subst this
    rw [W_some]
    exact hd acc ρ hp
theorem W_compL {vs : List Nat} {it : Src} {ds : List D} {g : D → Ev → Option Ev} {test : Ev → Option (Bool × Ev)} {elt : Ev → Option (D × Ev)} {ρ : Ev} {Q : D × Ev → Prop} (P : Nat → List D → Ev → Prop) (h0 : P 0 [] ρ)
    (hi : ∀ k acc ρ, P k acc ρ → it k ρ = some ds[k]?)
    (hs : ∀ k d acc ρ, ds[k]? = some d → P k acc ρ → W (g d (wipeD ρ vs)) fun ρ1 => W (test ρ1) fun p => if p.1 = true then W (elt p.2) fun q => acc.length < 16777216 ∧ P (k + 1) (acc ++ [q.1]) (unw ρ vs q.2) else P (k + 1) acc (unw ρ vs p.2))
    (hd : ∀ acc ρ, P ds.length acc ρ → Q (.lst true acc, ρ)) : W (lrun (cStep vs it g test elt) ([], ρ)) Q := by
  refine W_lrun (fun k a => k ≤ ds.length ∧ P k a.1 a.2) (fun k _ => ds.length - k) ⟨Nat.zero_le _, h0⟩ ?_
  rintro k ⟨acc, ρ⟩ ⟨hk, hp⟩
  unfold cStep
  rw [W_bind, hi k acc ρ hp, W_some]
  cases e : ds[k]? with
  | some d =>
    have h : k < ds.length := (List.getElem?_eq_some_iff.mp e).1
    show W ((g _ _).bind _) _
    rw [W_bind]
    refine W_mono (hs k d acc ρ e hp) fun ρ1 h1 => ?_
    rw [W_bind]
    refine W_mono h1 fun p h2 => ?_
    rw [W_ite]
    split
    · rename_i hb
      rw [if_pos hb] at h2
      rw [W_bind]
      refine W_mono h2 fun q h3 => ?_
      rw [if_pos h3.1, W_some]
      exact ⟨⟨h, h3.2⟩, by show ds.length - (k + 1) < ds.length - k; omega⟩
    · rename_i hb
      rw [if_neg hb] at h2
      rw [W_some]
      exact ⟨⟨h, h2⟩, by show ds.length - (k + 1) < ds.length - k; omega⟩
  | none =>
    have : k = ds.length := by
      have := List.getElem?_eq_none_iff.mp e
      omega
    subst this
    show W (some _) _
    rw [W_some]
    exact hd acc ρ hp
end Mv
end
section
set_option Elab.async false
set_option linter.all false
set_option maxRecDepth 100000
/-! Operations on data of a known kind. -/
namespace Mv
open PySem PySem.Spec PyProof.Rows L2
/-- the greatest common divisor -/
def gd (a b : Int) : Int := ((Nat.gcd a.natAbs b.natAbs : Nat) : Int)
section
variable {i j k : Int} {x y : Str} {b c : Bool} {xs ys : List D} {o o' : Bool} {d e : D} {n : Nat}
theorem vv_add : gAdd (.int i) (.int j) = some (.int (i + j)) := rfl
theorem vv_addS : gAdd (.str x) (.str y) = if x.length + y.length ≤ 16777216 then some (.str (x ++ y)) else none := rfl
theorem vv_addL : gAdd (.lst o xs) (.lst o' ys) = if D.frzL xs = true ∧ D.frzL ys = true ∧ xs.length + ys.length ≤ 16777216 then some (.lst true (xs ++ ys)) else none := rfl
theorem vv_addT : gAdd (.tup xs) (.tup ys) = if D.frzL xs = true ∧ D.frzL ys = true ∧ xs.length + ys.length ≤ 16777216 then some (.tup (xs ++ ys)) else none := rfl
theorem vv_sub : gSubt (.int i) (.int j) = some (.int (i - j)) := rfl
theorem vv_mul : gMul (.int i) (.int j) = if MulOk i j then some (.int (i * j)) else none := rfl
theorem vv_div : gDiv (.int i) (.int j) = if DivOk j then some (.int (i / j)) else if DivNo j then some (.int (i.fdiv j)) else none := rfl
theorem vv_mod : gMod (.int i) (.int j) = if 0 < j then some (.int (i % j)) else none := rfl
theorem vv_pow : gPow (.int i) (.int j) = if PowOk i j then some (.int (i ^ j.toNat)) else none := rfl
theorem vv_shl : gShl (.int i) (.int j) = if PowOk i j then some (.int (i * 2 ^ j.toNat)) else none := rfl
theorem vv_shr : gShr (.int i) (.int j) = if 0 ≤ j then some (.int (i / 2 ^ j.toNat)) else none := rfl
theorem vv_neg : gNeg (.int i) = some (.int (-i)) := rfl
theorem vv_lt : gLt (.int i) (.int j) = some (.bl (decide (i < j))) := rfl
theorem vv_le : gLe (.int i) (.int j) = some (.bl (decide (i ≤ j))) := rfl
theorem vv_gt : gGt (.int i) (.int j) = some (.bl (decide (j < i))) := rfl
theorem vv_ge : gGe (.int i) (.int j) = some (.bl (decide (j ≤ i))) := rfl
theorem vv_int : gInt [.int i] = some (.int i) := rfl
theorem vv_intS : gInt [.str x] = (PySem.intText? x).bind fun n => if x.length ≤ 640 then some (.int n) else none := rfl
theorem vv_intb : gInt [.bl b] = some (.int (if b then 1 else 0)) := rfl
theorem vv_abs : gAbs [.int i] = some (.int (if i < 0 then -i else i)) := rfl
theorem vv_gcd : gGcd [.int i, .int j] = some (.int (gd i j)) := rfl
theorem vv_max2 : gMax2 [.int i, .int j] = some (.int (if j > i then j else i)) := rfl
theorem vv_min2 : gMin2 [.int i, .int j] = some (.int (if j < i then j else i)) := rfl
theorem vv_lenL : gLen [.lst o xs] = some (.int xs.length) := rfl
theorem vv_lenC : gLen [.cst xs] = some (.int xs.length) := rfl
theorem vv_lenT : gLen [.tup xs] = some (.int xs.length) := rfl
theorem vv_lenS : gLen [.str x] = if x.length ≤ 16777216 then some (.int x.length) else none := rfl
theorem vv_idxL : gIdx (.lst o xs) (.int i) = atF xs i := rfl
theorem vv_idxC : gIdx (.cst xs) (.int i) = atF xs i := rfl
theorem vv_idxT : gIdx (.tup xs) (.int i) = atF xs i := rfl
theorem vv_eqI : gEq (.int i) (.int j) = some (.bl (decide (i = j))) := rfl
theorem vv_eqS : gEq (.str x) (.str y) = some (.bl (decide (x = y))) := rfl
theorem vv_eqB : gEq (.bl b) (.bl c) = some (.bl (decide (b = c))) := rfl
theorem vv_neI : gNe (.int i) (.int j) = some (.bl (!decide (i = j))) := rfl
theorem vv_neS : gNe (.str x) (.str y) = some (.bl (!decide (x = y))) := rfl
theorem vv_eqG (h : sEq d e = none) : gEq d e = if d.dat = true ∧ e.dat = true ∧ SeqAt.shaped d.pd = true ∧ SeqAt.shaped e.pd = true then some (.bl (PyData.eqv d.pd e.pd)) else none := by unfold gEq; rw [h]
theorem vv_neG (h : sEq d e = none) : gNe d e = if d.dat = true ∧ e.dat = true ∧ SeqAt.shaped d.pd = true ∧ SeqAt.shaped e.pd = true then some (.bl (!PyData.eqv d.pd e.pd)) else none := by unfold gNe; rw [h]
theorem vv_list : gList [.lst o xs] = if D.frzL xs = true then some (.lst true xs) else none := rfl
theorem vv_listT : gList [.tup xs] = if D.frzL xs = true then some (.lst true xs) else none := rfl
theorem vv_tuple : gTuple [.lst o xs] = if D.frzL xs = true then some (.tup xs) else none := rfl
theorem vv_tupleT : gTuple [.tup xs] = if D.frzL xs = true then some (.tup xs) else none := rfl
theorem vv_sum : gSum [.lst o xs] = (ints? xs).map fun ns => .int ns.sum := rfl
theorem vv_maxL : gMaxL [.lst o xs] = (ints? xs).bind fun ns => ns.max?.map D.int := rfl
theorem vv_minL : gMinL [.lst o xs] = (ints? xs).bind fun ns => ns.min?.map D.int := rfl
theorem vv_strI : gStrI [.int i] = if i.natAbs < 2 ^ 1900 then some (.str (toString i)) else none := rfl
theorem vv_app : gApp xs [d] = if xs.length < 16777216 then some (.non, xs ++ [d]) else none := rfl
theorem vv_isNN : gIsB false .non .non = some (.bl true) := rfl
theorem vv_isIN : gIsB false (.int i) .non = some (.bl false) := rfl
theorem vv_isSN : gIsB false (.str x) .non = some (.bl false) := rfl
theorem vv_isBN : gIsB false (.bl b) .non = some (.bl false) := rfl
theorem vv_isLN : gIsB false (.lst o xs) .non = some (.bl false) := rfl
theorem vv_isTN : gIsB false (.tup xs) .non = some (.bl false) := rfl
theorem vv_isBB : gIsB false (.bl b) (.bl c) = some (.bl (decide (b = c))) := rfl
theorem vv_isNB : gIsB false .non (.bl c) = some (.bl false) := rfl
theorem vv_isIB : gIsB false (.int i) (.bl c) = some (.bl false) := rfl
theorem vv_isSB : gIsB false (.str x) (.bl c) = some (.bl false) := rfl
theorem vv_isLB : gIsB false (.lst o xs) (.bl c) = some (.bl false) := rfl
theorem vv_isTB : gIsB false (.tup xs) (.bl c) = some (.bl false) := rfl
theorem vv_inNN : gIsB true .non .non = some (.bl false) := rfl
theorem vv_inIN : gIsB true (.int i) .non = some (.bl true) := rfl
theorem vv_inSN : gIsB true (.str x) .non = some (.bl true) := rfl
theorem vv_inBN : gIsB true (.bl b) .non = some (.bl true) := rfl
theorem vv_inLN : gIsB true (.lst o xs) .non = some (.bl true) := rfl
theorem vv_inTN : gIsB true (.tup xs) .non = some (.bl true) := rfl
theorem vv_inBB : gIsB true (.bl b) (.bl c) = some (.bl (!decide (b = c))) := rfl
theorem tru_b : (D.bl b).tru = some b := rfl
theorem tru_i : (D.int i).tru = some (i != 0) := rfl
theorem tru_n : D.non.tru = some false := rfl
theorem tru_l : (D.lst o xs).tru = some (!xs.isEmpty) := rfl
theorem tru_t : (D.tup xs).tru = some (!xs.isEmpty) := rfl
theorem tru_c : (D.cst xs).tru = some (!xs.isEmpty) := rfl
/-! isinstance -/
theorem isiI_int : gIsi [.int i, .ty "int"] = some (.bl true) := rfl
theorem isiI_str : gIsi [.int i, .ty "str"] = some (.bl false) := rfl
theorem isiI_bool : gIsi [.int i, .ty "bool"] = some (.bl false) := rfl
theorem isiI_list : gIsi [.int i, .ty "list"] = some (.bl false) := rfl
theorem isiI_tuple : gIsi [.int i, .ty "tuple"] = some (.bl false) := rfl
theorem isiS_int : gIsi [.str x, .ty "int"] = some (.bl false) := rfl
theorem isiS_str : gIsi [.str x, .ty "str"] = some (.bl true) := rfl
theorem isiS_bool : gIsi [.str x, .ty "bool"] = some (.bl false) := rfl
theorem isiS_list : gIsi [.str x, .ty "list"] = some (.bl false) := rfl
theorem isiS_tuple : gIsi [.str x, .ty "tuple"] = some (.bl false) := rfl
theorem isiB_int : gIsi [.bl b, .ty "int"] = some (.bl true) := rfl
theorem isiB_str : gIsi [.bl b, .ty "str"] = some (.bl false) := rfl
theorem isiB_bool : gIsi [.bl b, .ty "bool"] = some (.bl true) := rfl
theorem isiB_list : gIsi [.bl b, .ty "list"] = some (.bl false) := rfl
theorem isiB_tuple : gIsi [.bl b, .ty "tuple"] = some (.bl false) := rfl
theorem isiL_int : gIsi [.lst o xs, .ty "int"] = some (.bl false) := rfl
theorem isiL_str : gIsi [.lst o xs, .ty "str"] = some (.bl false) := rfl
theorem isiL_bool : gIsi [.lst o xs, .ty "bool"] = some (.bl false) := rfl
theorem isiL_list : gIsi [.lst o xs, .ty "list"] = some (.bl true) := rfl
theorem isiL_tuple : gIsi [.lst o xs, .ty "tuple"] = some (.bl false) := rfl
theorem isiT_int : gIsi [.tup xs, .ty "int"] = some (.bl false) := rfl
theorem isiT_str : gIsi [.tup xs, .ty "str"] = some (.bl false) := rfl
theorem isiT_bool : gIsi [.tup xs, .ty "bool"] = some (.bl false) := rfl
theorem isiT_list : gIsi [.tup xs, .ty "list"] = some (.bl false) := rfl
theorem isiT_tuple : gIsi [.tup xs, .ty "tuple"] = some (.bl true) := rfl
theorem isiN_int : gIsi [.non, .ty "int"] = some (.bl false) := rfl
theorem isiN_str : gIsi [.non, .ty "str"] = some (.bl false) := rfl
theorem isiN_bool : gIsi [.non, .ty "bool"] = some (.bl false) := rfl
theorem isiN_list : gIsi [.non, .ty "list"] = some (.bl false) := rfl
theorem isiN_tuple : gIsi [.non, .ty "tuple"] = some (.bl false) := rfl
/-! places in written lists -/
def okD (d : D) : Option D := if d.frz = true then some d else none
variable {a0 a1 a2 a3 a4 a5 a6 : D}
theorem atF_nat {xs : List D} {n : Nat} : atF xs (n : Int) = (xs[n]?).bind okD := by
  unfold atF atI ixN
  rw [if_pos (by omega)]
  by_cases h : n < xs.length
  · rw [if_pos (by omega)]
    simp only [Option.bind_some, Int.toNat_natCast]
    rfl
  · rw [if_neg (by omega), List.getElem?_eq_none (by omega)]
    rfl
theorem atF0 : atF (a0 :: xs) 0 = okD a0 := atF_nat (n := 0)
theorem atF1 : atF (a0 :: a1 :: xs) 1 = okD a1 := atF_nat (n := 1)
theorem atF2 : atF (a0 :: a1 :: a2 :: xs) 2 = okD a2 := atF_nat (n := 2)
theorem atF3 : atF (a0 :: a1 :: a2 :: a3 :: xs) 3 = okD a3 := atF_nat (n := 3)
theorem atF4 : atF (a0 :: a1 :: a2 :: a3 :: a4 :: xs) 4 = okD a4 := atF_nat (n := 4)
theorem atF5 : atF (a0 :: a1 :: a2 :: a3 :: a4 :: a5 :: xs) 5 = okD a5 := atF_nat (n := 5)
theorem okD_of {d : D} (h : d.frz = true) : okD d = some d := if_pos h
theorem okI : okD (.int i) = some (.int i) := rfl
theorem okB : okD (.bl b) = some (.bl b) := rfl
theorem okS : okD (.str x) = some (.str x) := rfl
theorem okN : okD .non = some .non := rfl
theorem okL : okD (.lst false xs) = some (.lst false xs) := rfl
theorem okT (h : D.frzL xs = true) : okD (.tup xs) = some (.tup xs) := if_pos h
theorem ix0 {n : Nat} : ixN (n + 1) 0 = some 0 := by unfold ixN; rw [if_pos (by omega), if_pos (by omega)]; rfl
theorem ix1 {n : Nat} : ixN (n + 2) 1 = some 1 := by unfold ixN; rw [if_pos (by omega), if_pos (by omega)]; rfl
theorem ix2 {n : Nat} : ixN (n + 3) 2 = some 2 := by unfold ixN; rw [if_pos (by omega), if_pos (by omega)]; rfl
theorem ix_nat {n m : Nat} (h : m < n) : ixN n (m : Int) = some m := by unfold ixN; rw [if_pos (by omega), if_pos (by omega)]; simp
end
theorem frzL_int : ∀ ns : List Int, D.frzL (ns.map D.int) = true
  | [] => rfl
  | n :: r => by show (true && _) = true; rw [Bool.true_and]; exact frzL_int r
theorem fzL_int : ∀ ns : List Int, D.fzL (ns.map D.int) = ns.map D.int
  | [] => rfl
  | n :: r => by show D.int n :: D.fzL (r.map D.int) = _; rw [fzL_int r]; rfl
theorem frzL_of {xs : List D} (h : ∀ d ∈ xs, d.frz = true) : D.frzL xs = true := by
  rw [D.frzL_all]
  exact List.all_eq_true.mpr h
theorem intsD_map : ∀ ns : List Int, ints? (ns.map D.int) = some ns
  | [] => rfl
  | n :: r => by show (ints? (r.map D.int)).map _ = _; rw [intsD_map r]; rfl
theorem MulOk.left {i j : Int} (h : i.natAbs < 2 ^ 64) : MulOk i j := .inl h
theorem MulOk.right {i j : Int} (h : j.natAbs < 2 ^ 64) : MulOk i j := .inr (.inl h)
theorem W_ok {α : Type} {c : Prop} [Decidable c] {a : α} {o : Option α} {Q : α → Prop} (h : c) : W (if c then some a else o) Q = Q a := by rw [if_pos h, W_some]
theorem W_no {α : Type} {c : Prop} [Decidable c] {a o : Option α} {Q : α → Prop} (h : ¬ c) : W (if c then a else o) Q = W o Q := by rw [if_neg h]
theorem ite_b {c : Prop} [Decidable c] {A B : Prop} : (if decide c = true then A else B) = if c then A else B := by
  by_cases h : c <;> simp [h]
end Mv
end
section
set_option Elab.async false
set_option linter.all false
set_option maxRecDepth 100000
set_option exponentiation.threshold 5000
/-! Numbers as text. -/
namespace Mv
open PySem PySem.Spec PyProof.Rows L2 NumText TL
theorem tl_int (i : Int) : tl (Str.ofString (toString i)) = if i < 0 then 45 :: numL i.natAbs else numL i.natAbs := by
  cases i with
  | ofNat n =>
    rw [if_neg (by have : (0 : Int) ≤ Int.ofNat n := Int.natCast_nonneg n; omega)]
    exact tl_num n
  | negSucc n =>
    rw [if_pos (Int.negSucc_lt_zero n)]
    have e : toString (Int.negSucc n) = "-" ++ Nat.repr (n + 1) := rfl
    rw [e, tl_ofString, String.toList_append, List.map_append]
    have e3 := tl_num (n + 1)
    have e2 : toString (((n + 1 : Nat)) : Int) = Nat.repr (n + 1) := rfl
    rw [e2, tl_ofString] at e3
    rw [e3]
    rfl
theorem text_signs (i : Int) : ∀ c ∈ tl (Str.ofString (toString i)), c = 45 ∨ (48 ≤ c ∧ c ≤ 57) := by
  intro c hc
  rw [tl_int] at hc
  split at hc
  · rcases List.mem_cons.mp hc with e | h
    · exact .inl e
    · exact .inr (numL_digits _ c h)
  · exact .inr (numL_digits _ c hc)
theorem text_len {i : Int} {k : Nat} (hk : 0 < k) (h : i.natAbs < 10 ^ k) : (Str.ofString (toString i)).length ≤ k + 1 := by
  rw [len_tl, tl_int]
  have := numL_len hk h
  split
  · rw [List.length_cons]; omega
  · omega
theorem text_len64 {i : Int} (h : i.natAbs < 2 ^ 64) : (Str.ofString (toString i)).length ≤ 21 := text_len (k := 20) (by decide) (by omega)
theorem int_text {i : Int} (h : i.natAbs < 2 ^ 64) : intText? (Str.ofString (toString i)) = some i := by
  have hl := text_len64 h
  by_cases hi : i < 0
  · have e := tl_int i
    rw [if_pos hi] at e
    have := intText_neg (x := Str.ofString (toString i)) e (numL_digits _) (numL_ne _) (by omega)
    rw [numL_val] at this
    rw [this]
    congr 1
    omega
  · obtain ⟨n, rfl⟩ := Int.eq_ofNat_of_zero_le (a := i) (by omega)
    exact int_num (by have e := len_tl (Str.ofString (toString (n : Int))); rw [tl_num] at e; omega)
theorem repr_len {x : Str} (h : ∀ c ∈ tl x, c < 16 ^ 8) (h2 : x.length ≤ 1000000) : (reprText x).length ≤ 16777216 := by
  have := StrLaws.reprText_len x h
  omega
theorem repr_int {i : Int} (h : i.natAbs < 2 ^ 64) : (reprText (Str.ofString (toString i))).length ≤ 16777216 :=
  repr_len (fun c hc => by have := text_signs i c hc; omega) (by have := text_len64 h; omega)
section
variable {i j : Int} {x y : Str}
theorem vv_fmtI : gFmt (.int i) = if i.natAbs < 2 ^ 1900 then some (.str (toString i)) else none := rfl
theorem vv_fmtS : gFmt (.str x) = if x.length ≤ 16777216 then some (.str x) else none := rfl
theorem vv_reprI : gRepr [.int i] = if i.natAbs < 2 ^ 1900 then some (.str (toString i)) else none := rfl
theorem vv_reprS : gRepr [.str x] = if (reprText x).length ≤ 16777216 then some (.str (reprText x)) else none := rfl
end
theorem ite_nb {c : Prop} [Decidable c] {A B : Prop} : (if (!decide c) = true then A else B) = if c then B else A := by
  by_cases h : c <;> simp [h]
/-! ### comprehensions over numbers -/
def ilist (lo : Int) (n : Nat) : List Int := (List.range n).map fun k : Nat => lo + (k : Int)
theorem ilist_succ {lo : Int} {n : Nat} : ilist lo (n + 1) = ilist lo n ++ [lo + (n : Int)] := by
  unfold ilist
  rw [List.range_succ, List.map_append]
  rfl
theorem ilist_len {lo : Int} {n : Nat} : (ilist lo n).length = n := by unfold ilist; rw [List.length_map, List.length_range]
theorem mem_ilist {lo : Int} {n : Nat} {x : Int} : x ∈ ilist lo n ↔ lo ≤ x ∧ x < lo + n := by
  unfold ilist
  rw [List.mem_map]
  constructor
  · rintro ⟨k, hk, rfl⟩
    have := List.mem_range.mp hk
    omega
  · intro ⟨h1, h2⟩
    exact ⟨(x - lo).toNat, List.mem_range.mpr (by omega), by omega⟩
theorem W_compI {vs : List Nat} {lo : Int} {n : Nat} {g : D → Ev → Option Ev} {test : Ev → Option (Bool × Ev)} {elt : Ev → Option (D × Ev)} {ρ : Ev} {Q : D × Ev → Prop} (p : Int → Bool) (f : Int → D) (hn : n < 16777216)
    (hs : ∀ i, lo ≤ i → i < lo + n → W (g (.int i) (wipeD ρ vs)) fun ρ1 => W (test ρ1) fun q => q.1 = p i ∧ (if p i = true then W (elt q.2) fun r => r.1 = f i ∧ unw ρ vs r.2 = ρ else unw ρ vs q.2 = ρ))
    (hd : Q (.lst true (((ilist lo n).filter p).map f), ρ)) : W (lrun (cStep vs (itR lo 1 n) g test elt) ([], ρ)) Q := by
  refine W_compR (fun k acc ρ' => ρ' = ρ ∧ acc = ((ilist lo k).filter p).map f) ⟨rfl, rfl⟩ ?_ ?_
  · rintro k acc ρ' hk ⟨rfl, rfl⟩
    refine W_mono (hs (lo + k) (by omega) (by omega)) fun ρ1 h1 => W_mono h1 fun q ⟨h2, h3⟩ => ?_
    rw [h2]
    have hl : (((ilist lo k).filter p).map f).length ≤ k := by
      rw [List.length_map]
      exact Nat.le_trans (List.length_filter_le _ _) (by rw [ilist_len]; exact Nat.le_refl _)
    cases hp : p (lo + k)
    · rw [hp] at h3
      rw [if_neg (by decide)] at h3
      rw [if_neg (by decide)]
      refine ⟨h3, ?_⟩
      rw [ilist_succ, List.filter_append, List.filter_cons_of_neg (by rw [hp]; decide)]
      simp
    · rw [hp, if_pos rfl] at h3
      rw [if_pos rfl]
      refine W_mono h3 fun r ⟨h4, h5⟩ => ⟨by omega, h5, ?_⟩
      rw [ilist_succ, List.filter_append, List.filter_cons_of_pos hp, List.map_append, h4]
      rfl
  · rintro acc ρ' ⟨rfl, rfl⟩
    exact hd
theorem filter_first {lo : Int} {p : Int → Bool} {t : Int} : ∀ {n : Nat}, lo ≤ t → t < lo + n → p t = true → (∀ s, lo ≤ s → s < t → p s = false) → ∃ r, (ilist lo n).filter p = t :: r
  | 0, h1, h2, _, _ => by omega
  | n + 1, h1, h2, h3, h4 => by
    rw [ilist_succ, List.filter_append]
    by_cases h : t < lo + n
    · obtain ⟨r, e⟩ := filter_first h1 h h3 h4
      rw [e]
      exact ⟨_, rfl⟩
    · have e : lo + (n : Int) = t := by omega
      have e2 : (ilist lo n).filter p = [] := by
        rw [List.filter_eq_nil_iff]
        intro a ha
        have := mem_ilist.mp ha
        rw [h4 a this.1 (by omega)]
        decide
      rw [e2, e, List.filter_cons_of_pos h3]
      exact ⟨_, rfl⟩
theorem filter_none {lo : Int} {p : Int → Bool} {n : Nat} (h : ∀ s, lo ≤ s → s < lo + n → p s = false) : (ilist lo n).filter p = [] := by
  rw [List.filter_eq_nil_iff]
  intro a ha
  have := mem_ilist.mp ha
  rw [h a this.1 this.2]
  decide
theorem max_of {l : List Int} {a : Int} (h : a ∈ l) (k : ∀ b ∈ l, b ≤ a) : l.max? = some a := List.max?_eq_some_iff.mpr ⟨h, k⟩
theorem min_of {l : List Int} {a : Int} (h : a ∈ l) (k : ∀ b ∈ l, a ≤ b) : l.min? = some a := List.min?_eq_some_iff.mpr ⟨h, k⟩
/-! ### == of data -/
def D.ok (n : Nat) (d : D) : Prop := d.dat = true ∧ d.pd.canLay0 = true ∧ d.pd.depth ≤ n
theorem ok_mono {n m : Nat} {d : D} (h : D.ok n d) (k : n ≤ m) : D.ok m d := ⟨h.1, h.2.1, Nat.le_trans h.2.2 k⟩
theorem ok_int {n : Nat} {i : Int} : D.ok n (.int i) := ⟨rfl, by simp [D.pd, PyData.canLay0], by simp [D.pd, PyData.depth]⟩
theorem ok_bl {n : Nat} {i : Bool} : D.ok n (.bl i) := ⟨rfl, by simp [D.pd, PyData.canLay0], by simp [D.pd, PyData.depth]⟩
theorem ok_non {n : Nat} : D.ok n .non := ⟨rfl, by simp [D.pd, PyData.canLay0], by simp [D.pd, PyData.depth]⟩
theorem okL_aux {n : Nat} : ∀ xs : List D, (∀ d ∈ xs, D.ok n d) → D.datL xs = true ∧ PyData.canLayAll0 (D.pdL xs) = true ∧ PyData.depthAll (D.pdL xs) ≤ n
  | [], _ => ⟨rfl, by simp [D.pdL, PyData.canLayAll0], by simp [D.pdL, PyData.depthAll]⟩
  | d :: xs, h => by
    obtain ⟨h1, h2, h3⟩ := h d (List.mem_cons_self ..)
    obtain ⟨k1, k2, k3⟩ := okL_aux xs fun e he => h e (List.mem_cons_of_mem _ he)
    refine ⟨by rw [D.datL, h1, k1]; rfl, by rw [D.pdL, PyData.canLayAll0, h2, k2]; rfl, by rw [D.pdL, PyData.depthAll]; exact Nat.max_le.mpr ⟨h3, k3⟩⟩
theorem ok_lst {n : Nat} {o : Bool} {xs : List D} (h : ∀ d ∈ xs, D.ok n d) : D.ok (n + 1) (.lst o xs) := by
  obtain ⟨k1, k2, k3⟩ := okL_aux xs h
  exact ⟨by rw [D.dat]; exact k1, by rw [D.pd, PyData.canLay0]; exact k2, by rw [D.pd, PyData.depth]; omega⟩
theorem ok_tup {n : Nat} {xs : List D} (h : ∀ d ∈ xs, D.ok n d) : D.ok (n + 1) (.tup xs) := by
  obtain ⟨k1, k2, k3⟩ := okL_aux xs h
  exact ⟨by rw [D.dat]; exact k1, by rw [D.pd, PyData.canLay0]; exact k2, by rw [D.pd, PyData.depth]; omega⟩
theorem ok_ints {n : Nat} {o : Bool} {ns : List Int} : D.ok (n + 1) (.lst o (ns.map D.int)) := ok_lst fun d hd => by
  obtain ⟨i, _, rfl⟩ := List.mem_map.mp hd
  exact ok_int
theorem ok_shaped {d : D} (h : D.ok 64 d) : SeqAt.shaped d.pd = true := by
  unfold SeqAt.shaped
  rw [h.2.1, decide_eq_true h.2.2]
  rfl
theorem gEq_data {d e : D} (hs : sEq d e = none) (h1 : D.ok 64 d) (h2 : D.ok 64 e) : gEq d e = some (.bl (PyData.eqv d.pd e.pd)) := by
  rw [vv_eqG hs, if_pos ⟨h1.1, h2.1, ok_shaped h1, ok_shaped h2⟩]
theorem gNe_data {d e : D} (hs : sEq d e = none) (h1 : D.ok 64 d) (h2 : D.ok 64 e) : gNe d e = some (.bl (!PyData.eqv d.pd e.pd)) := by
  rw [vv_neG hs, if_pos ⟨h1.1, h2.1, ok_shaped h1, ok_shaped h2⟩]
theorem gEq_same {o o' : Bool} {xs : List D} (h : D.ok 64 (.lst o xs)) : gEq (.lst o xs) (.lst o' xs) = some (.bl true) := by
  have h' : D.ok 64 (.lst o' xs) := by obtain ⟨a, b, c⟩ := h; rw [D.dat] at a; rw [D.pd] at b c; exact ⟨by rw [D.dat]; exact a, by rw [D.pd]; exact b, by rw [D.pd]; exact c⟩
  rw [gEq_data rfl h h']
  show some (D.bl (PyData.eqv (D.pd (.lst o xs)) (D.pd (.lst o' xs)))) = _
  rw [show D.pd (.lst o' xs) = D.pd (.lst o xs) by rw [D.pd, D.pd], SeqAt.eqv_refl _ h.2.1]
theorem gNe_same {o o' : Bool} {xs : List D} (h : D.ok 64 (.lst o xs)) : gNe (.lst o xs) (.lst o' xs) = some (.bl false) := by
  have h' : D.ok 64 (.lst o' xs) := by obtain ⟨a, b, c⟩ := h; rw [D.dat] at a; rw [D.pd] at b c; exact ⟨by rw [D.dat]; exact a, by rw [D.pd]; exact b, by rw [D.pd]; exact c⟩
  rw [gNe_data rfl h h']
  show some (D.bl (!PyData.eqv (D.pd (.lst o xs)) (D.pd (.lst o' xs)))) = _
  rw [show D.pd (.lst o' xs) = D.pd (.lst o xs) by rw [D.pd, D.pd], SeqAt.eqv_refl _ h.2.1]
  rfl
theorem gEq_nil {o o' : Bool} {xs : List D} (h : D.ok 64 (.lst o xs)) : gEq (.lst o xs) (.lst o' []) = some (.bl xs.isEmpty) := by
  rw [gEq_data rfl h (ok_lst (n := 63) (fun _ k => absurd k List.not_mem_nil))]
  cases xs with
  | nil => simp [D.pd, D.pdL, PyData.eqv, PyData.eqvAll]
  | cons d xs => simp [D.pd, D.pdL, PyData.eqv, PyData.eqvAll]
theorem gNe_nil {o o' : Bool} {xs : List D} (h : D.ok 64 (.lst o xs)) : gNe (.lst o xs) (.lst o' []) = some (.bl (!xs.isEmpty)) := by
  rw [gNe_data rfl h (ok_lst (n := 63) (fun _ k => absurd k List.not_mem_nil))]
  cases xs with
  | nil => simp [D.pd, D.pdL, PyData.eqv, PyData.eqvAll]
  | cons d xs => simp [D.pd, D.pdL, PyData.eqv, PyData.eqvAll]
/-! ### loops over a list that stays -/
theorem frz_at {xs : List D} {k : Nat} {d : D} (h : D.frzL xs = true) (e : xs[k]? = some d) : d.frz = true := by
  rw [D.frzL_all] at h
  exact List.all_eq_true.mp h d (List.mem_of_getElem? e)
theorem itD_at {xs : List D} (hz : D.frzL xs = true) (k : Nat) : (match xs[k]? with
    | some c => if c.frz = true then some (some c) else none
    | none => some none) = some xs[k]? := by
  cases e : xs[k]? with
  | none => rfl
  | some d => exact if_pos (frz_at hz e)
theorem itK_tup {ρ : Ev} {i : Nat} {xs : List D} (h : ρ.getD i .any = .tup xs) (hz : D.frzL xs = true) (k : Nat) : itK isT (.sl i) k ρ = some xs[k]? := by
  unfold itK
  show (if isT (ρ.getD i .any) = true then itD (ρ.getD i .any) k else none) = _
  rw [h, if_pos (show isT (.tup xs) = true from rfl)]
  exact itD_at hz k
theorem itK_tm {ρ : Ev} {o : Bool} {xs : List D} (hz : D.frzL xs = true) (k : Nat) : itK isL (.tm (.lst o xs)) k ρ = some xs[k]? := by
  unfold itK
  show (if isL (.lst o xs) = true then itD (.lst o xs) k else none) = _
  rw [if_pos (show isL (.lst o xs) = true from rfl)]
  exact itD_at hz k
theorem itK_lst {ρ : Ev} {i : Nat} {o : Bool} {xs : List D} (h : ρ.getD i .any = .lst o xs) (hz : D.frzL xs = true) (k : Nat) : itK isL (.sl i) k ρ = some xs[k]? := by
  unfold itK
  show (if isL (ρ.getD i .any) = true then itD (ρ.getD i .any) k else none) = _
  rw [h, if_pos (show isL (.lst o xs) = true from rfl)]
  exact itD_at hz k
theorem itK_tmT {ρ : Ev} {xs : List D} (hz : D.frzL xs = true) (k : Nat) : itK isT (.tm (.tup xs)) k ρ = some xs[k]? := by
  unfold itK
  show (if isT (.tup xs) = true then itD (.tup xs) k else none) = _
  rw [if_pos (show isT (.tup xs) = true from rfl)]
  exact itD_at hz k
end Mv
end
section
set_option Elab.async false
set_option linter.all false
set_option maxRecDepth 100000
/-! Reckoning: slices, enumerate, zip, reversed, range of three, chains, methods. -/
namespace Mv
open PySem PySem.Spec PyProof.Rows L2
section
variable {x0 : D} {ρ : Ev}
theorem W_pN {Q : Option Int × Ev → Prop} : W (pN (x0 :: ρ)) Q = Q (none, x0 :: ρ) := W_some
theorem W_pS {f : Ev → Option (Hd × Ev)} {Q : Option Int × Ev → Prop} : W (pS f (x0 :: ρ)) Q = W (f (x0 :: ρ)) fun p => W (match p.1.get p.2 with
  | .int i => some (some i, p.2)
  | _ => none) Q := W_bind
theorem W_eSl {fe : Ev → Option (Hd × Ev)} {fl fh : Ev → Option (Option Int × Ev)} {Q : D × Ev → Prop} : W (eSl fe fl fh (x0 :: ρ)) Q = W (fe (x0 :: ρ)) fun p => W (fl p.2) fun q => W (fh q.2) fun r => W (gSl (p.1.get r.2) q.1 r.1) fun d => Q (d, r.2) := by
  unfold eSl
  rw [W_bind]
  congr 1
  funext p
  rw [W_bind]
  congr 1
  funext q
  rw [W_bind]
  congr 1
  funext r
  rw [W_map]
theorem W_iEn {fa : Ev → Option (List Hd × Ev)} {Q : Src × Ev → Prop} : W (iEn fa (x0 :: ρ)) Q = W (fa (x0 :: ρ)) fun p => W (match p.1 with
  | [h] => if isL (h.get p.2) = true then some (itE h, p.2) else none
  | _ => none) Q := W_bind
theorem W_iZp {fa : Ev → Option (List Hd × Ev)} {Q : Src × Ev → Prop} : W (iZp fa (x0 :: ρ)) Q = W (fa (x0 :: ρ)) fun p => W (match p.1 with
  | [h, h'] => if isL (h.get p.2) = true ∧ isL (h'.get p.2) = true then some (itZ h h', p.2) else none
  | _ => none) Q := W_bind
theorem W_iRv {fa : Ev → Option (List Hd × Ev)} {Q : Src × Ev → Prop} : W (iRv fa (x0 :: ρ)) Q = W (fa (x0 :: ρ)) fun p => W (match p.1 with
  | [h] => if isL (h.get p.2) = true then some (itV (lenL (h.get p.2)) h, p.2) else none
  | _ => none) Q := W_bind
theorem W_iRg3 {fa : Ev → Option (List Hd × Ev)} {Q : Src × Ev → Prop} : W (iRg3 fa (x0 :: ρ)) Q = W (fa (x0 :: ρ)) fun p => W (match p.1.map (Hd.get p.2) with
  | [.int i, .int j, .int c] => if c ≠ 0 ∧ c.natAbs < 1073741824 ∧ Builtin.Range.small i j c = true then some (itR i c (Builtin.Range.rangeSize i j c).toNat, p.2) else none
  | _ => none) Q := W_bind
theorem W_iRgV {f : Ev → Option (Hd × Ev)} {Q : Src × Ev → Prop} : W (iRgV f (x0 :: ρ)) Q = W (f (x0 :: ρ)) fun p => W (match p.1.get p.2 with
  | .rng lo hi => if -(2 ^ 62) ≤ lo ∧ lo < 2 ^ 62 ∧ -(2 ^ 62) ≤ hi ∧ hi < 2 ^ 62 then some (itR lo 1 (hi - lo).toNat, p.2) else none
  | _ => none) Q := W_bind
def chIf (g' : D → D → Option D) (fc : Ev → Option (Hd × Ev)) (q : Hd × Ev) (d : D) : Option (D × Ev) := match d with
  | .bl b => if b = true then (fc q.2).bind fun r => (g' (q.1.get r.2) (r.1.get r.2)).map fun d => (d, r.2) else some (.bl false, q.2)
  | _ => none
theorem W_chIf {g' : D → D → Option D} {fc : Ev → Option (Hd × Ev)} {q : Hd × Ev} {b : Bool} {Q : D × Ev → Prop} : W (chIf g' fc q (.bl b)) Q = if b = true then W (fc q.2) fun r => W (g' (q.1.get r.2) (r.1.get r.2)) fun d => Q (d, r.2) else Q (.bl false, q.2) := by
  unfold chIf
  cases b with
  | true =>
    show W ((fc q.2).bind _) Q = W (fc q.2) _
    rw [W_bind]
    congr 1
    funext r
    rw [W_map]
  | false => exact W_some
theorem W_eCh {g g' : D → D → Option D} {fa fb fc : Ev → Option (Hd × Ev)} {Q : D × Ev → Prop} : W (eCh g g' fa fb fc (x0 :: ρ)) Q = W (fa (x0 :: ρ)) fun p => W (fb p.2) fun q => W (g (p.1.get q.2) (q.1.get q.2)) fun d => W (chIf g' fc q d) Q := by
  unfold eCh
  rw [W_bind]
  congr 1
  funext p
  rw [W_bind]
  congr 1
  funext q
  rw [W_bind]
  rfl
end
section
variable {x : Str} {xs ys : List D} {o o' : Bool} {i j k : Int} {lo hi : Option Int}
theorem vv_slL : gSl (.lst o xs) lo hi = if D.frzL xs = true then some (.lst true (cutD xs lo hi)) else none := rfl
theorem vv_slS : gSl (.str x) lo hi = if x.length ≤ 16777216 then some (.str (cutS x lo hi)) else none := rfl
theorem vv_slT : gSl (.tup xs) lo hi = if D.frzL xs = true ∧ ¬ (HT.sIx xs.length 0 lo = 0 ∧ HT.sIx xs.length xs.length hi = xs.length) then some (.tup (cutD xs lo hi)) else none := rfl
theorem vv_index : gIndex [.lst o xs, .int k] = (ints? xs).bind fun ns => if k ∈ ns then some (.int (ns.idxOf k : Nat)) else none := rfl
theorem vv_count : gCount [.lst o xs, .int k] = (ints? xs).map fun ns => .int (ns.count k : Nat) := rfl
theorem isL_l : isL (.lst o xs) = true := rfl
theorem isL_c : isL (.cst xs) = true := rfl
theorem lenL_l : lenL (.lst o xs) = xs.length := rfl
theorem lenL_c : lenL (.cst xs) = xs.length := rfl
theorem vv_range : gRange [.int i, .int j] = some (.rng i j) := rfl
theorem kindL : kindD "list" (.lst o xs) = true := rfl
/-- the places that are walked: those of a list that stays -/
theorem itE_at {h : Hd} {ρ : Ev} {xs : List D} (hk : ∀ k, itK isL h k ρ = some xs[k]?) (k : Nat) : itE h k ρ = some ((xs.mapIdx fun k c => D.tup [.int (k : Nat), c])[k]?) := by
  unfold itE
  rw [hk k, List.getElem?_mapIdx]
  rfl
theorem itZ_at {h h' : Hd} {ρ : Ev} {xs ys : List D} (hx : ∀ k, itK isL h k ρ = some xs[k]?) (hy : ∀ k, itK isL h' k ρ = some ys[k]?) (k : Nat) : itZ h h' k ρ = some ((List.zipWith (fun c c' => D.tup [c, c']) xs ys)[k]?) := by
  unfold itZ
  rw [hx k, hy k, List.getElem?_zipWith]
  show some _ = some _
  congr 1
  cases xs[k]? <;> cases ys[k]? <;> rfl
end
end Mv
end
section
set_option Elab.async false
set_option linter.all false
set_option maxRecDepth 100000
set_option maxHeartbeats 4000000
namespace Mv
open PySem
local macro_rules | `(tactic| walk_at "ev") => `(tactic| try simp only [↓W_bCons, ↓W_bNil, ↓W_bBrk, ↓W_bCnt, ↓W_bExp, ↓W_bRet, ↓W_bRetN, ↓W_bIf, ↓W_bAsg, ↓W_bPar, ↓W_bAug, ↓W_eC, ↓W_eV, ↓W_eM, ↓W_hV, ↓W_hE, ↓W_eFz, ↓W_e1, ↓W_e2, ↓W_aNil, ↓W_aCons, ↓W_eN, ↓W_eTup, ↓W_eLst, ↓W_eCall, ↓W_eMut, ↓W_eMt, ↓W_eIf, ↓W_eAn, ↓W_eOr, ↓W_eNo, ↓W_eJ0, ↓W_eJ1, ↓W_tT, ↓W_tB, ↓W_tNo, ↓W_tAn, ↓W_tOr, ↓W_tAll, ↓W_gNm, ↓W_gsNil, ↓W_gsCons, ↓W_gTp, ↓W_gIx, ↓W_bFor, ↓W_bWhile, ↓W_iRg1, ↓W_iRg2, ↓W_iSq, ↓W_eLc, ↓W_bind, ↓W_map, ↓W_some, ↓W_none,
  Hd.get, List.getElem?_cons_zero, List.getElem?_cons_succ, List.getD_cons_zero, List.getD_cons_succ, List.set_cons_zero, List.set_cons_succ, List.length_cons, List.length_nil, List.map_cons, List.map_nil, List.replicate, List.cons_append, List.nil_append, Nat.reduceAdd, Nat.reduceSub, Nat.reduceLeDiff, Nat.zero_add,
  D.frz, D.frzL, D.fz, D.fzL, tru_b, tru_i, tru_n, tru_l, tru_t, tru_c, tms, lend, unlend, keepL, Option.map_some, Option.bind_some, Bool.and_true, Bool.true_and, Bool.not_true, Bool.not_false, ↓reduceIte, if_true, if_false, Bool.false_eq_true, true_and, and_true, ite_b,
  vv_add, vv_sub, vv_mul, vv_div, vv_mod, vv_pow, vv_shl, vv_shr, vv_neg, vv_lt, vv_le, vv_gt, vv_ge, vv_int, vv_intS, vv_intb, vv_abs, vv_gcd, vv_max2, vv_min2, vv_lenL, vv_lenC, vv_lenT, vv_idxL, vv_idxC, vv_idxT, vv_eqI, vv_eqB, vv_neI, vv_list, vv_listT, vv_tuple, vv_tupleT, vv_sum, vv_maxL, vv_minL, vv_strI, vv_app, vv_isNN, vv_isIN, vv_isSN, vv_isBN, vv_isLN, vv_isTN, vv_isBB, vv_isNB, vv_isIB, vv_isSB, vv_isLB, vv_isTB, vv_inNN, vv_inIN, vv_inSN, vv_inBN, vv_inLN, vv_inTN, vv_inBB, atF0, atF1, atF2, atF3, atF4, atF5, okI, okB, okS, okN, okL, ix0, ix1, ix2, frzL_int, fzL_int, intsD_map, isiI_int, isiI_str, isiI_bool, isiI_list, isiI_tuple, isiS_int, isiS_str, isiS_bool, isiS_list, isiS_tuple, isiB_int, isiB_str, isiB_bool, isiB_list, isiB_tuple, isiL_int, isiL_str, isiL_bool, isiL_list, isiL_tuple, isiT_int, isiT_str, isiT_bool, isiT_list, isiT_tuple, isiN_int, isiN_str, isiN_bool, isiN_list, isiN_tuple])
namespace PreA
noncomputable def d_law_cell : Ev → Option Out := bCons (bIf (tB' (e2 gLt (hV 1) (hE (eN gLen (aCons (hV 0) aNil))))) (bRet (e2 gIdx (hV 0) (hV 1))) (bNil)) (bRet (eC (.int 0)))
noncomputable def F_law_cell : List D → Option (D × List D) := fnD [true, true] 2 d_law_cell
noncomputable def d_law_digits : Ev → Option Out := bCons (bAsg (eLst (aNil)) (gNm 3)) (bCons (bFor (iRg2 (aCons (hV 1) (aCons (hV 2) aNil))) (gNm 4) (bCons (bAsg (eCall 2 F_law_cell (aCons (hV 0) (aCons (hV 4) aNil))) (gNm 5)) (bCons (bIf (tB' (e2 gLt (hV 5) (hE (eC (.int 0))))) (bAsg (e2 gSubt (hE (eC (.int 1))) (hE (e2 gMul (hE (eC (.int 2))) (hV 5)))) (gNm 5)) (bNil)) (bIf (tB' (e2 gGe (hV 5) (hE (e2 gPow (hE (eC (.int 10))) (hE (eC (.int 18))))))) (bFor (iRg1 (aCons (hE (eC (.int 60))) aNil)) (gNm 6) (bIf (tB' (e2 gGt (hV 5) (hE (eC (.int 0))))) (bCons (bExp (eMut 3 gApp (aCons (hE (e2 gMod (hE (eN gInt (aCons (hV 5) aNil))) (hE (eC (.int 1000))))) aNil))) (bAsg (e2 gDiv (hV 5) (hE (eC (.int 1000)))) (gNm 5))) (bNil))) (bCons (bAsg (e2 gMod (hE (eN gInt (aCons (hE (e2 gAdd (hE (e2 gAdd (hE (e2 gMul (hV 5) (hE (eC (.int 48271))))) (hE (e2 gMul (hV 4) (hE (eC (.int 69621))))))) (hE (eC (.int 11))))) aNil))) (hE (eC (.int 2147483647)))) (gNm 7)) (bFor (iRg1 (aCons (hE (eC (.int 12))) aNil)) (gNm 6) (bCons (bAsg (e2 gMod (hE (eN gInt (aCons (hE (e2 gAdd (hE (e2 gAdd (hE (e2 gMul (hV 7) (hE (eC (.int 16807))))) (hE (e2 gMul (hE (eC (.int 7))) (hV 6))))) (hE (eC (.int 1))))) aNil))) (hE (eC (.int 2147483647)))) (gNm 7)) (bExp (eMut 3 gApp (aCons (hE (e2 gMod (hE (eN gInt (aCons (hE (e2 gDiv (hV 7) (hE (eC (.int 997))))) aNil))) (hE (eC (.int 1000))))) aNil)))))))))) (bRet (eM 3)))
noncomputable def F_law_digits : List D → Option (D × List D) := fnD [true, true, true] 8 d_law_digits
noncomputable def d_law_draw : Ev → Option Out := bCons (bAsg (e2 gAdd (hE (e2 gIdx (hV 0) (hE (eC (.int 1))))) (hE (eC (.int 1)))) (gIx 0 (hE (eC (.int 1))))) (bCons (bIf (tB' (e2 gGt (hE (e2 gIdx (hV 0) (hE (eC (.int 1))))) (hE (eN gLen (aCons (hE (e2 gIdx (hV 0) (hE (eC (.int 0))))) aNil))))) (bRet (e2 gMod (hE (eN gInt (aCons (hE (e2 gAdd (hE (e2 gMul (hE (e2 gIdx (hV 0) (hE (eC (.int 1))))) (hE (eC (.int 7))))) (hE (eC (.int 3))))) aNil))) (hV 1))) (bNil)) (bRet (e2 gMod (hE (eN gInt (aCons (hE (e2 gIdx (hE (e2 gIdx (hV 0) (hE (eC (.int 0))))) (hE (e2 gSubt (hE (e2 gIdx (hV 0) (hE (eC (.int 1))))) (hE (eC (.int 1))))))) aNil))) (hV 1))))
noncomputable def F_law_draw : List D → Option (D × List D) := fnD [true, true] 2 d_law_draw
noncomputable def d_law_pick : Ev → Option Out := bRet (e2 gIdx (hV 1) (hE (e2 gMod (hE (eN gInt (aCons (hE (eCall 2 F_law_draw (aCons (hV 0) (aCons (hE (eC (.int 1000))) aNil)))) aNil))) (hE (eN gLen (aCons (hV 1) aNil))))))
noncomputable def F_law_pick : List D → Option (D × List D) := fnD [true, true] 2 d_law_pick
noncomputable def d_law_same (F0 : List D → Option (D × List D)) : Ev → Option Out := bCons (bIf (tB' (e2 (gIsB false) (hV 1) (hE (eC .non)))) (bRet (e2 (gIsB false) (hV 0) (hE (eC .non)))) (bNil)) (bCons (bIf (tB' (e2 (gIsB false) (hV 1) (hE (eC (.bl true))))) (bRet (e2 (gIsB false) (hV 0) (hE (eC (.bl true))))) (bNil)) (bCons (bIf (tB' (e2 (gIsB false) (hV 1) (hE (eC (.bl false))))) (bRet (e2 (gIsB false) (hV 0) (hE (eC (.bl false))))) (bNil)) (bCons (bIf (tT (hE (eN gIsi (aCons (hV 1) (aCons (hE (eC (.ty "str"))) aNil))))) (bRet (eAn (eN gIsi (aCons (hV 0) (aCons (hE (eC (.ty "str"))) aNil))) (e2 gEq (hE (eN gRepr (aCons (hV 0) aNil))) (hE (eN gRepr (aCons (hV 1) aNil)))))) (bNil)) (bCons (bIf (tT (hE (eN gIsi (aCons (hV 1) (aCons (hE (eC (.ty "int"))) aNil))))) (bRet (eAn (eN gIsi (aCons (hV 0) (aCons (hE (eC (.ty "int"))) aNil))) (eAn (eNo (eN gIsi (aCons (hV 0) (aCons (hE (eC (.ty "bool"))) aNil)))) (e2 gEq (hE (eN gRepr (aCons (hV 0) aNil))) (hE (eN gRepr (aCons (hV 1) aNil))))))) (bNil)) (bCons (bIf (tOr' (tAn (tT (hE (eN gIsi (aCons (hV 1) (aCons (hE (eC (.ty "tuple"))) aNil))))) (tNo (tT (hE (eN gIsi (aCons (hV 0) (aCons (hE (eC (.ty "tuple"))) aNil))))))) (tAn (tT (hE (eN gIsi (aCons (hV 1) (aCons (hE (eC (.ty "list"))) aNil))))) (tNo (tT (hE (eN gIsi (aCons (hV 0) (aCons (hE (eC (.ty "list"))) aNil)))))))) (bRet (eC (.bl false))) (bNil)) (bCons (bIf (tB' (e2 gNe (hE (eN gLen (aCons (hV 0) aNil))) (hE (eN gLen (aCons (hV 1) aNil))))) (bRet (eC (.bl false))) (bNil)) (bCons (bFor (iRg1 (aCons (hE (eN gLen (aCons (hV 1) aNil))) aNil)) (gNm 2) (bIf (tNo (tT (hE (eCall 2 F0 (aCons (hE (e2 gIdx (hV 0) (hV 2))) (aCons (hE (e2 gIdx (hV 1) (hV 2))) aNil)))))) (bRet (eC (.bl false))) (bNil))) (bRet (eC (.bl true))))))))))
noncomputable def S_law_same (F0 : List D → Option (D × List D)) : List D → Option (D × List D) := fnD [true, true] 3 (d_law_same F0)
noncomputable def R_law_same : Nat → List D → Option (D × List D)
  | 0 => fun _ => none
  | n + 1 => S_law_same (R_law_same n)
noncomputable def F_law_same : List D → Option (D × List D) := R_law_same 8
end PreA
namespace PreA
def cellV (ns : List Int) (k : Int) : Int := if k < ns.length then ns.getD k.toNat 0 else 0
theorem cell_ok {ns : List Int} {k : Int} (hk : 0 ≤ k) : F_law_cell [.cst (ns.map D.int), .int k] = some (.int (cellV ns k), [.cst (ns.map D.int), .int k]) := by
  apply of_W
  unfold F_law_cell
  rw [W_fnD rfl]
  unfold d_law_cell
  walk_at "ev"
  rw [List.length_map]
  split
  · rename_i h
    obtain ⟨n, rfl⟩ := Int.eq_ofNat_of_zero_le hk
    have hn : n < ns.length := by omega
    rw [atF_nat, List.getElem?_map, List.getElem?_eq_getElem hn]
    show W (okD (.int ns[n])) _
    rw [okI, W_some]
    unfold cellV
    rw [if_pos h]
    simp [hn]
  · rename_i h
    unfold cellV
    rw [if_neg h]
/-- the box behind n draws -/
abbrev bx (ds : List Int) (n : Int) : D := .lst true [.lst false (ds.map D.int), .int n]
def drw (ds : List Int) (n m : Int) : Int := if (ds.length : Int) < n + 1 then ((n + 1) * 7 + 3) % m else ds.getD n.toNat 0 % m
theorem drw_nn {ds : List Int} {n m : Int} (hm : 0 < m) : 0 ≤ drw ds n m := by
  unfold drw
  split <;> exact Int.emod_nonneg _ (by omega)
theorem drw_lt {ds : List Int} {n m : Int} (hm : 0 < m) : drw ds n m < m := by
  unfold drw
  split <;> exact Int.emod_lt_of_pos _ hm
theorem draw_ok {ds : List Int} {n m : Int} (hn : 0 ≤ n) (hm : 0 < m) : F_law_draw [bx ds n, .int m] = some (.int (drw ds n m), [bx ds (n + 1), .int m]) := by
  apply of_W
  unfold F_law_draw bx
  rw [W_fnD rfl]
  unfold d_law_draw
  walk_at "ev"
  rw [List.length_map]
  unfold drw
  split
  · rename_i h
    rw [W_ok (MulOk.right (by decide))]
    walk_at "ev"
    rw [W_ok hm]
  · rename_i h
    obtain ⟨k, rfl⟩ := Int.eq_ofNat_of_zero_le hn
    have hk : k < ds.length := by omega
    rw [Int.add_sub_cancel, atF_nat, List.getElem?_map, List.getElem?_eq_getElem hk]
    show W (okD (.int ds[k])) _
    rw [okI, W_some]
    walk_at "ev"
    rw [W_ok hm]
    simp [hk]
theorem pick_ok {ds : List Int} {n : Int} {o : Bool} {xs : List D} (hn : 0 ≤ n) (hx : xs ≠ []) : ∃ j, ∃ h : j < xs.length, F_law_pick [bx ds n, .lst o xs] = (okD xs[j]).map fun x => (x, [bx ds (n + 1), .lst o xs]) := by
  have hl : (0 : Int) < xs.length := by
    cases xs with
    | nil => exact absurd rfl hx
    | cons _ _ => simp
  obtain ⟨j, hj⟩ := Int.eq_ofNat_of_zero_le (show 0 ≤ drw ds n 1000 % (xs.length : Int) from Int.emod_nonneg _ (by omega))
  have hj2 : j < xs.length := by
    have := Int.emod_lt_of_pos (drw ds n 1000) hl
    omega
  refine ⟨j, hj2, ?_⟩
  have key : ∀ (Q : D × List D → Prop), W (F_law_pick [bx ds n, .lst o xs]) Q = W (okD xs[j]) fun x => Q (x, [bx ds (n + 1), .lst o xs]) := fun Q => by
    unfold F_law_pick
    rw [W_fnD rfl]
    unfold d_law_pick
    walk_at "ev"
    have e := draw_ok (ds := ds) (n := n) (m := 1000) hn (by decide)
    unfold bx at e ⊢
    walk_at "ev"
    rw [W_eq e]
    cases o <;> (walk_at "ev"; rw [W_ok hl]; walk_at "ev"; rw [hj, atF_nat, List.getElem?_eq_getElem hj2]; rfl)
  cases h : okD xs[j] with
  | some x =>
    apply of_W
    rw [key, h, W_some]
  | none =>
    cases h2 : F_law_pick [bx ds n, .lst o xs] with
    | none => rfl
    | some r =>
      have := key fun _ => True
      rw [h, h2, W_some, W_none] at this
      exact absurd trivial (by rw [this]; exact fun z => z)
noncomputable def digRest : Ev → Option Out := bIf (tB' (e2 gGe (hV 5) (hE (e2 gPow (hE (eC (D.int 10))) (hE (eC (D.int 18)))))))
                (bFor (iRg1 (aCons (hE (eC (D.int 60))) aNil)) (gNm 6)
                  (bIf (tB' (e2 gGt (hV 5) (hE (eC (D.int 0)))))
                    (bCons (bExp (eMut 3 gApp (aCons (hE (e2 gMod (hE (eN gInt (aCons (hV 5) aNil))) (hE (eC (D.int 1000))))) aNil)))
                      (bAsg (e2 gDiv (hV 5) (hE (eC (D.int 1000)))) (gNm 5))) bNil))
                (bCons (bAsg (e2 gMod (hE (eN gInt (aCons (hE (e2 gAdd (hE (e2 gAdd (hE (e2 gMul (hV 5) (hE (eC (D.int 48271)))))
                                    (hE (e2 gMul (hV 4) (hE (eC (D.int 69621))))))) (hE (eC (D.int 11))))) aNil))) (hE (eC (D.int 2147483647)))) (gNm 7))
                  (bFor (iRg1 (aCons (hE (eC (D.int 12))) aNil)) (gNm 6)
                    (bCons (bAsg (e2 gMod (hE (eN gInt (aCons (hE (e2 gAdd (hE (e2 gAdd (hE (e2 gMul (hV 7) (hE (eC (D.int 16807)))))
                                        (hE (e2 gMul (hE (eC (D.int 7))) (hV 6))))) (hE (eC (D.int 1))))) aNil))) (hE (eC (D.int 2147483647)))) (gNm 7))
                      (bExp (eMut 3 gApp (aCons (hE (e2 gMod (hE (eN gInt (aCons (hE (e2 gDiv (hV 7) (hE (eC (D.int 997))))) aNil))) (hE (eC (D.int 1000))))) aNil))))))
theorem digRest_ok {ns ds : List Int} {a b c : Int} {k : Nat} {x6 x7 : D} (hk : k ≤ 64) (hlen : ds.length ≤ 60 * k) (hds : ∀ d ∈ ds, 0 ≤ d ∧ d < 1000) (hc : 0 ≤ c) : W (digRest [.cst (ns.map D.int), .int a, .int b, .lst true (ds.map D.int), .int (a + k), .int c, x6, x7]) fun o => match o with
            | .nx ρ2 => ∃ (ds : List Int) (x4 x5 x6 x7 : D), ρ2 = [.cst (ns.map D.int), .int a, .int b, .lst true (ds.map D.int), x4, x5, x6, x7] ∧ ds.length ≤ 60 * (k + 1) ∧ (∀ d ∈ ds, 0 ≤ d ∧ d < 1000) ∧ (0 < k + 1 → ds ≠ [])
            | _ => False := by
  unfold digRest
  walk_at "ev"
  rw [W_ok (by decide)]
  walk_at "ev"
  split
  · rename_i hbig
    rw [W_ok (by decide)]
    walk_at "ev"
    refine W_range (lo := 0) (n := 60) (fun j ρ => ∃ (es : List Int) (c' : Int) (x6 x7 : D), ρ = [.cst (ns.map D.int), .int a, .int b, .lst true (es.map D.int), .int (a + k), .int c', x6, x7] ∧ 0 ≤ c' ∧ (j = 0 → c' = c) ∧ es.length ≤ 60 * k + j ∧ (∀ d ∈ es, 0 ≤ d ∧ d < 1000) ∧ (0 < j → es ≠ [])) ⟨ds, c, _, _, rfl, hc, fun _ => rfl, hlen, hds, by simp⟩ ?_ ?_
    · rintro j ρ hj ⟨es, c', y6, y7, rfl, hc', h0, hl', hes, hne⟩
      walk_at "ev"
      split
      · rw [W_ok (by decide)]
        walk_at "ev"
        rw [List.length_map, W_ok (by have : j < 60 := hj; omega)]
        walk_at "ev"
        rw [W_ok (by decide)]
        refine ⟨es ++ [c' % 1000], c' / 1000, _, _, by rw [List.map_append]; rfl, by omega, by omega, by simp; omega, ?_, by simp⟩
        intro d hd
        rcases List.mem_append.mp hd with hd | hd
        · exact hes d hd
        · rw [List.mem_singleton] at hd
          omega
      · rename_i hpos
        refine ⟨es, c', _, _, rfl, hc', by omega, by omega, hes, fun _ => ?_⟩
        by_cases hj0 : j = 0
        · have := h0 hj0
          have hb2 : (10 : Int) ^ (18 : Int).toNat ≤ c := hbig
          have h18 : (10 : Int) ^ (18 : Int).toNat = 1000000000000000000 := by decide
          omega
        · exact hne (by omega)
    · rintro ρ ⟨es, c', y6, y7, rfl, hc', h0, hl', hes, hne⟩
      exact ⟨es, _, _, _, _, rfl, by omega, hes, fun _ => hne (by decide)⟩
  · rename_i hsmall
    rw [W_ok (MulOk.right (by decide))]
    walk_at "ev"
    rw [W_ok (MulOk.right (by decide))]
    walk_at "ev"
    rw [W_ok (by decide)]
    walk_at "ev"
    rw [W_ok (by decide)]
    walk_at "ev"
    refine W_range (lo := 0) (n := 12) (fun j ρ => ∃ (es : List Int) (s : Int) (x6 : D), ρ = [.cst (ns.map D.int), .int a, .int b, .lst true (es.map D.int), .int (a + k), .int c, x6, .int s] ∧ es.length ≤ 60 * k + j ∧ (∀ d ∈ es, 0 ≤ d ∧ d < 1000) ∧ (0 < j → es ≠ [])) ⟨ds, _, _, rfl, hlen, hds, by simp⟩ ?_ ?_
    · rintro j ρ hj ⟨es, s', y6, rfl, hl', hes, hne⟩
      walk_at "ev"
      rw [W_ok (MulOk.right (by decide))]
      walk_at "ev"
      rw [W_ok (MulOk.left (by decide))]
      walk_at "ev"
      rw [W_ok (by decide)]
      walk_at "ev"
      rw [W_ok (by decide)]
      walk_at "ev"
      rw [W_ok (by decide)]
      walk_at "ev"
      rw [List.length_map, W_ok (by have : j < 12 := hj; omega)]
      refine ⟨es ++ [_], _, _, by rw [List.map_append]; rfl, by simp; omega, ?_, by simp⟩
      intro d hd
      rcases List.mem_append.mp hd with hd | hd
      · exact hes d hd
      · rw [List.mem_singleton] at hd
        omega
    · rintro ρ ⟨es, s', y6, rfl, hl', hes, hne⟩
      exact ⟨es, _, _, _, _, rfl, by omega, hes, fun _ => hne (by decide)⟩
  
theorem digits_ok {ns : List Int} {a b : Int} (hn : ns.length ≤ 63) (ha : 0 ≤ a) (hab : a < b) (hb : b ≤ 64) : ∃ ds : List Int, ds ≠ [] ∧ (∀ d ∈ ds, 0 ≤ d ∧ d < 1000) ∧ F_law_digits [.cst (ns.map D.int), .int a, .int b] = some (.lst true (ds.map D.int), [.cst (ns.map D.int), .int a, .int b]) := by
  have key : W (F_law_digits [.cst (ns.map D.int), .int a, .int b]) fun r => ∃ ds : List Int, ds ≠ [] ∧ (∀ d ∈ ds, 0 ≤ d ∧ d < 1000) ∧ r = (.lst true (ds.map D.int), [.cst (ns.map D.int), .int a, .int b]) := by
    unfold F_law_digits
    rw [W_fnD rfl]
    unfold d_law_digits
    change W (bCons _ (bCons (bFor _ _ (bCons _ (bCons _ digRest))) _) _) _
    walk_at "ev"
    rw [W_ok (by omega)]
    walk_at "ev"
    refine W_range (lo := a) (n := (b - a).toNat) (fun k ρ => ∃ (ds : List Int) (x4 x5 x6 x7 : D), ρ = [.cst (ns.map D.int), .int a, .int b, .lst true (ds.map D.int), x4, x5, x6, x7] ∧ ds.length ≤ 60 * k ∧ (∀ d ∈ ds, 0 ≤ d ∧ d < 1000) ∧ (0 < k → ds ≠ [])) ⟨[], _, _, _, _, rfl, by simp, by simp, by simp⟩ ?_ ?_
    · rintro k ρ hk ⟨ds, x4, x5, x6, x7, rfl, hlen, hds, _⟩
      walk_at "ev"
      rw [W_eq (cell_ok (by omega))]
      walk_at "ev"
      generalize cellV ns (a + k) = c
      -- below 0
      by_cases hneg : c < 0
      · rw [if_pos hneg, W_ok (MulOk.left (by decide))]
        walk_at "ev"
        refine W_mono (digRest_ok (c := 1 - 2 * c) (by omega) hlen hds (by omega)) fun o ho => ?_
        cases o with
        | nx ρ2 => exact ho
        | _ => exact ho.elim
      · rw [if_neg hneg]
        refine W_mono (digRest_ok (by omega) hlen hds (by omega)) fun o ho => ?_
        cases o with
        | nx ρ2 => exact ho
        | _ => exact ho.elim
    · rintro ρ ⟨ds, x4, x5, x6, x7, rfl, hlen, hds, hne⟩
      walk_at "ev"
      exact ⟨ds, hne (by omega), hds, rfl⟩
  obtain ⟨r, e, ds, h1, h2, h3⟩ := key
  exact ⟨ds, h1, h2, by rw [e, h3]⟩
/-- alike, of nesting below n, all of a size that can be told -/
def Sm : Nat → D → D → Prop
  | 0, _, _ => False
  | n + 1, d, e => match d, e with
    | .non, .non => True
    | .bl a, .bl b => a = b
    | .int a, .int b => a = b ∧ a.natAbs < 2 ^ 1900
    | .str a, .str b => a = b ∧ (reprText a).length ≤ 16777216
    | .lst _ xs, .lst _ ys => xs.length = ys.length ∧ ys.length < 2 ^ 62 ∧ ∀ (k : Nat) (a b : D), xs[k]? = some a → ys[k]? = some b → Sm n a b ∧ a.frz = true ∧ b.frz = true
    | .tup xs, .tup ys => xs.length = ys.length ∧ ys.length < 2 ^ 62 ∧ ∀ (k : Nat) (a b : D), xs[k]? = some a → ys[k]? = some b → Sm n a b ∧ a.frz = true ∧ b.frz = true
    | _, _ => False
theorem loopL {F0 : List D → Option (D × List D)} {xs ys : List D} {q q' : Bool} (hl : xs.length = ys.length)
    (hF : ∀ (k : Nat) (a b : D), xs[k]? = some a → ys[k]? = some b → F0 [a, b] = some (.bl true, [a, b]) ∧ a.frz = true ∧ b.frz = true) {x2 : D} :
    W (lrun (fStep (itR 0 1 ys.length) (gNm 2) (bIf (tNo (tT (hE (eCall 2 F0 (aCons (hE (e2 gIdx (hV 0) (hV 2))) (aCons (hE (e2 gIdx (hV 1) (hV 2))) aNil)))))) (bRet (eC (.bl false))) (bNil))) [.lst q xs, .lst q' ys, x2]) fun o => match o with
      | .nx ρ => ∃ x2, ρ = [.lst q xs, .lst q' ys, x2]
      | _ => False := by
  refine W_range (fun k ρ => ∃ x2, ρ = [.lst q xs, .lst q' ys, x2]) ⟨_, rfl⟩ ?_ ?_
  · rintro k ρ hk ⟨x2, rfl⟩
    have h1 : k < xs.length := by omega
    obtain ⟨e1, e2, e3⟩ := hF k xs[k] ys[k] (List.getElem?_eq_getElem h1) (List.getElem?_eq_getElem hk)
    walk_at "ev"
    rw [Int.zero_add, atF_nat, List.getElem?_eq_getElem h1]
    show W (okD xs[k]) _
    rw [okD_of e2, W_some]
    walk_at "ev"
    rw [atF_nat, List.getElem?_eq_getElem hk]
    show W (okD ys[k]) _
    rw [okD_of e3, W_some]
    walk_at "ev"
    rw [W_eq e1]
    walk_at "ev"
    exact ⟨_, rfl⟩
  · rintro ρ ⟨x2, rfl⟩
    exact ⟨_, rfl⟩
theorem loopT {F0 : List D → Option (D × List D)} {xs ys : List D}  (hl : xs.length = ys.length)
    (hF : ∀ (k : Nat) (a b : D), xs[k]? = some a → ys[k]? = some b → F0 [a, b] = some (.bl true, [a, b]) ∧ a.frz = true ∧ b.frz = true) {x2 : D} :
    W (lrun (fStep (itR 0 1 ys.length) (gNm 2) (bIf (tNo (tT (hE (eCall 2 F0 (aCons (hE (e2 gIdx (hV 0) (hV 2))) (aCons (hE (e2 gIdx (hV 1) (hV 2))) aNil)))))) (bRet (eC (.bl false))) (bNil))) [.tup xs, .tup ys, x2]) fun o => match o with
      | .nx ρ => ∃ x2, ρ = [.tup xs, .tup ys, x2]
      | _ => False := by
  refine W_range (fun k ρ => ∃ x2, ρ = [.tup xs, .tup ys, x2]) ⟨_, rfl⟩ ?_ ?_
  · rintro k ρ hk ⟨x2, rfl⟩
    have h1 : k < xs.length := by omega
    obtain ⟨e1, e2, e3⟩ := hF k xs[k] ys[k] (List.getElem?_eq_getElem h1) (List.getElem?_eq_getElem hk)
    walk_at "ev"
    rw [Int.zero_add, atF_nat, List.getElem?_eq_getElem h1]
    show W (okD xs[k]) _
    rw [okD_of e2, W_some]
    walk_at "ev"
    rw [atF_nat, List.getElem?_eq_getElem hk]
    show W (okD ys[k]) _
    rw [okD_of e3, W_some]
    walk_at "ev"
    rw [W_eq e1]
    walk_at "ev"
    exact ⟨_, rfl⟩
  · rintro ρ ⟨x2, rfl⟩
    exact ⟨_, rfl⟩
theorem same_ok : ∀ (n : Nat) (d e : D), Sm n d e → R_law_same n [d, e] = some (.bl true, [d, e])
  | 0, _, _, h => h.elim
  | n + 1, d, e, h => by
    apply of_W
    show W (S_law_same (R_law_same n) [d, e]) _
    unfold S_law_same
    rw [W_fnD rfl]
    unfold d_law_same
    unfold Sm at h
    split at h
    · walk_at "ev"
    · subst h
      rename_i a
      cases a <;> (walk_at "ev"; rfl)
    · obtain ⟨rfl, hz⟩ := h
      rename_i a
      have r : gRepr [.int a] = some (.str (toString a)) := if_pos hz
      walk_at "ev"
      simp only [r, vv_eqS, decide_true]
      walk_at "ev"
      simp only [r, vv_eqS, decide_true]
      walk_at "ev"
      done
    · obtain ⟨rfl, hz⟩ := h
      rename_i a
      have r : gRepr [.str a] = some (.str (reprText a)) := if_pos hz
      walk_at "ev"
      simp only [r, vv_eqS, decide_true]
      walk_at "ev"
      simp only [r, vv_eqS, decide_true]
      walk_at "ev"
      done
    · obtain ⟨hl, hz, hk⟩ := h
      rename_i o xs o' ys
      walk_at "ev"
      rw [hl]
      simp only [decide_true, Bool.not_true, if_false, Bool.false_eq_true]
      walk_at "ev"
      rw [W_ok (by omega)]
      walk_at "ev"
      rw [Int.toNat_natCast]
      refine W_mono (loopL hl fun k a b ha hb => ?_) fun o ho => ?_
      · obtain ⟨h1, h2, h3⟩ := hk k a b ha hb
        exact ⟨same_ok n a b h1, h2, h3⟩
      · cases o with
        | nx ρ =>
          obtain ⟨x2, rfl⟩ := ho
          walk_at "ev"
        | _ => exact ho.elim
    · obtain ⟨hl, hz, hk⟩ := h
      rename_i xs ys
      walk_at "ev"
      rw [hl]
      simp only [decide_true, Bool.not_true, if_false, Bool.false_eq_true]
      walk_at "ev"
      rw [W_ok (by omega)]
      walk_at "ev"
      rw [Int.toNat_natCast]
      refine W_mono (loopT hl fun k a b ha hb => ?_) fun o ho => ?_
      · obtain ⟨h1, h2, h3⟩ := hk k a b ha hb
        exact ⟨same_ok n a b h1, h2, h3⟩
      · cases o with
        | nx ρ =>
          obtain ⟨x2, rfl⟩ := ho
          walk_at "ev"
        | _ => exact ho.elim
    · exact h.elim
theorem pick_int {ds : List Int} {n : Int} {o : Bool} (ks : List Int) (hn : 0 ≤ n) (hk : ks ≠ []) : ∃ k ∈ ks, F_law_pick [bx ds n, .lst o (ks.map D.int)] = some (.int k, [bx ds (n + 1), .lst o (ks.map D.int)]) := by
  obtain ⟨j, hj, e⟩ := pick_ok (ds := ds) (n := n) (o := o) (xs := ks.map D.int) hn (by simpa using hk)
  have hj2 : j < ks.length := by simpa using hj
  refine ⟨ks[j], List.getElem_mem hj2, ?_⟩
  rw [e, List.getElem_map]
  rfl
theorem frz_bx {ds : List Int} {n : Int} : (bx ds n).frz = false := rfl
end PreA
end Mv
end
section
/-! more operations: x += y on numbers and texts -/
namespace Mv
open PySem PySem.Spec PyProof.Rows L2
def gAug : D → D → Option D := fun a b => match a, b with
  | .int i, .int j => some (.int (i + j))
  | .str x, .str y => if x.length + y.length ≤ 16777216 then some (.str (x ++ y)) else none
  | _, _ => none
def rAug : R2 := rOr (rI0 fun i j => .int (i + j)) (fun x y H Q => ∃ i j, x = .str i ∧ y = .str j ∧ i.length + j.length ≤ sizeLine ∧ Q (.str (i ++ j)) H)
theorem ip_addA {X : Cx} : PIp X .Add rAug := OpR.or iop_add iop_add_str
theorem o2_ipAdd {K : Frg} : Op2 K rAug gAug := by
  intro x y H dx dy l Q d hi mx my hg q
  unfold gAug at hg
  split at hg
  · rename_i i j
    cases hg
    exact .inl ⟨i, j, hi.view mx, hi.view my, q _ H (hi.add rfl fun _ _ => rfl)⟩
  · rename_i a b
    split at hg
    · rename_i c
      cases hg
      exact .inr ⟨a, b, hi.view mx, hi.view my, by rw [sizeLine_eq]; exact c, q _ H (hi.add rfl fun _ _ => rfl)⟩
    · cases hg
  · cases hg
theorem ip_subA {X : Cx} : PIp X .Sub (rI0 fun i j => .int (i - j)) := iop_sub
variable {i j : Int} {x y : Str}
theorem vv_augI : gAug (.int i) (.int j) = some (.int (i + j)) := rfl
theorem vv_augS : gAug (.str x) (.str y) = if x.length + y.length ≤ 16777216 then some (.str (x ++ y)) else none := rfl
end Mv
end
section
set_option Elab.async false
set_option linter.all false
set_option maxRecDepth 100000
/-! more operations: in, not in, pop, reverse, extend, count -/
namespace Mv
open PySem PySem.Spec PyProof.Rows L2
/-! ### in -/
def inD (a : D) (xs : List D) : Bool := (D.pdL xs).any fun z => PyData.eqv z a.pd
def gIn (neg : Bool) : D → D → Option D := fun a b => match b with
  | .lst _ xs => if a.dat = true ∧ D.datL xs = true ∧ SeqAt.shaped a.pd = true ∧ SeqAt.shaped (.list (D.pdL xs)) = true then some (.bl (if neg = true then !inD a xs else inD a xs)) else none
  | _ => none
theorem op_inA {X : Cx} (hu : X.A.units + 65 < cLine) : OpR X (compareOp .In) (rInD X.K) := op_inD hu
theorem op_notInA {X : Cx} (hu : X.A.units + 65 < cLine) : OpR X (compareOp .NotIn) (rNotInD X.K) := op_notInD hu
theorem o2_in {K : Frg} : Op2 K (rInD K) (gIn false) := by
  intro x y H dx dy l Q d hi mx my hg q
  unfold gIn at hg
  split at hg
  · rename_i o xs
    split at hg
    · rename_i c
      cases hg
      have hy := Fz.dp (.lst o xs) _ (by rw [D.dat]; exact c.2.1) (hi.view my)
      rw [D.pd] at hy
      exact ⟨_, _, Fz.dp _ _ c.1 (hi.view mx), hy, c.2.2.1, c.2.2.2, q _ H (hi.add rfl fun _ _ => rfl)⟩
    · cases hg
  · cases hg
theorem o2_notIn {K : Frg} : Op2 K (rNotInD K) (gIn true) := by
  intro x y H dx dy l Q d hi mx my hg q
  unfold gIn at hg
  split at hg
  · rename_i o xs
    split at hg
    · rename_i c
      cases hg
      have hy := Fz.dp (.lst o xs) _ (by rw [D.dat]; exact c.2.1) (hi.view my)
      rw [D.pd] at hy
      exact ⟨_, _, Fz.dp _ _ c.1 (hi.view mx), hy, c.2.2.1, c.2.2.2, q _ H (hi.add rfl fun _ _ => rfl)⟩
    · cases hg
  · cases hg
/-! ### list.count over data -/
section
variable {X : Cx}
def rCntD (K : Frg) : V → List V → Hp → VK → Prop := fun x xs H Q => ∃ (a : Addr) (y : V) (d : PyData) (ds : List PyData), x = V.ref a ∧ xs = [y] ∧ Dp K H (V.ref a) (.list ds) ∧ Dp K H y d ∧
  SeqAt.shaped (.list ds) = true ∧ SeqAt.shaped d = true ∧ Q (.int ((ds.countP fun z => PyData.eqv z d : Nat) : Int)) H
theorem mt_countD (hu : X.A.units + 65 < cLine) : MtR X "list.count" (rCntD X.K) := by
  intro pins s σ H x xs v us Q I rx rxs h
  obtain ⟨a, y, d, ds, rfl, rfl, hl, hy, sl, sd, q⟩ := h
  cases rx
  cases rxs with
  | cons ry rt =>
    rename_i uy ut
    cases rt
    obtain ⟨bs, r1⟩ := Dp.reads I d y uy hy ry
    have hxs : PyData.canLayAll0 ds = true := SeqAt.canLay_of_shaped sl
    have hroom : X.A.units + 1 + min (PyData.depthAll ds) d.depth < cLine := room_in_shaped sd hu
    cases hl with
    | lst hs ha =>
      obtain ⟨its, rv, ⟨⟨cls, dd, data, sls⟩, n, ho, hc, hdn, hdt⟩, hlen⟩ := I.list hs
      simp only at hc hdt
      subst hc hdt
      obtain ⟨as, h4⟩ := Dp.readsAll I ds _ its ha rv
      have hmap : its.map (SeqAt.readOf s.heap) = ds := SeqAt.readsAll_map ds its as hxs h4
      refine call_meets PySem.F.slot_list_count ⟨_, ho, rfl⟩ PySem.F.entry_list_count (PySem.F.args_list_count_2 _ _)
        (SeqAt.list_countAt a its.toArray n dd sls uy (fun u => PyData.eqv (SeqAt.readOf s.heap u) d)) ⟨ho, SeqAt.items_eqAt (vs := its.toArray) (show ReadsAll s.heap its.toArray.toList ds as from h4) r1 hxs (SeqAt.canLay_of_shaped sd) hroom, ?_⟩
      have ec : its.toArray.toList.countP (fun u => PyData.eqv (SeqAt.readOf s.heap u) d) = ds.countP fun z => PyData.eqv z d := by
        rw [← hmap, List.countP_map]; rfl
      refine ⟨.int ((ds.countP fun z => PyData.eqv z d : Nat) : Int), H, I.tok _, ⟨s.toks, ?_⟩, q⟩
      show Value.int ((its.toArray.toList.countP (fun u => PyData.eqv (SeqAt.readOf s.heap u) d) : Nat) : Int) s.toks = _
      rw [ec]
end
def gCntD : List D → Option D := fun ds => match ds with
  | [.lst _ xs, a] => if a.dat = true ∧ D.datL xs = true ∧ SeqAt.shaped a.pd = true ∧ SeqAt.shaped (.list (D.pdL xs)) = true then some (.int (((D.pdL xs).countP fun z => PyData.eqv z a.pd : Nat) : Int)) else none
  | _ => none
theorem on_countD {K : Frg} : OpN K (fun xs H Q => ∃ x r', xs = x :: r' ∧ rCntD K x r' H Q) gCntD := by
  intro xs H ds l Q d hi hm hg q
  unfold gCntD at hg
  split at hg
  · rename_i o ys a
    split at hg
    · rename_i c
      cases hg
      cases hm with
      | cons m1 mr =>
        cases mr with
        | cons m2 mr =>
          cases mr
          rename_i x y
          obtain ⟨p, us, rfl, hs, hl, hz, _⟩ := hi.list m1
          have hy := Fz.dp (.lst o ys) _ (by rw [D.dat]; exact c.2.1) (hi.view m1)
          rw [D.pd] at hy
          exact ⟨_, _, rfl, p, y, _, _, rfl, rfl, hy, Fz.dp _ _ c.1 (hi.view m2), c.2.2.2, c.2.2.1, q _ H (hi.add rfl fun _ _ => rfl)⟩
    · cases hg
  · cases hg
/-! ### pop, reverse, extend -/
theorem prs_erase : ∀ {us : List V} {xs : List D} {k : Nat} {v : V} {d : D}, us.length = xs.length → us[k]? = some v → xs[k]? = some d → (prs us xs).Perm ((some v, d) :: prs (us.eraseIdx k) (xs.eraseIdx k))
  | [], _, _, _, _, _, h, _ => by cases h
  | u :: us, [], _, _, _, h, _, _ => by cases h
  | u :: us, x :: xs, 0, v, d, _, h1, h2 => by
    cases h1; cases h2
    exact List.Perm.refl _
  | u :: us, x :: xs, k + 1, v, d, hl, h1, h2 => by
    have i := prs_erase (us := us) (xs := xs) (k := k) (by simpa using hl) h1 h2
    show ((some u, x) :: prs us xs).Perm ((some v, d) :: (some u, x) :: prs (us.eraseIdx k) (xs.eraseIdx k))
    exact (List.Perm.cons _ i).trans (List.Perm.swap _ _ _)
def gPopAt : List D → List D → Option (D × List D) := fun xs ds => match ds with
  | [.int i] => if -(2 ^ 63) ≤ i ∧ i < 2 ^ 63 then (seqIndex? i xs.length).bind fun k => xs[k]?.map fun d => (d, xs.eraseIdx k) else none
  | _ => none
theorem mo_popAt {K : Frg} : MutOp K rPopAt gPopAt := by
  intro a vs H ds xs l Q d ys hlen hi hg q
  unfold gPopAt at hg
  split at hg
  · rename_i i
    split at hg
    · rename_i c
      obtain ⟨k, e1, hg⟩ := Option.bind_eq_some_iff.mp hg
      obtain ⟨d', e2, hg⟩ := Option.map_eq_some_iff.mp hg
      cases hg
      match vs, hlen with
      | [v], _ =>
        have hv : v = .int i := hi.view (List.mem_cons_of_mem _ List.mem_cons_self)
        subst hv
        obtain ⟨us, hs, hl, hop⟩ := hi.open
        have hk : k < us.length := by
          rw [hl]
          exact (List.getElem?_eq_some_iff.mp e2).1
        refine ⟨a, us, i, k, us[k], rfl, rfl, hs, c.1, c.2, by rw [hl]; exact e1, List.getElem?_eq_getElem hk, q _ _ ?_⟩
        have hp := prs_erase hl (List.getElem?_eq_getElem hk) e2
        have hcl : Items K [a] H (prs (us.eraseIdx k) (xs.eraseIdx k) ++ ((some us[k], d) :: l)) := by
          refine hop.sub ⟨prs [.int i] [.int i], ?_⟩
          refine (List.Perm.append hp (List.Perm.refl _)).trans ?_
          show ((some us[k], d) :: (prs (us.eraseIdx k) (xs.eraseIdx k) ++ ((some (.int i), .int i) :: l))).Perm ((some (.int i), .int i) :: (prs (us.eraseIdx k) (xs.eraseIdx k) ++ ((some us[k], d) :: l)))
          exact ((List.Perm.cons _ List.perm_middle).trans (List.Perm.swap _ _ _)).trans (List.Perm.cons _ List.perm_middle.symm)
        have hfin := Items.close hs (by rw [List.length_eraseIdx, List.length_eraseIdx, hl]) hcl
        exact hfin.perm (List.Perm.swap _ _ _)
    · cases hg
  · cases hg
def gPop : List D → List D → Option (D × List D) := fun xs ds => match ds with
  | [] => xs[xs.length - 1]?.map fun d => (d, xs.dropLast)
  | _ => none
theorem erase_last {α : Type} (l : List α) : l.eraseIdx (l.length - 1) = l.dropLast := by
  rw [List.dropLast_eq_take]
  by_cases h : l = []
  · subst h; rfl
  · have : 0 < l.length := List.length_pos_iff.mpr h
    rw [List.eraseIdx_eq_take_drop_succ, Nat.sub_add_cancel this, List.drop_length, List.append_nil]
theorem mo_pop {K : Frg} : MutOp K rPop gPop := by
  intro a vs H ds xs l Q d ys hlen hi hg q
  unfold gPop at hg
  split at hg
  · obtain ⟨d', e2, hg⟩ := Option.map_eq_some_iff.mp hg
    cases hg
    match vs, hlen with
    | [], _ =>
      obtain ⟨us, hs, hl, hop⟩ := hi.open
      have hk : us.length - 1 < us.length := by
        have := (List.getElem?_eq_some_iff.mp e2).1
        omega
      refine ⟨a, us, us[us.length - 1], rfl, rfl, hs, List.getElem?_eq_getElem hk, q _ _ ?_⟩
      have e2' : xs[us.length - 1]? = some d := by rw [hl]; exact e2
      have hp := prs_erase hl (List.getElem?_eq_getElem hk) e2'
      have ex : xs.eraseIdx (us.length - 1) = xs.dropLast := by rw [hl]; exact erase_last _
      rw [erase_last, ex] at hp
      have hcl : Items K [a] H (prs us.dropLast xs.dropLast ++ ((some (us[us.length - 1]'hk), d) :: l)) := by
        refine hop.perm ?_
        refine (List.Perm.append hp (List.Perm.refl _)).trans ?_
        exact List.perm_middle.symm
      have hfin := Items.close hs (by rw [List.length_dropLast, List.length_dropLast, hl]) hcl
      exact hfin.perm (List.Perm.swap _ _ _)
  · cases hg
def gRev : List D → List D → Option (D × List D) := fun xs ds => match ds with
  | [] => some (.non, xs.reverse)
  | _ => none
theorem prs_rev : ∀ {us : List V} {xs : List D}, us.length = xs.length → prs us.reverse xs.reverse = (prs us xs).reverse
  | [], [], _ => rfl
  | [], _ :: _, h => by simp at h
  | _ :: _, [], h => by simp at h
  | u :: us, x :: xs, h => by
    have hh : us.length = xs.length := by simpa using h
    rw [List.reverse_cons, List.reverse_cons, prs_app (by simp [hh]), prs_rev hh]
    show _ = ((some u, x) :: prs us xs).reverse
    rw [List.reverse_cons]
    rfl
theorem mo_rev {K : Frg} : MutOp K rReverse gRev := by
  intro a vs H ds xs l Q d ys hlen hi hg q
  unfold gRev at hg
  split at hg
  · cases hg
    match vs, hlen with
    | [], _ =>
      obtain ⟨us, hs, hl, hop⟩ := hi.open
      refine ⟨a, us, rfl, rfl, hs, q _ _ ?_⟩
      have hcl : Items K [a] H (prs us.reverse xs.reverse ++ l) := by
        rw [prs_rev hl]
        exact hop.perm (List.Perm.append (List.reverse_perm _).symm (List.Perm.refl _))
      exact (Items.close hs (by simp [hl]) hcl).add (d := .non) rfl fun _ _ => rfl
  · cases hg
def gExt : List D → List D → Option (D × List D) := fun xs ds => match ds with
  | [.lst _ zs] => if D.frzL zs = true ∧ xs.length + zs.length ≤ 16777216 then some (.non, xs ++ zs) else none
  | _ => none
theorem mo_ext {K : Frg} : MutOp K rExtend gExt := by
  intro a vs H ds xs l Q d ys hlen hi hg q
  unfold gExt at hg
  split at hg
  · rename_i o zs
    split at hg
    · rename_i c
      cases hg
      match vs, hlen with
      | [v], _ =>
        obtain ⟨b, ws, rfl, hb, lb, i2⟩ := hi.listAll (v := v) (b := o) (ds := zs) (List.mem_cons_of_mem _ List.mem_cons_self) c.1
        have i3 : Items K [] H ((some (.ref a), .lst true xs) :: (prs ws zs ++ (prs [.ref b] [.lst o zs] ++ l))) := i2.perm List.perm_middle
        obtain ⟨us, hs, hl, hop⟩ := i3.open
        refine ⟨a, b, us, ws, rfl, rfl, hs, hb, by rw [sizeLine_eq, hl, lb]; exact c.2, q _ _ ?_⟩
        have hcl : Items K [a] H (prs (us ++ ws) (xs ++ zs) ++ l) := by
          rw [prs_app hl, List.append_assoc]
          refine hop.sub ⟨prs [.ref b] [.lst o zs], ?_⟩
          exact (List.Perm.append_left _ List.perm_middle).trans List.perm_middle
        exact (Items.close hs (by simp [hl, lb]) hcl).add (d := .non) rfl fun _ _ => rfl
    · cases hg
  · cases hg
/-! ### of things told by an embedding -/
structure Emb {α : Type} [DecidableEq α] (f : α → D) : Prop where
  ok : ∀ x, D.ok 60 (f x)
  eq : ∀ x y, PyData.eqv (f x).pd (f y).pd = decide (x = y)
theorem emb_int : Emb D.int := ⟨fun _ => ok_int, fun x y => by
  rw [D.pd, D.pd]
  simp only [PyData.eqv]
  rfl⟩
section
variable {α : Type} [DecidableEq α] {f : α → D} (E : Emb f) {o o' : Bool}
include E
theorem emb_lok (l : List α) : D.ok 61 (.lst o (l.map f)) := ok_lst fun d hd => by
  obtain ⟨x, _, rfl⟩ := List.mem_map.mp hd
  exact E.ok x
theorem emb_shaped (l : List α) : D.datL (l.map f) = true ∧ SeqAt.shaped (.list (D.pdL (l.map f))) = true := by
  have h := ok_mono (emb_lok E (o := true) l) (show 61 ≤ 64 by decide)
  have h2 := ok_shaped h
  obtain ⟨h1, _, _⟩ := h
  rw [D.dat] at h1
  rw [D.pd] at h2
  exact ⟨h1, h2⟩
theorem pdL_map : ∀ l : List α, D.pdL (l.map f) = l.map fun x => (f x).pd
  | [] => by simp [D.pdL]
  | x :: l => by rw [List.map_cons, D.pdL, pdL_map l, List.map_cons]
theorem inD_map (x : α) (l : List α) : inD (f x) (l.map f) = decide (x ∈ l) := by
  unfold inD
  rw [pdL_map E]
  induction l with
  | nil => simp
  | cons y l ih =>
    rw [List.map_cons, List.any_cons, ih, E.eq]
    by_cases h : y = x
    · subst h; simp
    · have : ¬ x = y := fun z => h z.symm
      simp [h, this]
theorem gIn_map {neg : Bool} (x : α) (l : List α) : gIn neg (f x) (.lst o (l.map f)) = some (.bl (if neg = true then !decide (x ∈ l) else decide (x ∈ l))) := by
  have h1 := ok_mono (E.ok x) (show 60 ≤ 64 by decide)
  obtain ⟨h2, h3⟩ := emb_shaped E l
  unfold gIn
  show (if _ then _ else _) = _
  rw [inD_map E]
  exact if_pos ⟨h1.1, h2, ok_shaped h1, h3⟩
theorem gCnt_map (x : α) (l : List α) : gCntD [.lst o (l.map f), f x] = some (.int (l.count x : Nat)) := by
  have h1 := ok_mono (E.ok x) (show 60 ≤ 64 by decide)
  obtain ⟨h2, h3⟩ := emb_shaped E l
  unfold gCntD
  have e : ((D.pdL (l.map f)).countP fun z => PyData.eqv z (f x).pd) = l.count x := by
    rw [pdL_map E, List.countP_map, List.count]
    refine congrArg (fun p => List.countP p l) (funext fun y => ?_)
    show PyData.eqv (f y).pd (f x).pd = (y == x)
    rw [E.eq]
    rfl
  show (if _ then _ else _) = _
  rw [if_pos ⟨h1.1, h2, ok_shaped h1, h3⟩, e]
end
theorem gPopAt_nat {xs : List D} {k : Nat} (h : k < xs.length) (h2 : k < 2 ^ 62) : gPopAt xs [.int (k : Nat)] = some (xs[k], xs.eraseIdx k) := by
  unfold gPopAt
  show (if -(2 ^ 63) ≤ ((k : Nat) : Int) ∧ ((k : Nat) : Int) < 2 ^ 63 then _ else _) = _
  rw [if_pos (by omega)]
  have e : seqIndex? (k : Int) xs.length = some k := by
    unfold seqIndex?
    have h1 : ¬ ((k : Int) < 0) := by omega
    simp only [if_neg h1]
    have h3 : (0 ≤ (k : Int) && decide ((k : Int) < (xs.length : Int))) = true := by simp; omega
    simp [h]
  rw [e, Option.bind_some, List.getElem?_eq_getElem h]
  rfl
theorem vv_rev {xs : List D} : gRev xs [] = some (.non, xs.reverse) := rfl
theorem vv_ext {xs zs : List D} {o : Bool} : gExt xs [.lst o zs] = if D.frzL zs = true ∧ xs.length + zs.length ≤ 16777216 then some (.non, xs ++ zs) else none := rfl
end Mv
end
section
set_option Elab.async false
set_option linter.all false
set_option maxRecDepth 100000
/-! sorted, min, max over data of any kind; sep.join. -/
namespace Mv
open PySem PySem.Spec PyProof.Rows L2
/-! ### sorted -/
theorem each_of {R : Value → V × D → Prop} : ∀ {ps : List (V × D)} {its : List Value}, Vals (ps.map Prod.fst) its → (∀ p ∈ ps, ∀ u, RelV p.1 u → R u p) → PySem.W.EachIs R its ps
  | [], _, r, _ => by
    have r' : Vals [] _ := r
    cases r'
    exact .nil
  | p :: ps, _, r, h => by
    have r' : Vals (p.1 :: ps.map Prod.fst) _ := r
    cases r' with
    | cons h1 h2 => exact .cons (h p List.mem_cons_self _ h1) (each_of h2 fun q hq => h q (List.mem_cons_of_mem _ hq))
theorem vals_of_each : ∀ {ps : List (V × D)} {its : List Value}, PySem.W.EachIs (fun u (p : V × D) => RelV p.1 u) its ps → Vals (ps.map Prod.fst) its
  | [], _, r => by
    cases r
    exact .nil
  | p :: ps, _, r => by
    cases r with
    | cons h1 h2 => exact .cons h1 (vals_of_each h2)
noncomputable def leP : V × D → V × D → Bool := PySem.W.dataLe false fun p => p.2.pd
noncomputable def leD : D → D → Bool := PySem.W.dataLe false D.pd
def rSortedD (K : Frg) : List V → Hp → VK → Prop := fun vs H Q => ∃ (a : Addr) (ps : List (V × D)), vs = [V.ref a] ∧ SqL K H a (ps.map Prod.fst) ∧ (∀ p ∈ ps, Dp K H p.1 p.2.pd) ∧
  PySem.W.AllAlike (ps.map fun p => p.2.pd) ∧ PySem.W.Sortable (ps.map fun p => p.2.pd) ∧ (∀ p ∈ ps, p.2.pd.depth ≤ 60) ∧ ∀ q, H q = none → Q (.ref q) (upd H q (.lst ((ps.mergeSort leP).map Prod.fst)))
section
variable {X : Cx}
theorem cr_sortedD (hu : X.A.units + 65 < cLine) : CallR X (.builtin "sorted") (rSortedD X.K) := by
  intro pins s σ H vs us Q I r h
  obtain ⟨a, ps, rfl, hs, hp, hal, hk, hd, q⟩ := h
  obtain ⟨its, rv, hl, hz⟩ := I.list hs
  obtain ⟨u, rfl, ru⟩ := vals1 r
  obtain rfl : u = Value.ref a := ru
  have hln : its.length = ps.length := by rw [← rv.length, List.length_map]
  have e : PySem.W.EachIs (fun u (p : V × D) => RelV p.1 u) its ps := each_of rv fun p _ u h => h
  have er : PySem.W.EachIs (fun u (p : V × D) => ∃ as, Reads s.heap u p.2.pd as) its ps := each_of rv fun p hpm u h => Dp.reads I _ _ _ (hp p hpm) h
  refine PySem.W.sorted_data (enc := fun p : V × D => p.2.pd) hl.isList e er hal hk (by rw [← hln]; exact rv.length ▸ (by simpa using hz)) (fun b hb => by have := hd b hb; omega) fun out h1 h2 => ?_
  obtain ⟨n, hn⟩ := sortedAll_at s.heap its out.toArray
  refine ⟨.ref (s.heap.objs.size + 1), upd H (s.heap.objs.size + 1) (.lst ((ps.mergeSort leP).map Prod.fst)), I.laid (t' := s.toks) (fun _ _ => sortedAll_old) (Nat.le_succ _) ⟨?_, out, n, vals_of_each h2, hn⟩, rfl, q _ (I.hok.fresh (Nat.le_succ _))⟩
  rw [List.length_map, List.length_mergeSort]
  simpa using hz
end
def OrdL (xs : List D) : Prop := D.frzL xs = true ∧ D.datL xs = true ∧ PySem.W.AllAlike (xs.map D.pd) ∧ PySem.W.Sortable (xs.map D.pd) ∧ ∀ d ∈ xs, d.pd.depth ≤ 60
open Classical in
noncomputable def gSorted : List D → Option D := fun ds => match ds with
  | [.lst _ xs] => if OrdL xs then some (.lst true (xs.mergeSort leD)) else none
  | _ => none
theorem dat_mem : ∀ {xs : List D} {d : D}, D.datL xs = true → d ∈ xs → d.dat = true
  | x :: xs, d, h, hm => by
    have h' : (x.dat && D.datL xs) = true := h
    rw [Bool.and_eq_true] at h'
    rcases List.mem_cons.mp hm with rfl | hm
    · exact h'.1
    · exact dat_mem h'.2 hm
theorem zip_fst {us : List V} {xs : List D} (h : us.length = xs.length) : (us.zip xs).map Prod.fst = us := List.map_fst_zip (by omega)
theorem zip_snd {us : List V} {xs : List D} (h : us.length = xs.length) : (us.zip xs).map Prod.snd = xs := List.map_snd_zip (by omega)
theorem prs_zip : ∀ (ps : List (V × D)), prs (ps.map Prod.fst) (ps.map Prod.snd) = ps.map fun p => (some p.1, p.2)
  | [] => rfl
  | p :: ps => by
    show (some p.1, p.2) :: prs (ps.map Prod.fst) (ps.map Prod.snd) = _
    rw [prs_zip ps]
    rfl
theorem mem_prs {us : List V} {xs : List D} {p : V × D} (h : p ∈ us.zip xs) : (some p.1, p.2) ∈ prs us xs := by
  unfold prs
  rw [show us.map some = us.map (fun x => some x) from rfl]
  have : ((us.map some).zip xs) = (us.zip xs).map fun p => (some p.1, p.2) := by
    rw [List.zip_map_left]
    rfl
  rw [this]
  exact List.mem_map.mpr ⟨p, h, rfl⟩
theorem on_sorted {K : Frg} : OpN K (rSortedD K) gSorted := by
  intro xs H ds l Q d hi hm hg q
  unfold gSorted at hg
  split at hg
  · rename_i o xs
    obtain ⟨x, rfl, m⟩ := one_of (K := K) hm
    split at hg
    · rename_i c
      obtain ⟨c1, c2, c3, c4, c5⟩ := c
      cases hg
      obtain ⟨a, us, rfl, hs, hl, i1⟩ := hi.listAll m c1
      have f1 := zip_fst hl
      have f2 := zip_snd hl
      refine ⟨a, us.zip xs, rfl, by rw [f1]; exact SqL.of hs, fun p hp => ?_, ?_, ?_, fun p hp => ?_, fun p np => ?_⟩
      · have hv := i1.view (List.mem_append_left l (mem_prs hp))
        have : p.2 ∈ xs := by rw [← f2]; exact List.mem_map_of_mem hp
        exact Fz.dp _ _ (dat_mem c2 this) hv
      · rw [show (us.zip xs).map (fun p => p.2.pd) = ((us.zip xs).map Prod.snd).map D.pd by rw [List.map_map]; rfl, f2]; exact c3
      · rw [show (us.zip xs).map (fun p => p.2.pd) = ((us.zip xs).map Prod.snd).map D.pd by rw [List.map_map]; rfl, f2]; exact c4
      · exact c5 _ (by rw [← f2]; exact List.mem_map_of_mem hp)
      · have es : ((us.zip xs).mergeSort leP).map Prod.snd = xs.mergeSort leD := by
          rw [List.map_mergeSort (r := leP) (s := leD) (f := Prod.snd) (fun a _ b _ => rfl), f2]
        have ep : (prs us xs).Perm (prs (((us.zip xs).mergeSort leP).map Prod.fst) (xs.mergeSort leD)) := by
          rw [← es, prs_zip]
          have := prs_zip (us.zip xs)
          rw [f1, f2] at this
          rw [this]
          exact ((List.mergeSort_perm (us.zip xs) leP).map _).symm
        refine q _ _ (Items.new np ?_ (i1.perm (ep.append_right l)) (fun b hb => by cases hb))
        rw [List.length_map, List.length_mergeSort, List.length_mergeSort, List.length_zip]
        omega
    · cases hg
  · cases hg

/-! ### min, max of data -/
def OneL (xs : List D) : Prop := D.frzL xs = true ∧ D.datL xs = true ∧ PySem.W.AlikeAll (xs.map D.pd) ∧ (∀ d ∈ xs, d.pd.depth ≤ 60 ∧ d.pd.plain = true) ∧ ∀ d ∈ xs, ∀ e ∈ xs, d.pd = e.pd → d = e
theorem depthAll_le : ∀ {xs : List PyData}, (∀ d ∈ xs, d.depth ≤ 60) → PyData.depthAll xs ≤ 60
  | [], _ => by simp [PyData.depthAll]
  | x :: xs, h => by
    rw [PyData.depthAll]
    have := h x List.mem_cons_self
    have := depthAll_le fun d hd => h d (List.mem_cons_of_mem x hd)
    omega
theorem minD_mem : ∀ (xs : List PyData) (x : PyData), PySem.W.minD x xs ∈ x :: xs
  | [], x => List.mem_cons_self
  | y :: xs, x => by
    have h := minD_mem xs (if PySem.W.dataLt y x = true then y else x)
    have e : PySem.W.minD x (y :: xs) = PySem.W.minD (if PySem.W.dataLt y x = true then y else x) xs := rfl
    rw [e]
    rcases List.mem_cons.mp h with h | h
    · rw [h]
      split
      · exact List.mem_cons_of_mem _ List.mem_cons_self
      · exact List.mem_cons_self
    · exact List.mem_cons_of_mem _ (List.mem_cons_of_mem _ h)
theorem maxD_mem : ∀ (xs : List PyData) (x : PyData), PySem.W.maxD x xs ∈ x :: xs
  | [], x => List.mem_cons_self
  | y :: xs, x => by
    have h := maxD_mem xs (if PySem.W.dataLt x y = true then y else x)
    have e : PySem.W.maxD x (y :: xs) = PySem.W.maxD (if PySem.W.dataLt x y = true then y else x) xs := rfl
    rw [e]
    rcases List.mem_cons.mp h with h | h
    · rw [h]
      split
      · exact List.mem_cons_of_mem _ List.mem_cons_self
      · exact List.mem_cons_self
    · exact List.mem_cons_of_mem _ (List.mem_cons_of_mem _ h)
def rMinD (K : Frg) : List V → Hp → VK → Prop := fun vs H Q => ∃ (a : Addr) (ps : List (V × D)) (x : D) (xs : List D), vs = [V.ref a] ∧ SqL K H a (ps.map Prod.fst) ∧ (∀ p ∈ ps, Dp K H p.1 p.2.pd ∧ p.2.pd.depth ≤ 60 ∧ p.2.pd.plain = true) ∧ ps.map Prod.snd = x :: xs ∧
  PySem.W.AlikeAll (ps.map fun p => p.2.pd) ∧ ∀ (i : Nat) p, ps[i]? = some p → p.2.pd = PySem.W.minD x.pd (xs.map D.pd) → Q p.1 H
def rMaxD (K : Frg) : List V → Hp → VK → Prop := fun vs H Q => ∃ (a : Addr) (ps : List (V × D)) (x : D) (xs : List D), vs = [V.ref a] ∧ SqL K H a (ps.map Prod.fst) ∧ (∀ p ∈ ps, Dp K H p.1 p.2.pd ∧ p.2.pd.depth ≤ 60 ∧ p.2.pd.plain = true) ∧ ps.map Prod.snd = x :: xs ∧
  PySem.W.AlikeAll (ps.map fun p => p.2.pd) ∧ ∀ (i : Nat) p, ps[i]? = some p → p.2.pd = PySem.W.maxD x.pd (xs.map D.pd) → Q p.1 H
theorem reads_all {h : Heap} : ∀ {ps : List (V × D)} {its : List Value}, PySem.W.EachIs (fun u (p : V × D) => ∃ as, Reads h u p.2.pd as) its ps → ∃ as, ReadsAll h its (ps.map fun p => p.2.pd) as
  | [], _, .nil => ⟨[], .nil⟩
  | p :: ps, _, .cons ⟨as, h1⟩ t => let ⟨bs, h2⟩ := reads_all t; ⟨as ++ bs, .cons h1 h2⟩
section
variable {X : Cx}
theorem at_each {R : Value → V × D → Prop} : ∀ {ps : List (V × D)} {its : List Value}, PySem.W.EachIs R its ps → ∀ {i : Nat} {v : Value}, its[i]? = some v → ∃ p, ps[i]? = some p ∧ R v p
  | _, _, .nil, _, _, h => by simp at h
  | _, _, .cons h1 t, 0, v, h => by simp at h; subst h; exact ⟨_, rfl, h1⟩
  | _, _, .cons h1 t, i + 1, v, h => by
    obtain ⟨p, a, b⟩ := at_each t (i := i) (by simpa using h)
    exact ⟨p, by simpa using a, b⟩
theorem cr_minD (hc : X.calm = true) (hu : X.A.units + 65 < cLine) : CallR X (.builtin "min") (rMinD X.K) := by
  intro pins s σ H vs us Q I r h
  obtain ⟨a, ps, x, xs, rfl, hs, hp, ex, hal, q⟩ := h
  obtain ⟨its, rv, hl, hz⟩ := I.list hs
  obtain ⟨u, rfl, ru⟩ := vals1 r
  obtain rfl : u = Value.ref a := ru
  have e : PySem.W.EachIs (fun u (p : V × D) => RelV p.1 u ∧ ∃ as, Reads s.heap u p.2.pd as) its ps := each_of rv fun p hpm u h => ⟨h, Dp.reads I _ _ _ (hp p hpm).1 h⟩
  obtain ⟨as, hr⟩ := reads_all (PySem.W.EachIs.mono (fun _ _ h => h.2) e)
  have e2 : (ps.map fun p => p.2.pd) = x.pd :: xs.map D.pd := by
    rw [show (ps.map fun p => p.2.pd) = (ps.map Prod.snd).map D.pd by rw [List.map_map]; rfl, ex]
    rfl
  rw [e2] at hr hal
  have hd : PyData.depthAll (x.pd :: xs.map D.pd) ≤ 60 := depthAll_le fun d hd => by
    rw [← e2] at hd
    obtain ⟨p, hm, rfl⟩ := List.mem_map.mp hd
    exact (hp p hm).2.1
  refine PySem.W.min_list_data (I.ok.hd hc) hl.isList (by simpa using hr) hal (by omega) fun i v h' tk bs hv rd kp => ?_
  obtain ⟨p, hpi, rp, as', rd'⟩ := at_each e (i := i) (v := v) (by simpa using hv)
  have pl := (hp p (List.mem_of_getElem? hpi)).2.2
  have e3 : p.2.pd = PySem.W.minD x.pd (xs.map D.pd) := by
    have k1 := SeqAt.readOf_plain pl (Reads.keeps kp rd')
    have k2 := SeqAt.readOf_plain (by
      have hm := minD_mem (xs.map D.pd) x.pd
      rw [← e2] at hm
      obtain ⟨p', hm', e4⟩ := List.mem_map.mp hm
      rw [← e4]
      exact (hp p' hm').2.2) rd
    exact k1.symm.trans k2
  exact ⟨p.1, H, I.kept kp, rp, q i p hpi e3⟩
theorem cr_maxD (hc : X.calm = true) (hu : X.A.units + 65 < cLine) : CallR X (.builtin "max") (rMaxD X.K) := by
  intro pins s σ H vs us Q I r h
  obtain ⟨a, ps, x, xs, rfl, hs, hp, ex, hal, q⟩ := h
  obtain ⟨its, rv, hl, hz⟩ := I.list hs
  obtain ⟨u, rfl, ru⟩ := vals1 r
  obtain rfl : u = Value.ref a := ru
  have e : PySem.W.EachIs (fun u (p : V × D) => RelV p.1 u ∧ ∃ as, Reads s.heap u p.2.pd as) its ps := each_of rv fun p hpm u h => ⟨h, Dp.reads I _ _ _ (hp p hpm).1 h⟩
  obtain ⟨as, hr⟩ := reads_all (PySem.W.EachIs.mono (fun _ _ h => h.2) e)
  have e2 : (ps.map fun p => p.2.pd) = x.pd :: xs.map D.pd := by
    rw [show (ps.map fun p => p.2.pd) = (ps.map Prod.snd).map D.pd by rw [List.map_map]; rfl, ex]
    rfl
  rw [e2] at hr hal
  have hd : PyData.depthAll (x.pd :: xs.map D.pd) ≤ 60 := depthAll_le fun d hd => by
    rw [← e2] at hd
    obtain ⟨p, hm, rfl⟩ := List.mem_map.mp hd
    exact (hp p hm).2.1
  refine PySem.W.max_list_data (I.ok.hd hc) hl.isList (by simpa using hr) hal (by omega) fun i v h' tk bs hv rd kp => ?_
  obtain ⟨p, hpi, rp, as', rd'⟩ := at_each e (i := i) (v := v) (by simpa using hv)
  have pl := (hp p (List.mem_of_getElem? hpi)).2.2
  have e3 : p.2.pd = PySem.W.maxD x.pd (xs.map D.pd) := by
    have k1 := SeqAt.readOf_plain pl (Reads.keeps kp rd')
    have k2 := SeqAt.readOf_plain (by
      have hm := maxD_mem (xs.map D.pd) x.pd
      rw [← e2] at hm
      obtain ⟨p', hm', e4⟩ := List.mem_map.mp hm
      rw [← e4]
      exact (hp p' hm').2.2) rd
    exact k1.symm.trans k2
  exact ⟨p.1, H, I.kept kp, rp, q i p hpi e3⟩
end

def pickMin (x : D) (xs : List D) : D := xs.foldl (fun a y => if PySem.W.dataLt y.pd a.pd = true then y else a) x
theorem pickMin_pd : ∀ (xs : List D) (x : D), (pickMin x xs).pd = PySem.W.minD x.pd (xs.map D.pd)
  | [], x => rfl
  | y :: xs, x => by
    have h := pickMin_pd xs (if PySem.W.dataLt y.pd x.pd = true then y else x)
    have e : pickMin x (y :: xs) = pickMin (if PySem.W.dataLt y.pd x.pd = true then y else x) xs := rfl
    rw [e, h]
    show PySem.W.minD _ _ = PySem.W.minD (if PySem.W.dataLt y.pd x.pd = true then y.pd else x.pd) (xs.map D.pd)
    congr 1
    split <;> rfl
theorem pickMin_mem : ∀ (xs : List D) (x : D), pickMin x xs ∈ x :: xs
  | [], x => List.mem_cons_self
  | y :: xs, x => by
    have h := pickMin_mem xs (if PySem.W.dataLt y.pd x.pd = true then y else x)
    have e : pickMin x (y :: xs) = pickMin (if PySem.W.dataLt y.pd x.pd = true then y else x) xs := rfl
    rw [e]
    rcases List.mem_cons.mp h with h | h
    · rw [h]
      split
      · exact List.mem_cons_of_mem _ List.mem_cons_self
      · exact List.mem_cons_self
    · exact List.mem_cons_of_mem _ (List.mem_cons_of_mem _ h)
open Classical in
noncomputable def gMinD : List D → Option D := fun ds => match ds with
  | [.lst _ (x :: xs)] => if OneL (x :: xs) then some (pickMin x xs) else none
  | _ => none
noncomputable def gMinA : List D → Option D := fun ds => match ds with
  | [.lst o xs] => (match ints? xs with
    | some ns => ns.min?.map D.int
    | none => gMinD [.lst o xs])
  | _ => none
theorem vv_minA {o : Bool} {xs : List D} : gMinA [.lst o xs] = (match ints? xs with
    | some ns => ns.min?.map D.int
    | none => gMinD [.lst o xs]) := rfl
theorem on_minD {K : Frg} : OpN K (rMinD K) gMinD := by
  intro xs H ds l Q d hi hm hg q
  unfold gMinD at hg
  split at hg
  · rename_i o x xs
    obtain ⟨v, rfl, m⟩ := one_of (K := K) hm
    split at hg
    · rename_i c
      obtain ⟨c1, c2, c3, c4, c5⟩ := c
      cases hg
      obtain ⟨a, us, rfl, hs, hl, i1⟩ := hi.listAll m c1
      obtain ⟨a', us', e', hs', hl', hz, him⟩ := hi.list m
      cases e'
      rw [hs] at hs'
      cases hs'
      have f1 := zip_fst hl
      have f2 := zip_snd hl
      have fm : ∀ p ∈ us.zip (x :: xs), p.2 ∈ x :: xs := fun p hp => by rw [← f2]; exact List.mem_map_of_mem hp
      refine ⟨a, us.zip (x :: xs), x, xs, rfl, by rw [f1]; exact SqL.of hs, fun p hp => ⟨?_, c4 _ (fm p hp)⟩, f2, ?_, fun i p hp ep => ?_⟩
      · exact Fz.dp _ _ (dat_mem c2 (fm p hp)) (i1.view (List.mem_append_left l (mem_prs hp)))
      · rw [show (us.zip (x :: xs)).map (fun p => p.2.pd) = ((us.zip (x :: xs)).map Prod.snd).map D.pd by rw [List.map_map]; rfl, f2]; exact c3
      · have hpm := List.mem_of_getElem? hp
        have e1 : p.2 = pickMin x xs := c5 _ (fm p hpm) _ (pickMin_mem xs x) (by rw [ep, pickMin_pd])
        have z1 : us[i]? = some p.1 := by
          rw [← f1, List.getElem?_map, hp]; rfl
        have z2 : (x :: xs)[i]? = some p.2 := by
          rw [← f2, List.getElem?_map, hp]; rfl
        have zf : p.2.frz = true := by
          have h := c1
          rw [D.frzL_all, List.all_eq_true] at h
          exact h _ (fm p hpm)
        have := q p.1 H (by rw [← e1]; exact him i p.2 p.1 z2 z1 zf)
        exact this
    · cases hg
  · cases hg
theorem on_minA {K : Frg} : OpN K (fun vs H Q => rMin K vs H Q ∨ rMinD K vs H Q) gMinA := by
  intro xs H ds l Q d hi hm hg q
  unfold gMinA at hg
  split at hg
  · rename_i o ys
    split at hg
    · rename_i ns e
      refine .inl (on_minL xs H _ l Q d hi hm ?_ q)
      rw [vv_minL, e]
      exact hg
    · exact .inr (on_minD xs H _ l Q d hi hm hg q)
  · cases hg
theorem cr_minA {X : Cx} (hc : X.calm = true) (hu : X.A.units + 65 < cLine) : CallR X (.builtin "min") (fun vs H Q => rMin X.K vs H Q ∨ rMinD X.K vs H Q) := by
  intro pins s σ H vs us Q I r h
  rcases h with h | h
  · exact cr_min hc pins s σ H vs us Q I r h
  · exact cr_minD hc hu pins s σ H vs us Q I r h

def pickMax (x : D) (xs : List D) : D := xs.foldl (fun a y => if PySem.W.dataLt a.pd y.pd = true then y else a) x
theorem pickMax_pd : ∀ (xs : List D) (x : D), (pickMax x xs).pd = PySem.W.maxD x.pd (xs.map D.pd)
  | [], x => rfl
  | y :: xs, x => by
    have h := pickMax_pd xs (if PySem.W.dataLt x.pd y.pd = true then y else x)
    have e : pickMax x (y :: xs) = pickMax (if PySem.W.dataLt x.pd y.pd = true then y else x) xs := rfl
    rw [e, h]
    show PySem.W.maxD _ _ = PySem.W.maxD (if PySem.W.dataLt x.pd y.pd = true then y.pd else x.pd) (xs.map D.pd)
    congr 1
    split <;> rfl
theorem pickMax_mem : ∀ (xs : List D) (x : D), pickMax x xs ∈ x :: xs
  | [], x => List.mem_cons_self
  | y :: xs, x => by
    have h := pickMax_mem xs (if PySem.W.dataLt x.pd y.pd = true then y else x)
    have e : pickMax x (y :: xs) = pickMax (if PySem.W.dataLt x.pd y.pd = true then y else x) xs := rfl
    rw [e]
    rcases List.mem_cons.mp h with h | h
    · rw [h]
      split
      · exact List.mem_cons_of_mem _ List.mem_cons_self
      · exact List.mem_cons_self
    · exact List.mem_cons_of_mem _ (List.mem_cons_of_mem _ h)
open Classical in
noncomputable def gMaxD : List D → Option D := fun ds => match ds with
  | [.lst _ (x :: xs)] => if OneL (x :: xs) then some (pickMax x xs) else none
  | _ => none
noncomputable def gMaxA : List D → Option D := fun ds => match ds with
  | [.lst o xs] => (match ints? xs with
    | some ns => ns.max?.map D.int
    | none => gMaxD [.lst o xs])
  | _ => none
theorem vv_maxA {o : Bool} {xs : List D} : gMaxA [.lst o xs] = (match ints? xs with
    | some ns => ns.max?.map D.int
    | none => gMaxD [.lst o xs]) := rfl
theorem on_maxD {K : Frg} : OpN K (rMaxD K) gMaxD := by
  intro xs H ds l Q d hi hm hg q
  unfold gMaxD at hg
  split at hg
  · rename_i o x xs
    obtain ⟨v, rfl, m⟩ := one_of (K := K) hm
    split at hg
    · rename_i c
      obtain ⟨c1, c2, c3, c4, c5⟩ := c
      cases hg
      obtain ⟨a, us, rfl, hs, hl, i1⟩ := hi.listAll m c1
      obtain ⟨a', us', e', hs', hl', hz, him⟩ := hi.list m
      cases e'
      rw [hs] at hs'
      cases hs'
      have f1 := zip_fst hl
      have f2 := zip_snd hl
      have fm : ∀ p ∈ us.zip (x :: xs), p.2 ∈ x :: xs := fun p hp => by rw [← f2]; exact List.mem_map_of_mem hp
      refine ⟨a, us.zip (x :: xs), x, xs, rfl, by rw [f1]; exact SqL.of hs, fun p hp => ⟨?_, c4 _ (fm p hp)⟩, f2, ?_, fun i p hp ep => ?_⟩
      · exact Fz.dp _ _ (dat_mem c2 (fm p hp)) (i1.view (List.mem_append_left l (mem_prs hp)))
      · rw [show (us.zip (x :: xs)).map (fun p => p.2.pd) = ((us.zip (x :: xs)).map Prod.snd).map D.pd by rw [List.map_map]; rfl, f2]; exact c3
      · have hpm := List.mem_of_getElem? hp
        have e1 : p.2 = pickMax x xs := c5 _ (fm p hpm) _ (pickMax_mem xs x) (by rw [ep, pickMax_pd])
        have z1 : us[i]? = some p.1 := by
          rw [← f1, List.getElem?_map, hp]; rfl
        have z2 : (x :: xs)[i]? = some p.2 := by
          rw [← f2, List.getElem?_map, hp]; rfl
        have zf : p.2.frz = true := by
          have h := c1
          rw [D.frzL_all, List.all_eq_true] at h
          exact h _ (fm p hpm)
        have := q p.1 H (by rw [← e1]; exact him i p.2 p.1 z2 z1 zf)
        exact this
    · cases hg
  · cases hg
theorem on_maxA {K : Frg} : OpN K (fun vs H Q => rMax K vs H Q ∨ rMaxD K vs H Q) gMaxA := by
  intro xs H ds l Q d hi hm hg q
  unfold gMaxA at hg
  split at hg
  · rename_i o ys
    split at hg
    · rename_i ns e
      refine .inl (on_maxL xs H _ l Q d hi hm ?_ q)
      rw [vv_maxL, e]
      exact hg
    · exact .inr (on_maxD xs H _ l Q d hi hm hg q)
  · cases hg
theorem cr_maxA {X : Cx} (hc : X.calm = true) (hu : X.A.units + 65 < cLine) : CallR X (.builtin "max") (fun vs H Q => rMax X.K vs H Q ∨ rMaxD X.K vs H Q) := by
  intro pins s σ H vs us Q I r h
  rcases h with h | h
  · exact cr_max hc pins s σ H vs us Q I r h
  · exact cr_maxD hc hu pins s σ H vs us Q I r h

/-! ### things in order -/
structure Ordd {α : Type} [DecidableEq α] [PySem.W.DatumOrd α] (f : α → D) : Prop where
  frz : ∀ x, (f x).frz = true
  dat : ∀ x, (f x).dat = true
  pd : ∀ x, (f x).pd = PySem.W.Datum.toD x
  dep : PySem.W.Datum.depth α ≤ 60
  srt : (∀ x : α, ∃ y r, PySem.W.Datum.toD x = .tuple (y :: r)) ∨ ∀ x : α, ∀ xs, PySem.W.Datum.toD x ≠ .tuple xs
  inj : ∀ x y, f x = f y → x = y
section
variable {α : Type} [DecidableEq α] [PySem.W.DatumOrd α] {f : α → D}
theorem Ordd.frzL (h : Ordd f) (l : List α) : D.frzL (l.map f) = true := frzL_of fun d hd => by obtain ⟨x, _, rfl⟩ := List.mem_map.mp hd; exact h.frz x
theorem Ordd.datL (h : Ordd f) : ∀ l : List α, D.datL (l.map f) = true
  | [] => rfl
  | x :: l => by
    show (D.dat (f x) && D.datL (l.map f)) = true
    rw [h.dat x, Ordd.datL h l]
    rfl
theorem Ordd.depth (h : Ordd f) (x : α) : (f x).pd.depth ≤ 60 := by
  rw [h.pd]
  exact Nat.le_trans (PySem.W.Datum.depth_le x) h.dep
theorem Ordd.mem (h : Ordd f) {l : List α} {d : PyData} (hd : d ∈ (l.map f).map D.pd) : ∃ x ∈ l, d = PySem.W.Datum.toD x := by
  rw [List.map_map] at hd
  obtain ⟨x, hx, e⟩ := List.mem_map.mp hd
  exact ⟨x, hx, by rw [← e, ← h.pd]; rfl⟩
theorem Ordd.ordL (h : Ordd f) (l : List α) : OrdL (l.map f) := by
  refine ⟨h.frzL l, h.datL l, ?_, ?_, fun d hd => ?_⟩
  · intro d hd e he
    obtain ⟨x, _, rfl⟩ := h.mem hd
    obtain ⟨y, _, rfl⟩ := h.mem he
    exact PySem.W.DatumOrd.alike x y
  · rcases h.srt with k | k
    · refine .inl fun d hd => ?_
      obtain ⟨x, _, rfl⟩ := h.mem hd
      exact k x
    · refine .inr fun d hd => ?_
      obtain ⟨x, _, rfl⟩ := h.mem hd
      exact ⟨PySem.W.DatumOrd.notNone x, k x⟩
  · obtain ⟨x, _, rfl⟩ := List.mem_map.mp hd
    exact h.depth x
theorem Ordd.le (h : Ordd f) (x y : α) : leD (f x) (f y) = !PySem.W.DatumOrd.lt y x := by
  unfold leD
  rw [PySem.W.dataLe_eq]
  show (!PySem.W.dataLt (f y).pd (f x).pd) = _
  rw [h.pd, h.pd, PySem.W.DatumOrd.lt_eq]
open Classical in
theorem gSorted_ord (h : Ordd f) (o : Bool) (l : List α) : gSorted [.lst o (l.map f)] = some (.lst true ((l.mergeSort fun x y => !PySem.W.DatumOrd.lt y x).map f)) := by
  show (if OrdL (l.map f) then some (D.lst true ((l.map f).mergeSort leD)) else none) = _
  rw [if_pos (h.ordL l), ← List.map_mergeSort (s := leD) (f := f) (r := fun x y => !PySem.W.DatumOrd.lt y x) (fun a _ b _ => (h.le a b).symm)]
theorem Ordd.one (h : Ordd f) (l : List α) : OneL (l.map f) := by
  refine ⟨h.frzL l, h.datL l, ⟨fun d hd e he => (h.ordL l).2.2.1 d hd e he, fun d hd => ?_⟩, fun d hd => ?_, fun d hd e he q => ?_⟩
  · obtain ⟨x, _, rfl⟩ := h.mem hd
    exact PySem.W.DatumOrd.notNone x
  · obtain ⟨x, _, rfl⟩ := List.mem_map.mp hd
    exact ⟨h.depth x, by rw [h.pd]; exact PySem.W.Datum.plain x⟩
  · obtain ⟨x, _, rfl⟩ := List.mem_map.mp hd
    obtain ⟨y, _, rfl⟩ := List.mem_map.mp he
    rw [h.pd, h.pd] at q
    have e2 := PySem.W.Datum.eqv x y
    rw [q, PySem.W.Datum.eqv] at e2
    have : x = y := by simpa using e2.symm
    rw [this]
open Classical in
theorem gMinD_ord (h : Ordd f) (o : Bool) (x : α) (l : List α) : gMinD [.lst o ((x :: l).map f)] = some (f (PySem.W.minOf x l)) := by
  have hp : ∀ (l : List α) (x : α), pickMin (f x) (l.map f) = f (PySem.W.minOf x l) := fun l => by
    induction l with
    | nil => intro x; rfl
    | cons y l ih =>
      intro x
      have e : pickMin (f x) ((y :: l).map f) = pickMin (if PySem.W.dataLt (f y).pd (f x).pd = true then f y else f x) (l.map f) := rfl
      have e2 : PySem.W.minOf x (y :: l) = PySem.W.minOf (if PySem.W.DatumOrd.lt y x = true then y else x) l := rfl
      rw [e, e2, h.pd, h.pd, PySem.W.DatumOrd.lt_eq, ← ih]
      congr 1
      split <;> rfl
  show (if OneL ((x :: l).map f) then some (pickMin (f x) (l.map f)) else none) = _
  rw [if_pos (h.one _), hp]
open Classical in
theorem gMaxD_ord (h : Ordd f) (o : Bool) (x : α) (l : List α) : gMaxD [.lst o ((x :: l).map f)] = some (f (PySem.W.maxOf x l)) := by
  have hp : ∀ (l : List α) (x : α), pickMax (f x) (l.map f) = f (PySem.W.maxOf x l) := fun l => by
    induction l with
    | nil => intro x; rfl
    | cons y l ih =>
      intro x
      have e : pickMax (f x) ((y :: l).map f) = pickMax (if PySem.W.dataLt (f x).pd (f y).pd = true then f y else f x) (l.map f) := rfl
      have e2 : PySem.W.maxOf x (y :: l) = PySem.W.maxOf (if PySem.W.DatumOrd.lt x y = true then y else x) l := rfl
      rw [e, e2, h.pd, h.pd, PySem.W.DatumOrd.lt_eq, ← ih]
      congr 1
      split <;> rfl
  show (if OneL ((x :: l).map f) then some (pickMax (f x) (l.map f)) else none) = _
  rw [if_pos (h.one _), hp]
end
theorem ordd_int : Ordd D.int := ⟨fun _ => rfl, fun _ => rfl, fun _ => rfl, by decide, .inr (fun _ _ e => by cases e), fun x y e => by cases e; rfl⟩
theorem ordd_str : Ordd D.str := ⟨fun _ => rfl, fun _ => rfl, fun _ => rfl, by decide, .inr (fun _ _ e => by cases e), fun x y e => by cases e; rfl⟩
theorem ordd_pair {α β : Type} [DecidableEq α] [PySem.W.DatumOrd α] [DecidableEq β] [PySem.W.DatumOrd β] {f : α → D} {g : β → D} (hf : Ordd f) (hg : Ordd g) (hd : PySem.W.Datum.depth (α × β) ≤ 60) : Ordd fun e : α × β => D.tup [f e.1, g e.2] :=
  ⟨fun e => by show (D.frz (f e.1) && (D.frz (g e.2) && true)) = true; rw [hf.frz, hg.frz]; rfl, fun e => by show (D.dat (f e.1) && (D.dat (g e.2) && true)) = true; rw [hf.dat, hg.dat]; rfl,
    fun e => by show PyData.tuple [(f e.1).pd, (g e.2).pd] = _; rw [hf.pd, hg.pd]; rfl, hd, .inl fun e => ⟨_, _, rfl⟩, fun x y e => by
      injection e with e
      injection e with e1 e2
      injection e2 with e2
      obtain ⟨a, b⟩ := x
      obtain ⟨c, d⟩ := y
      rw [Prod.mk.injEq]
      exact ⟨hf.inj _ _ e1, hg.inj _ _ e2⟩⟩
theorem ordd_int2 : Ordd fun e : Int × Int => D.tup [.int e.1, .int e.2] := ordd_pair ordd_int ordd_int (by decide)
theorem ints_tups {l : List D} (h : l ≠ []) (ht : ∀ d ∈ l, ∃ xs, d = .tup xs) : ints? l = none := by
  cases l with
  | nil => exact absurd rfl h
  | cons d l =>
    obtain ⟨xs, rfl⟩ := ht d List.mem_cons_self
    rfl
/-! ### sep.join -/
def strs? : List D → Option (List Str)
  | [] => some []
  | .str x :: ds => (strs? ds).map fun r => x :: r
  | _ :: _ => none
theorem strs_ok {K : Frg} {H : Hp} : ∀ {ds : List D} {xs : List V} {ns : List Str}, strs? ds = some ns → FzL K H ds xs → xs = ns.map V.str
  | [], xs, ns, h, hz => by
    cases h
    exact hz
  | d :: ds, xs, ns, h, hz => by
    obtain ⟨x, r, rfl, h1, h2⟩ := hz
    cases d with
    | str y =>
      obtain ⟨r', e, rfl⟩ := Option.map_eq_some_iff.mp (show (strs? ds).map (fun r => y :: r) = some ns from h)
      rw [strs_ok e h2, show x = .str y from h1]
      rfl
    | _ => cases h
theorem strs_map : ∀ ns : List Str, strs? (ns.map D.str) = some ns
  | [] => rfl
  | n :: ns => by
    show (strs? (ns.map D.str)).map (fun r => n :: r) = _
    rw [strs_map ns]
    rfl
def gJoin : List D → Option D := fun ds => match ds with
  | [.str a, .lst _ xs] => (strs? xs).bind fun ys => if (ys.map (·.length)).sum + ys.length * a.length ≤ 16777216 then some (.str (Txt.join a ys)) else none
  | [.str a, .tup xs] => (strs? xs).bind fun ys => if (ys.map (·.length)).sum + ys.length * a.length ≤ 16777216 then some (.str (Txt.join a ys)) else none
  | _ => none
theorem on_join {K : Frg} : OpN K (fun xs H Q => ∃ x r', xs = x :: r' ∧ ∃ a p, ∃ ys : List Str, x = .str a ∧ r' = [.ref p] ∧ (SqL K H p (ys.map V.str) ∨ SqT K H p (ys.map V.str)) ∧
    (ys.map (·.length)).sum + ys.length * a.length ≤ 16777216 ∧ Q (.str (Txt.join a ys)) H) gJoin := by
  intro xs H ds l Q d hi hm hg q
  unfold gJoin at hg
  split at hg
  · obtain ⟨x, y, rfl, m1, m2⟩ := two_of (K := K) hm
    obtain ⟨ys, e, hg⟩ := Option.bind_eq_some_iff.mp hg
    split at hg
    · rename_i c
      cases hg
      obtain ⟨a', us, rfl, hs, hl, hz, _⟩ := hi.list m2
      have := strs_ok e hz
      subst this
      exact ⟨x, _, rfl, _, a', ys, hi.view m1, rfl, .inl (SqL.of hs), c, q _ H (hi.add rfl fun _ _ => rfl)⟩
    · cases hg
  · obtain ⟨x, y, rfl, m1, m2⟩ := two_of (K := K) hm
    obtain ⟨ys, e, hg⟩ := Option.bind_eq_some_iff.mp hg
    split at hg
    · rename_i c
      cases hg
      obtain ⟨a', us, rfl, hs, hl, hz, _⟩ := hi.tuple m2
      have := strs_ok e hz
      subst this
      exact ⟨x, _, rfl, _, a', ys, hi.view m1, rfl, .inr hs, c, q _ H (hi.add rfl fun _ _ => rfl)⟩
    · cases hg
  · cases hg
theorem vv_joinL {a : Str} {o : Bool} {xs : List D} : gJoin [.str a, .lst o xs] = (strs? xs).bind fun ys => if (ys.map (·.length)).sum + ys.length * a.length ≤ 16777216 then some (.str (Txt.join a ys)) else none := rfl
theorem vv_joinT {a : Str} {xs : List D} : gJoin [.str a, .tup xs] = (strs? xs).bind fun ys => if (ys.map (·.length)).sum + ys.length * a.length ≤ 16777216 then some (.str (Txt.join a ys)) else none := rfl
theorem kindS {x : Str} : kindD "str" (.str x) = true := rfl
end Mv
end
section
set_option Elab.async false
set_option linter.all false
set_option maxRecDepth 100000
/-! zip of two lists, tuples or texts. -/
namespace Mv
open PySem PySem.Spec PyProof.Rows L2
theorem neA {a b : Nat} (h : a ≠ b) : @Ne Addr a b := h
theorem eqA {a b : Nat} (h : @Eq Addr a b) : a = b := h
inductive ZS where
  | l (a : Addr) | t (a : Addr) | s (x : Str)
namespace ZS
def v : ZS → V
  | .l a => .ref a
  | .t a => .ref a
  | .s x => .str x
def ad : ZS → Option Addr
  | .l a => some a
  | .t a => some a
  | .s _ => none
def it (K : Frg) : ZS → It
  | .l a => Itl K a
  | .t a => Itt K a
  | .s x => Its x
def le (K : Frg) : ZS → Nat → Hp → Prop
  | .l a, i, H => ∃ xs : List V, SqL K H a xs ∧ i ≤ xs.length
  | .t a, i, H => ∃ xs : List V, SqT K H a xs ∧ i ≤ xs.length
  | .s x, i, _ => i ≤ x.cps.size
def st : ZS → Addr → Nat → Heap → Prop
  | .l a, it, i, h => h.IsListIter it a i
  | .t a, it, i, h => h.IsTupleIter it a i
  | .s x, it, i, h => ∃ t, h.IsStrIter it (strIterType x) x t i
theorem st_at {z : ZS} {it : Addr} {i : Nat} {h h' : Heap} (hs : z.st it i h) (k : ∀ o, h.get? it = some o → h'.get? it = some o) : z.st it i h' := by
  cases z with
  | l a => exact Heap.IsListIter.at hs k
  | t a => exact Heap.IsTupleIter.at hs k
  | s x => obtain ⟨t, o, ho, r⟩ := hs; exact ⟨t, o, k o ho, r⟩
theorem st_obj {z : ZS} {it : Addr} {i : Nat} {h : Heap} (hs : z.st it i h) : ∃ o, h.get? it = some o ∧ ∀ v, o.data ≠ .cell v := by
  cases z with
  | l a => obtain ⟨o, e, _, d⟩ := hs; exact ⟨o, e, fun v q => by rw [d] at q; cases q⟩
  | t a => obtain ⟨o, e, _, d⟩ := hs; exact ⟨o, e, fun v q => by rw [d] at q; cases q⟩
  | s x => obtain ⟨t, o, e, _, d⟩ := hs; exact ⟨o, e, fun v q => by rw [d] at q; cases q⟩
end ZS
section
variable {X : Cx} {pins : List (Addr × Obj)} {σ : L2.St} {H : Hp} {s : Shared}
theorem vals_back : ∀ {xs : List V} {us : List Value} {i : Nat} {u : Value}, Vals xs us → us[i]? = some u → ∃ x, xs[i]? = some x ∧ RelV x u
  | _, _, _, _, .nil, e => by simp at e
  | _, _, 0, _, .cons r _, e => by simp at e; subst e; exact ⟨_, rfl, r⟩
  | _, _, i + 1, u, .cons _ t, e => by
    obtain ⟨x, a, b⟩ := vals_back (i := i) (u := u) t (by simpa using e)
    exact ⟨x, by simpa using a, b⟩
theorem zs_draws (z : ZS) {it : Addr} {i : Nat} (I : Inv X pins σ H s) (hc : X.calm = true) (hst : z.st it i s.heap) (hlo : ∀ a, z.ad = some a → a ≠ it) (hle : z.le X.K i H) :
    ∃ (n : Nat) (P : Nat → Value → Prop) (St : Nat → Heap → Prop) (fp : List Addr), Draws X.prog X.w X.A.in1 it fp n P St ∧ St i s.heap ∧ it ∈ fp ∧ (∀ c ∈ fp, c = it ∨ z.ad = some c) ∧ i ≤ n ∧ ((z.it X.K).go i H → i < n) ∧ ((z.it X.K).stop i H → n ≤ i) ∧
      (∀ u, P i u → ∃ x, RelV x u ∧ (z.it X.K).yld i H x H) ∧ ∀ j h, St j h → z.st it j h := by
  have hh : X.A.in1.handled = none := I.ok.hd hc
  cases z with
  | l a =>
    obtain ⟨xs, hq, hi⟩ := hle
    obtain ⟨its, rv, p, _⟩ := I.list hq
    have hl := rv.length
    refine ⟨_, _, _, _, Draws.list hh it a (hlo a rfl) its.toArray, ⟨hst, p.isList⟩, by simp, fun c hcm => ?_, by simp; omega, ?_, ?_, fun u hu => ?_, fun j h hj => hj.1⟩
    · have : c = it ∨ c = a := by simpa using hcm
      rcases this with rfl | rfl
      · exact .inl rfl
      · exact .inr rfl
    · rintro ⟨ys, y, hy, ey⟩
      rw [I.list_inj hy hq] at ey
      have := (List.getElem?_eq_some_iff.mp ey).1
      simp; omega
    · rintro ⟨ys, hy, ey⟩
      rw [I.list_inj hy hq] at ey
      simp; omega
    · obtain ⟨x, hx, rx⟩ := vals_back rv (i := i) (u := u) (by simpa using hu)
      exact ⟨x, rx, rfl, fun l hl => by rw [I.list_inj hl hq]; exact hx⟩
  | t a =>
    obtain ⟨xs, hq, hi⟩ := hle
    obtain ⟨its, rv, p, _⟩ := I.tuple hq
    have hl := rv.length
    refine ⟨_, _, _, _, Draws.tuple hh it a (hlo a rfl) its.toArray, ⟨hst, p⟩, by simp, fun c hcm => ?_, by simp; omega, ?_, ?_, fun u hu => ?_, fun j h hj => hj.1⟩
    · have : c = it ∨ c = a := by simpa using hcm
      rcases this with rfl | rfl
      · exact .inl rfl
      · exact .inr rfl
    · rintro ⟨ys, y, hy, ey⟩
      rw [I.tuple_inj hy hq] at ey
      have := (List.getElem?_eq_some_iff.mp ey).1
      simp; omega
    · rintro ⟨ys, hy, ey⟩
      rw [I.tuple_inj hy hq] at ey
      simp; omega
    · obtain ⟨x, hx, rx⟩ := vals_back rv (i := i) (u := u) (by simpa using hu)
      exact ⟨x, rx, rfl, fun l hl => by rw [I.tuple_inj hl hq]; exact hx⟩
  | s x =>
    obtain ⟨t, hst⟩ := hst
    refine ⟨_, _, _, _, Draws.text hh it x t, hst, by simp, fun c hcm => .inl (by simpa using hcm), hle, id, id, fun u hu => ?_, fun j h hj => ⟨t, hj⟩⟩
    obtain ⟨c, u', e, rfl⟩ := hu
    exact ⟨.str ⟨#[c]⟩, ⟨u', rfl⟩, rfl, c, e, rfl⟩
end
def ItzG (K : Frg) (z1 z2 : ZS) : It :=
  ⟨fun i H => (z1.it K).go i H ∧ (z2.it K).go i H ∧ z1.le K i H ∧ z2.le K i H,
    fun i H v H' => ∃ T x y, v = .ref T ∧ H T = none ∧ H' = upd H T (.tup [x, y]) ∧ (z1.it K).yld i H x H ∧ (z2.it K).yld i H y H,
    fun i H => z1.le K i H ∧ z2.le K i H ∧ ((z1.it K).stop i H ∨ (z2.it K).stop i H)⟩
def zfp (I : Nat) : List Addr := [I + 4, I + 2, I + 3, I, I + 1]
theorem zfp_mem {I : Nat} {c : Addr} : c ∈ zfp I ↔ c = I + 4 ∨ c = I + 2 ∨ c = I + 3 ∨ c = I ∨ c = I + 1 := by simp [zfp]
theorem turn_zipG {P : Program} {w : World} {K : Frg} {elts : List Expr} {kk : Nat} {tpos : Pos} {z1 z2 : ZS} {I0 : Nat} (lo1 : ∀ a : Nat, z1.ad = some a → a < I0) (lo2 : ∀ a : Nat, z2.ad = some a → a < I0) :
    Turn P w K (.Tuple elts kk tpos) (ItzG K z1 z2) (zfp I0) (I0 + 4) (fun i h => IsZip h (I0 + 4) (I0 + 2) (I0 + 3) .none ∧ IsTupOf2 h (I0 + 2) (.ref I0) (.ref (I0 + 1)) ∧ (∃ x y, IsTupOf2 h (I0 + 3) x y) ∧ z1.st I0 i h ∧ z2.st (I0 + 1) i h) where
  mem := zfp_mem.mpr (.inl rfl)
  obj := fun i h st c hc => by
    obtain ⟨hz, hTI, ⟨x, y, hTO⟩, h1, h2⟩ := st
    rcases zfp_mem.mp hc with rfl | rfl | rfl | rfl | rfl
    · exact ⟨_, hz, fun v q => nomatch q⟩
    · exact ⟨_, hTI, fun v q => nomatch q⟩
    · exact ⟨_, hTO, fun v q => nomatch q⟩
    · exact ZS.st_obj h1
    · exact ZS.st_obj h2
  keep := fun i h h' st k => by
    obtain ⟨hz, hTI, ⟨x, y, hTO⟩, h1, h2⟩ := st
    exact ⟨k _ (zfp_mem.mpr (by simp)) _ hz, k _ (zfp_mem.mpr (by simp)) _ hTI, ⟨x, y, k _ (zfp_mem.mpr (by simp)) _ hTO⟩, ZS.st_at h1 fun o q => k _ (zfp_mem.mpr (by simp)) o q, ZS.st_at h2 fun o q => k _ (zfp_mem.mpr (by simp)) o q⟩
  item := by
    intro X hP hw hK hc i pins s σ H E I hf st hg
    subst hP hw hK
    obtain ⟨hz, hTI, ⟨x0, y0, hTO⟩, h1, h2⟩ := st
    obtain ⟨g1, g2, l1, l2⟩ := hg
    obtain ⟨n1, P1, St1, fp1, D1, s1, m1, f1, _, lt1, _, y1, b1⟩ := zs_draws z1 I hc h1 (fun a e => neA (by have := lo1 a e; omega)) l1
    obtain ⟨n2, P2, St2, fp2, D2, s2, m2, f2, _, lt2, _, y2, b2⟩ := zs_draws z2 I hc h2 (fun a e => neA (by have := lo2 a e; omega)) l2
    have no1 : ∀ c : Nat, I0 < c → c ∉ fp1 := fun c hlt hm => by
      rcases f1 c hm with e | e
      · have := eqA e; omega
      · have := lo1 c e; omega
    have no2 : ∀ c : Nat, I0 ≤ c → c ≠ I0 + 1 → c ∉ fp2 := fun c hlt hne hm => by
      rcases f2 c hm with e | e
      · exact hne e
      · have := lo2 c e; omega
    have S : ZipSep2 (I0 + 4) (I0 + 2) (I0 + 3) I0 (I0 + 1) fp1 fp2 := ⟨neA (by omega), neA (by omega), neA (by omega), neA (by omega), m1, no1 _ (by omega), no1 _ (by omega), neA (by omega), m2, no2 _ (by omega) (by omega), no2 _ (by omega) (by omega), no2 _ (by omega) (by omega), no1 _ (by omega)⟩
    have hzl : I0 + 4 < s.heap.objs.size := Heap.lt_size hz
    refine wpAny_pyNext_zipD2_item S D1 D2 hz hTI hTO s1 s2 (lt1 g1) (lt2 g2) fun u u2 h' tk p1 p2 z' TO' t1 t2 hT hsz hk => ?_
    refine ⟨_, rfl, wpAny_letOwnedTupleGo_zip (s := { s with heap := h', toks := tk }) z' fun h'' z'' sb => ?_⟩
    obtain ⟨x, ru, e1⟩ := y1 u p1
    obtain ⟨y, ru2, e2⟩ := y2 u2 p2
    have hT2 : h''.get? s.heap.objs.size = some { cls := .type "tuple", data := .seq #[u, u2] } := (sb.2 _ (Nat.ne_of_gt hzl)).trans hT
    have new : ObjOk X.prog X.w (upd H s.heap.objs.size (.tup [x, y])) h'' s.heap.objs.size (.tup [x, y]) :=
      ⟨by show 2 ≤ sizeLine; decide, [u, u2], .cons ru (.cons ru2 .nil), ⟨_, hT2, rfl, _, rfl⟩⟩
    have I1 : Inv X pins σ (upd H s.heap.objs.size (.tup [x, y])) { s with heap := h'', toks := tk } :=
      I.turnedNew (t' := tk) (ch := zfp I0) (fun c o hb q => (sb.2 c (fun q' => hb (zfp_mem.mpr (by simp [q'])))).trans (hk c o (fun q' => hb (zfp_mem.mpr (by simp [q']))) (fun q' => hb (zfp_mem.mpr (by simp [q']))) (fun q' => hb (zfp_mem.mpr (by simp [q']))) (fun q' => hb (zfp_mem.mpr (by simp [q']))) q)) hf (Nat.le_refl _) new
    refine ⟨.ref s.heap.objs.size, _, I1, rfl, ⟨_, x, y, rfl, I.hok.fresh (Nat.le_refl _), rfl, e1, e2⟩, ⟨z'', ?_, ⟨u, u2, ?_⟩, ?_, ?_⟩, fun c hcm => ?_⟩
    · exact (sb.2 _ S.TIz).trans (hk _ _ S.TIz S.TITO S.TIi1 S.TIi2 hTI)
    · exact (sb.2 _ S.TOz).trans TO'
    · exact ZS.st_at (b1 _ _ t1) fun o q => (sb.2 _ (neA (by omega))).trans q
    · exact ZS.st_at (b2 _ _ t2) fun o q => (sb.2 _ (neA (by omega))).trans q
    · have hlt : @LT.lt Nat _ c s.heap.objs.size := by
        rcases zfp_mem.mp hcm with q | q | q | q | q <;> (have q' := eqA q; rw [q']; omega)
      rw [upd_ne (Nat.ne_of_lt hlt)]
      exact (hf c hcm).1
  done := by
    intro X hP hw hK hc i pins s σ H E I hf st hg
    subst hP hw hK
    obtain ⟨hz, hTI, ⟨x0, y0, hTO⟩, h1, h2⟩ := st
    obtain ⟨l1, l2, hend⟩ := hg
    obtain ⟨n1, P1, St1, fp1, D1, s1, m1, f1, le1, lt1, ge1, y1, b1⟩ := zs_draws z1 I hc h1 (fun a e => neA (by have := lo1 a e; omega)) l1
    obtain ⟨n2, P2, St2, fp2, D2, s2, m2, f2, le2, lt2, ge2, y2, b2⟩ := zs_draws z2 I hc h2 (fun a e => neA (by have := lo2 a e; omega)) l2
    have no1 : ∀ c : Nat, I0 < c → c ∉ fp1 := fun c hlt hm => by
      rcases f1 c hm with e | e
      · have := eqA e; omega
      · have := lo1 c e; omega
    have no2 : ∀ c : Nat, I0 ≤ c → c ≠ I0 + 1 → c ∉ fp2 := fun c hlt hne hm => by
      rcases f2 c hm with e | e
      · exact hne e
      · have := lo2 c e; omega
    have S : ZipSep2 (I0 + 4) (I0 + 2) (I0 + 3) I0 (I0 + 1) fp1 fp2 := ⟨neA (by omega), neA (by omega), neA (by omega), neA (by omega), m1, no1 _ (by omega), no1 _ (by omega), neA (by omega), m2, no2 _ (by omega) (by omega), no2 _ (by omega) (by omega), no2 _ (by omega) (by omega), no1 _ (by omega)⟩
    refine wpAny_pyNext_zipD2_end S D1 D2 hz hTI hTO s1 s2 le1 le2 (hend.elim (fun z => .inl (Nat.le_antisymm le1 (ge1 z))) fun z => .inr (Nat.le_antisymm le2 (ge2 z))) fun h' tk hk => ⟨rfl, I.turnedL (t' := tk) (ch := zfp I0) (fun c o hb q =>
      hk c o (fun q' => hb (zfp_mem.mpr (by simp [q']))) (fun q' => hb (zfp_mem.mpr (by simp [q']))) (fun q' => hb (zfp_mem.mpr (by simp [q']))) (fun q' => hb (zfp_mem.mpr (by simp [q']))) q) hf⟩
  self := fun A i s Q E st h => wpAny_pyIter_zip st.1 h
/-- where a source begins -/
def ZS.here (K : Frg) : ZS → Hp → Prop
  | .l a, H => ∃ xs : List V, SqL K H a xs
  | .t a, H => ∃ xs : List V, SqT K H a xs
  | .s _, _ => True
def iZipG (K : Frg) (ta : TA) : TI := fun σ H R => ta σ H fun vs H1 => ∃ z1 z2 : ZS, vs = [z1.v, z2.v] ∧ z1.here K H1 ∧ z2.here K H1 ∧ R (ItzG K z1 z2) H1
section
variable {X : Cx} {pins : List (Addr × Obj)} {σ : L2.St} {H : Hp} {s : Shared}
theorem zs_begins (z : ZS) {u : Value} (I : Inv X pins σ H s) (r : RelV z.v u) (hh : z.here X.K H) : ∃ (o : Obj) (Hh : Heap → Prop), Begins u o Hh ∧ Hh s.heap ∧ (∀ (h' : Heap) (c : Addr), h'.get? c = some o → z.st c 0 h') ∧ ∀ a : Nat, z.ad = some a → a < s.heap.objs.size := by
  cases z with
  | l a =>
    obtain ⟨xs, hq⟩ := hh
    obtain ⟨its, rv, p, _⟩ := I.list hq
    obtain rfl : u = Value.ref a := r
    exact ⟨_, _, begins_list a its.toArray, p.isList, fun h' c e => ⟨_, e, rfl, rfl⟩, fun a' e => by cases e; exact p.lt⟩
  | t a =>
    obtain ⟨xs, hq⟩ := hh
    obtain ⟨its, rv, p, _⟩ := I.tuple hq
    obtain rfl : u = Value.ref a := r
    obtain ⟨o1, ho1, _⟩ := id p
    exact ⟨_, _, begins_tuple a its.toArray, p, fun h' c e => ⟨_, e, rfl, rfl⟩, fun a' e => by cases e; exact Heap.lt_size ho1⟩
  | s x =>
    obtain ⟨t, rfl⟩ := r
    exact ⟨_, _, begins_text x t, trivial, fun h' c e => ⟨t, _, e, rfl, rfl⟩, fun a e => by cases e⟩
theorem pi_zipG {e e2 : Expr} {ta : TA} {p pos tpos : Pos} {elts : List Expr} {kk : Nat} (hg : Gl X "zip") (hm : X.mg "zip" = none) (ha : PA X [e, e2] ta)
    (hs : starEach [e, e2] X.env = (false, eval e X.env) :: starEach [e2] X.env := by rfl) (hpl : (backTo pos (starEach [e2] X.env)).any (·.1) = false := by rfl) :
    PI X (.Tuple elts kk tpos) (.Call (.Name "zip" p) [e, e2] [] pos) (iZipG X.K ta) := by
  refine ⟨fun pins s σ H R I h => ?_⟩
  refine Call_ (ld_blt I hg hm PyProof.Rows.boot_zip (PyProof.Rows.callWith_type1 (thn (ha.run pos pins s σ H _ I h) fun us s1 ⟨vs, H1, I1, r1, q1⟩ => ?_) hs hpl))
  obtain ⟨z1, z2, rfl, k1, k2, q⟩ := q1
  cases r1 with
  | cons r rr =>
    cases rr with
    | cons r' rr =>
      cases rr
      rename_i u1 u2
      obtain ⟨o1, H1', B1, hh1, st1, lo1⟩ := zs_begins z1 I1 r k1
      obtain ⟨o2, H2', B2, hh2, st2, lo2⟩ := zs_begins z2 I1 r' k2
      refine zip_begins2 B1 B2 hh1 hh2 fun h' hz hTI hTO e1 e2 hsz hk => wpAny_pyIter_zip hz ?_
      have I2 : Inv X pins σ H1 { s1 with heap := h' } := I1.kept (t' := s1.toks) hk
      refine ⟨s1.heap.objs.size + 4, zfp s1.heap.objs.size, _, _, H1, rfl, I2, turn_zipG lo1 lo2, ⟨hz, hTI, ⟨_, _, hTO⟩, st1 _ _ e1, st2 _ _ e2⟩, fun c hcm => ?_, q⟩
      have hle : @LE.le Nat _ s1.heap.objs.size c := by
        rcases zfp_mem.mp hcm with z | z | z | z | z <;> (have z' := eqA z; rw [z']; omega)
      exact I1.fpOk hle (I1.hok.fresh hle)
end

/-! ### the reading -/
def lenZ : D → Nat
  | .lst _ xs => xs.length
  | .cst xs => xs.length
  | .tup xs => xs.length
  | .str x => x.cps.size
  | _ => 0
inductive ZK where
  | l | t | s
def ZK.is : ZK → D → Bool
  | .l, d => isL d
  | .t, d => isT d
  | .s, d => isS d
def ZK.mk : ZK → V → ZS
  | .l, .ref a => .l a
  | .t, .ref a => .t a
  | .s, .str x => .s x
  | _, _ => .l 0
def ZK.of : D → Option ZK
  | .lst _ _ => some .l
  | .cst _ => some .l
  | .tup _ => some .t
  | .str _ => some .s
  | _ => none
theorem ZK.of_is {d : D} {z : ZK} (h : ZK.of d = some z) : z.is d = true := by
  cases d <;> cases h <;> rfl
theorem it_zs {K : Frg} {H : Hp} {l : List Itm} {v : V} {d : D} (z : ZK) (hi : Items K [] H l) (hm : (some v, d) ∈ l) (hz : z.is d = true) (k : Nat) :
    v = (z.mk v).v ∧ (z.mk v).here K H ∧ (k ≤ lenZ d → (z.mk v).le K k H) ∧ (itD d k = some none → ((z.mk v).it K).stop k H) ∧
      ∀ c, itD d k = some (some c) → ((z.mk v).it K).go k H ∧ ∀ x, ((z.mk v).it K).yld k H x H → Items K [] H ((some x, c) :: l) := by
  obtain ⟨it1, it2, it3, it4⟩ := it_item hi hm k
  cases z with
  | l =>
    cases d with
    | lst b ds =>
      obtain ⟨a, rfl, p1, p2⟩ := it1 b ds rfl
      obtain ⟨a', xs, e, hs, hl, _⟩ := hi.list hm
      cases e
      exact ⟨rfl, ⟨xs, SqL.of hs⟩, fun h => ⟨xs, SqL.of hs, by rw [hl]; exact h⟩, p1, fun c h => ⟨(p2 c h).1, fun x hx => (p2 c h).2 x H hx⟩⟩
    | cst ds =>
      obtain ⟨a, rfl, p1, p2⟩ := it2 ds rfl
      obtain ⟨a', xs, e, hs, hl, _⟩ := hi.const hm
      cases e
      exact ⟨rfl, ⟨xs, hs⟩, fun h => ⟨xs, hs, by rw [hl]; exact h⟩, p1, fun c h => ⟨(p2 c h).1, fun x hx => (p2 c h).2 x H hx⟩⟩
    | _ => cases hz
  | t =>
    cases d with
    | tup ds =>
      obtain ⟨a, rfl, p1, p2⟩ := it3 ds rfl
      obtain ⟨a', xs, e, hs, hl, _⟩ := hi.tuple hm
      cases e
      exact ⟨rfl, ⟨xs, hs⟩, fun h => ⟨xs, hs, by rw [hl]; exact h⟩, p1, fun c h => ⟨(p2 c h).1, fun x hx => (p2 c h).2 x H hx⟩⟩
    | _ => cases hz
  | s =>
    cases d with
    | str x =>
      obtain ⟨rfl, p1, p2⟩ := it4 x rfl
      exact ⟨rfl, trivial, fun h => h, p1, fun c h => ⟨(p2 c h).1, fun y hy => (p2 c h).2 y H hy⟩⟩
    | _ => cases hz
def itZG (p q : ZK) (h h' : Hd) : Src := fun k ρ => if k ≤ lenZ (h.get ρ) ∧ k ≤ lenZ (h'.get ρ) then (itK p.is h k ρ).bind fun o => (itK q.is h' k ρ).map fun o' => match o, o' with
  | some c, some c' => some (D.tup [c, c'])
  | _, _ => none else none
def iZpG (fa : Ev → Option (List Hd × Ev)) : Ev → Option (Src × Ev) := fun ρ => (fa ρ).bind fun p => match p.1 with
  | [h, h'] => (ZK.of (h.get p.2)).bind fun a => (ZK.of (h'.get p.2)).map fun b => (itZG a b h h', p.2)
  | _ => none
theorem di_zipG {X : Cx} {C : List Nat} {e e2 : Expr} {fa : Ev → Option (List Hd × Ev)} {p pos tpos : Pos} {elts : List Expr} {kk : Nat} (hg : Gl X "zip") (hm : X.mg "zip" = none) (ha : DA X [e, e2] fa) (hC : ∀ ρ hds ρ', fa ρ = some (hds, ρ') → ∀ h ∈ hds, hsl C h)
    (hs : starEach [e, e2] X.env = (false, eval e X.env) :: starEach [e2] X.env := by rfl) (hpl : (backTo pos (starEach [e2] X.env)).any (·.1) = false := by rfl) :
    DI X C (.Tuple elts kk tpos) (.Call (.Name "zip" p) [e, e2] [] pos) (iZpG fa) := by
  obtain ⟨t, ht, k⟩ := ha.ex
  refine ⟨_, pi_zipG hg hm ht hs hpl, fun σ H ρ l R it ρ' hl hi hf q => ?_⟩
  obtain ⟨⟨hds, ρ1⟩, e1, hf⟩ := Option.bind_eq_some_iff.mp hf
  refine k σ H ρ l _ hds ρ1 hl hi e1 fun vs H1 l1 a1 i1 => ?_
  have hh := hC ρ hds ρ1 e1
  match hds, vs, hf, a1, i1, hh with
  | [h, h'], [v, v'], hf, ⟨a1, a2, _⟩, i1, hh =>
    obtain ⟨za, ea, hf⟩ := Option.bind_eq_some_iff.mp (show (ZK.of (h.get ρ1)).bind (fun a => (ZK.of (h'.get ρ1)).map fun b => (itZG a b h h', ρ1)) = some (it, ρ') from hf)
    obtain ⟨zb, eb, hf⟩ := Option.map_eq_some_iff.mp hf
    cases hf
    have i1' : Items X.K [] H1 (σ.zip ρ' ++ ((h.its v ++ h'.its v') ++ l)) := by
      have e0 : hits [h, h'] [v, v'] = h.its v ++ h'.its v' := by show h.its v ++ (h'.its v' ++ []) = _; rw [List.append_nil]
      rw [e0] at i1; exact i1.perm perm_mid
    have mem : ∀ (σ1 : Sl) (ρ2 : Ev) (l2 : List Itm), Agr C σ σ1 → σ1.length = σ.length → ρ2.length = σ.length → (some v, h.get ρ2) ∈ σ1.zip ρ2 ++ ((h.its v ++ h'.its v') ++ l2) ∧ (some v', h'.get ρ2) ∈ σ1.zip ρ2 ++ ((h.its v ++ h'.its v') ++ l2) := fun σ1 ρ2 l2 ag h1 h2 => by
      constructor
      · rcases late1 a1 (hh h (by simp)) ag h1 h2 with m | m
        · exact List.mem_append_left _ m
        · exact List.mem_append_right _ (List.mem_append_left _ (List.mem_append_left _ m))
      · rcases late1 a2 (hh h' (by simp)) ag h1 h2 with m | m
        · exact List.mem_append_left _ m
        · exact List.mem_append_right _ (List.mem_append_left _ (List.mem_append_right _ m))
    obtain ⟨m1, m2⟩ := mem σ ρ' l (fun _ _ => rfl) rfl (by omega)
    obtain ⟨ev, hr, _⟩ := it_zs za i1' m1 (ZK.of_is ea) 0
    obtain ⟨ev', hr', _⟩ := it_zs zb i1' m2 (ZK.of_is eb) 0
    refine ⟨za.mk v, zb.mk v', by rw [← ev, ← ev'], hr, hr', q (ItzG X.K (za.mk v) (zb.mk v')) H1 _ l1 i1' fun k σ1 ρ2 H2 l2 ag h1 h2 i2 => ?_⟩
    obtain ⟨m3, m4⟩ := mem σ1 ρ2 l2 ag h1 h2
    unfold itZG itK
    by_cases hle : k ≤ lenZ (h.get ρ2) ∧ k ≤ lenZ (h'.get ρ2)
    · rw [if_pos hle]
      by_cases hL2 : za.is (h.get ρ2) = true
      · rw [if_pos hL2]
        by_cases hL3 : zb.is (h'.get ρ2) = true
        · rw [if_pos hL3]
          obtain ⟨_, _, le1, st1, go1⟩ := it_zs za i2 m3 hL2 k
          obtain ⟨_, _, le2, st2, go2⟩ := it_zs zb i2 m4 hL3 k
          refine ⟨fun hn => ⟨le1 hle.1, le2 hle.2, ?_⟩, fun d hd => ?_⟩
          · obtain ⟨o, eo, hn⟩ := Option.bind_eq_some_iff.mp hn
            obtain ⟨o', eo', eo2⟩ := Option.map_eq_some_iff.mp hn
            cases o with
            | none => exact .inl (st1 eo)
            | some c =>
              cases o' with
              | none => exact .inr (st2 eo')
              | some c' => cases eo2
          · obtain ⟨o, eo, hd⟩ := Option.bind_eq_some_iff.mp hd
            obtain ⟨o', eo', eo2⟩ := Option.map_eq_some_iff.mp hd
            cases o with
            | none => cases eo2
            | some c =>
              cases o' with
              | none => cases eo2
              | some c' =>
                cases eo2
                refine ⟨⟨(go1 c eo).1, (go2 c' eo').1, le1 hle.1, le2 hle.2⟩, fun z H3 hy => ?_⟩
                obtain ⟨T, x', y', rfl, nT, rfl, hx', hy'⟩ := hy
                have i3 := (go1 c eo).2 x' hx'
                obtain ⟨_, _, _, _, go3⟩ := it_zs zb i3 (List.mem_cons_of_mem _ m4) hL3 k
                have i5 := (go3 c' eo').2 y' hy'
                exact Items.newT nT rfl (i5.perm (List.Perm.swap _ _ _))
        · rw [if_neg hL3]
          refine ⟨fun hn => ?_, fun d hd => ?_⟩
          · obtain ⟨o, eo, hn⟩ := Option.bind_eq_some_iff.mp hn; cases hn
          · obtain ⟨o, eo, hd⟩ := Option.bind_eq_some_iff.mp hd; cases hd
      · rw [if_neg hL2]
        exact ⟨fun h => (by cases h), fun d h => (by cases h)⟩
    · rw [if_neg hle]
      exact ⟨fun h => (by cases h), fun d h => (by cases h)⟩
/-! ### reckoning -/
theorem zk_l {o : Bool} {xs : List D} : ZK.of (.lst o xs) = some .l := rfl
theorem zk_c {xs : List D} : ZK.of (.cst xs) = some .l := rfl
theorem zk_t {xs : List D} : ZK.of (.tup xs) = some .t := rfl
theorem zk_s {x : Str} : ZK.of (.str x) = some .s := rfl
theorem W_iZpG {fa : Ev → Option (List Hd × Ev)} {x0 : D} {ρ : Ev} {Q : Src × Ev → Prop} : W (iZpG fa (x0 :: ρ)) Q = W (fa (x0 :: ρ)) fun p => W (match p.1 with
  | [h, h'] => (ZK.of (h.get p.2)).bind fun a => (ZK.of (h'.get p.2)).map fun b => (itZG a b h h', p.2)
  | _ => none) Q := W_bind
/-- the items of one kind, as data -/
def zitems : D → List D
  | .lst _ xs => xs
  | .cst xs => xs
  | .tup xs => xs
  | .str x => x.cps.toList.map fun c => D.str ⟨#[c]⟩
  | _ => []
theorem itD_zat {d : D} {z : ZK} (hz : z.is d = true) (hf : D.frzL (zitems d) = true) (k : Nat) : itD d k = some ((zitems d)[k]?) := by
  rw [D.frzL_all, List.all_eq_true] at hf
  have key : ∀ ds : List D, (∀ x ∈ ds, x.frz = true) → (match ds[k]? with
    | some c => if c.frz = true then some (some c) else none
    | none => some (none : Option D)) = some ds[k]? := fun ds h => by
    cases e : ds[k]? with
    | none => rfl
    | some c =>
      show (if c.frz = true then some (some c) else none) = _
      rw [if_pos (h c (List.mem_of_getElem? e))]
  cases d with
  | lst o xs => exact key xs hf
  | cst xs => exact key xs hf
  | tup xs => exact key xs hf
  | str x =>
    show (match x.cps[k]? with
      | some c => some (some (D.str ⟨#[c]⟩))
      | none => some none) = some ((x.cps.toList.map fun c => D.str ⟨#[c]⟩)[k]?)
    rw [List.getElem?_map, Array.getElem?_toList]
    cases x.cps[k]? <;> rfl
  | _ => cases z <;> cases hz
theorem lenZ_items {d : D} {z : ZK} (hz : z.is d = true) : lenZ d = (zitems d).length := by
  cases d with
  | str x => simp [lenZ, zitems]
  | lst o xs => rfl
  | cst xs => rfl
  | tup xs => rfl
  | _ => cases z <;> cases hz
theorem itZG_at {a b : ZK} {h h' : Hd} {ρ : Ev} {d e : D} (h1 : h.get ρ = d) (h2 : h'.get ρ = e) (z1 : a.is d = true) (z2 : b.is e = true) (f1 : D.frzL (zitems d) = true) (f2 : D.frzL (zitems e) = true) (k : Nat) (hk : k ≤ (zitems d).length ∧ k ≤ (zitems e).length) :
    itZG a b h h' k ρ = some ((List.zipWith (fun c c' => D.tup [c, c']) (zitems d) (zitems e))[k]?) := by
  unfold itZG itK
  rw [h1, h2, if_pos (by rw [lenZ_items z1, lenZ_items z2]; exact hk), if_pos z1, if_pos z2, itD_zat z1 f1, itD_zat z2 f2, List.getElem?_zipWith]
  cases (zitems d)[k]? <;> cases (zitems e)[k]? <;> rfl

/-- for .. in something that stays, the turn's number known to be in it -/
theorem W_listK {it : Src} {ds : List D} {g : D → Ev → Option Ev} {body : Ev → Option Out} {ρ : Ev} {Q : Out → Prop} (P : Nat → Ev → Prop) (h0 : P 0 ρ)
    (hi : ∀ k ρ, k ≤ ds.length → P k ρ → it k ρ = some ds[k]?)
    (hs : ∀ k d ρ, ds[k]? = some d → P k ρ → W (g d ρ) fun ρ1 => W (body ρ1) fun o => match o with
      | .nx ρ2 => P (k + 1) ρ2
      | .ct ρ2 => P (k + 1) ρ2
      | .bk ρ2 => Q (.nx ρ2)
      | .rt d ρ2 => Q (.rt d ρ2))
    (hd : ∀ ρ, P ds.length ρ → Q (.nx ρ)) : W (lrun (fStep it g body) ρ) Q := by
  refine W_lrun (fun k ρ => k ≤ ds.length ∧ P k ρ) (fun k _ => ds.length - k) ⟨Nat.zero_le _, h0⟩ ?_
  rintro k ρ ⟨hk, hp⟩
  unfold fStep
  rw [W_bind, hi k ρ hk hp, W_some]
  cases e : ds[k]? with
  | some d =>
    have h : k < ds.length := (List.getElem?_eq_some_iff.mp e).1
    show W ((g d ρ).bind _) _
    rw [W_bind]
    refine W_mono (hs k d ρ e hp) fun ρ1 h1 => ?_
    rw [W_map]
    refine W_mono h1 fun o ho => ?_
    cases o with
    | nx ρ2 => exact ⟨⟨h, ho⟩, by show ds.length - (k + 1) < ds.length - k; omega⟩
    | ct ρ2 => exact ⟨⟨h, ho⟩, by show ds.length - (k + 1) < ds.length - k; omega⟩
    | bk ρ2 => exact ho
    | rt d ρ2 => exact ho
  | none =>
    have : k = ds.length := by
      have := List.getElem?_eq_none_iff.mp e
      omega
    subst this
    show W (some _) _
    rw [W_some]
    exact hd ρ hp
end Mv
end
section
set_option Elab.async false
set_option linter.all false
set_option maxRecDepth 100000
/-! x, y, z = a, b, c. -/
namespace Mv
open PySem PySem.Spec PyProof.Rows L2
section
variable {X : Cx} {C : List Nat}
def bPar3 (i j m : Nat) (fa : Ev → Option (List Hd × Ev)) : Ev → Option Out := fun ρ => (fa ρ).bind fun p => match tms p.1 with
  | some [d, e, f] => some (.nx (((p.2.set i d).set j e).set m f))
  | _ => none
theorem ds_par3 (i j m : Nat) {x y z : Str} {a b c : Expr} {px py pz pt pos : Pos} {kt k2 pt2} {fa : Ev → Option (List Hd × Ev)} (hc : X.calm = true) (hN : X.N.Nodup) (ha : DA X [a, b, c] fa) (hC : i ∉ C := by decide) (hC2 : j ∉ C := by decide) (hC3 : m ∉ C := by decide) (hi : X.N[i]? = some x := by rfl) (hj : X.N[j]? = some y := by rfl) (hm : X.N[m]? = some z := by rfl)
    (hij : i ≠ j := by decide) (him : i ≠ m := by decide) (hjm : j ≠ m := by decide)
    (hx : X.env.scope.names.lookup x = some .local := by rfl) (hy : X.env.scope.names.lookup y = some .local := by rfl) (hz : X.env.scope.names.lookup z = some .local := by rfl)
    (hw : swappedStores [.Tuple [.Name x px, .Name y py, .Name z pz] kt pt] (.Tuple [a, b, c] k2 pt2) X.env = pure (some [x, y, z]) := by rfl)
    (hs : swapsWithSole [.Tuple [.Name x px, .Name y py, .Name z pz] kt pt] (.Tuple [a, b, c] k2 pt2) pos.line X.env = pure false := by rfl) :
    DS X C (.Assign [.Tuple [.Name x px, .Name y py, .Name z pz] kt pt] (.Tuple [a, b, c] k2 pt2) pos) (bPar3 i j m fa) := by
  obtain ⟨t, ht, k⟩ := ha.ex
  refine ⟨_, ps_par3 hc hN hi hj hm hij him hjm hx hy hz ht hw hs, fun D' σ H ρ l o hl hi hf q => ?_⟩
  obtain ⟨⟨hds, ρ1⟩, e1, hf⟩ := Option.bind_eq_some_iff.mp hf
  split at hf
  · rename_i d e f e2
    cases hf
    refine k σ H ρ l _ hds ρ1 hl hi e1 fun vs H1 l1 a1 i1 => ?_
    obtain ⟨k1, k2⟩ := tms_hits e2 (hats_len a1)
    match vs, k2, k1, i1 with
    | [v, w, u], _, k1, i1 =>
      refine ⟨v, w, u, rfl, ?_⟩
      rw [k1] at i1
      have i2 : Items X.K [] H1 ((some v, d) :: (σ.zip ρ1 ++ ((some w, e) :: (some u, f) :: l))) := i1.perm (.cons _ (by
        have := List.perm_append_comm_assoc [(some w, e), (some u, f)] (σ.zip ρ1) l
        exact this))
      refine q _ H1 (by simp) (by simp; omega) (((Agr.set hC).trans (Agr.set hC2)).trans (Agr.set hC3)) ?_
      have st : ∀ (σ : Sl) (ρ : Ev) (i : Nat) (v : V) (d : D) (l : List Itm), σ.length = ρ.length → Items X.K [] H1 ((some v, d) :: (σ.zip ρ ++ l)) → Items X.K [] H1 ((σ.set i (some v)).zip (ρ.set i d) ++ l) := fun σ ρ i v d l hl hi => by
        by_cases h : i < σ.length
        · exact set_items hl h hi
        · rw [show σ.set i (some v) = σ from List.set_eq_of_length_le (by omega), show ρ.set i d = ρ from List.set_eq_of_length_le (by omega)]
          exact hi.tail
      have i3 := st σ ρ1 i v d _ (by omega) i2
      have i4 := st _ _ j w e _ (by simp; omega) (i3.perm List.perm_middle)
      exact st _ _ m u f l (by simp; omega) (i4.perm List.perm_middle)
  · cases hf
theorem W_bPar3 {x0 : D} {ρ : Ev} {i j m : Nat} {fa : Ev → Option (List Hd × Ev)} {Q : Out → Prop} : W (bPar3 i j m fa (x0 :: ρ)) Q = W (fa (x0 :: ρ)) fun p => W (match tms p.1 with
  | some [d, e, f] => some (.nx (((p.2.set i d).set j e).set m f))
  | _ => none) Q := W_bind
end
end Mv
end
section
set_option Elab.async false
set_option linter.all false
set_option maxRecDepth 100000
set_option exponentiation.threshold 5000
/-! Helpers for the laws' mathematics. -/
namespace Mv
open PySem Mv.PreA
theorem big1 {i : Int} (h : i.natAbs < 2 ^ 64) : i.natAbs < 2 ^ 1900 := Nat.lt_of_lt_of_le h (by decide +kernel)
theorem big4 {i : Int} (h : i.natAbs < 2 ^ 64) : i.natAbs < 2 ^ 4000 := Nat.lt_of_lt_of_le h (by decide +kernel)
theorem divok {j : Int} (h : 0 < j) (h2 : j.natAbs < 2 ^ 64) : DivOk j := ⟨h, big4 h2⟩
theorem mul_lt {a b : Int} {A B : Nat} (ha : a.natAbs < A) (hb : b.natAbs < B) : (a * b).natAbs < A * B := by
  rw [Int.natAbs_mul]
  exact Nat.mul_lt_mul_of_lt_of_lt ha hb
theorem sm_int {n : Nat} {a : Int} (h : a.natAbs < 2 ^ 64) : Sm (n + 1) (.int a) (.int a) := ⟨rfl, big1 h⟩
theorem sm_bl {n : Nat} {a b : Bool} (h : a = b) : Sm (n + 1) (.bl a) (.bl b) := h
theorem sm_non {n : Nat} : Sm (n + 1) .non .non := trivial
theorem sm_str {n : Nat} {a : Str} (h : (reprText a).length ≤ 16777216) : Sm (n + 1) (.str a) (.str a) := ⟨rfl, h⟩
/-- lists of things that are alike, and frozen -/
theorem sm_lst {n : Nat} {o o' : Bool} {α : Type} (l : List α) (f : α → D) (hl : l.length < 2 ^ 62) (h : ∀ x ∈ l, Sm n (f x) (f x) ∧ (f x).frz = true) : Sm (n + 1) (.lst o (l.map f)) (.lst o' (l.map f)) := by
  refine ⟨rfl, by rw [List.length_map]; exact hl, ?_⟩
  intro k a b ha hb
  rw [List.getElem?_map] at ha hb
  obtain ⟨x, hx, rfl⟩ := Option.map_eq_some_iff.mp ha
  rw [hx] at hb
  cases hb
  obtain ⟨h1, h2⟩ := h x (List.mem_of_getElem? hx)
  exact ⟨h1, h2, h2⟩
theorem sm_tup {n : Nat} {α : Type} (l : List α) (f : α → D) (hl : l.length < 2 ^ 62) (h : ∀ x ∈ l, Sm n (f x) (f x) ∧ (f x).frz = true) : Sm (n + 1) (.tup (l.map f)) (.tup (l.map f)) := by
  refine ⟨rfl, by rw [List.length_map]; exact hl, ?_⟩
  intro k a b ha hb
  rw [List.getElem?_map] at ha hb
  obtain ⟨x, hx, rfl⟩ := Option.map_eq_some_iff.mp ha
  rw [hx] at hb
  cases hb
  obtain ⟨h1, h2⟩ := h x (List.mem_of_getElem? hx)
  exact ⟨h1, h2, h2⟩
theorem sm_ints {n : Nat} {o o' : Bool} {l : List Int} (hl : l.length < 2 ^ 62) (h : ∀ x ∈ l, x.natAbs < 2 ^ 64) : Sm (n + 2) (.lst o (l.map D.int)) (.lst o' (l.map D.int)) :=
  sm_lst l D.int hl fun x hx => ⟨sm_int (h x hx), rfl⟩
theorem sm_t2 {n : Nat} {a b c d : D} (h1 : Sm n a c) (h2 : Sm n b d) (z1 : a.frz = true ∧ c.frz = true) (z2 : b.frz = true ∧ d.frz = true) : Sm (n + 1) (.tup [a, b]) (.tup [c, d]) := by
  refine ⟨rfl, by show 2 < _; decide, ?_⟩
  intro k x y hx hy
  match k with
  | 0 => cases hx; cases hy; exact ⟨h1, z1⟩
  | 1 => cases hx; cases hy; exact ⟨h2, z2⟩
  | k + 2 => cases hx
/-! comprehensions over what is written as a list of α -/
theorem W_compM {α : Type} {vs : List Nat} {it : Src} {g : D → Ev → Option Ev} {test : Ev → Option (Bool × Ev)} {elt : Ev → Option (D × Ev)} {ρ : Ev} {Q : D × Ev → Prop} (emb : α → D) (l : List α) (p : α → Bool) (f : α → D) (hn : l.length ≤ 16777216)
    (hi : ∀ k, it k ρ = some (l.map emb)[k]?)
    (hs : ∀ x ∈ l, W (g (emb x) (wipeD ρ vs)) fun ρ1 => W (test ρ1) fun q => q.1 = p x ∧ (if p x = true then W (elt q.2) fun r => r.1 = f x ∧ unw ρ vs r.2 = ρ else unw ρ vs q.2 = ρ))
    (hd : Q (.lst true ((l.filter p).map f), ρ)) : W (lrun (cStep vs it g test elt) ([], ρ)) Q := by
  refine W_compL (ds := l.map emb) (fun k acc ρ' => ρ' = ρ ∧ acc = ((l.take k).filter p).map f) ⟨rfl, by simp⟩ ?_ ?_ ?_
  · rintro k acc ρ' ⟨rfl, rfl⟩
    exact hi k
  · rintro k d acc ρ' hk ⟨rfl, rfl⟩
    rw [List.getElem?_map] at hk
    obtain ⟨x, hx, rfl⟩ := Option.map_eq_some_iff.mp hk
    have hlt : k < l.length := (List.getElem?_eq_some_iff.mp hx).1
    refine W_mono (hs x (List.mem_of_getElem? hx)) fun ρ1 h1 => W_mono h1 fun q ⟨h2, h3⟩ => ?_
    rw [h2]
    have hl : (((l.take k).filter p).map f).length ≤ k := by
      rw [List.length_map]
      exact Nat.le_trans (List.length_filter_le _ _) (by rw [List.length_take]; exact Nat.min_le_left _ _)
    have ht : l.take (k + 1) = l.take k ++ [x] := by rw [List.take_add_one, hx]; rfl
    cases hp : p x
    · rw [hp] at h3
      rw [if_neg (by decide)] at h3
      rw [if_neg (by decide)]
      refine ⟨h3, ?_⟩
      rw [ht, List.filter_append, List.filter_cons_of_neg (by rw [hp]; decide)]
      simp
    · rw [hp, if_pos rfl] at h3
      rw [if_pos rfl]
      refine W_mono h3 fun r ⟨h4, h5⟩ => ⟨by omega, h5, ?_⟩
      rw [ht, List.filter_append, List.filter_cons_of_pos hp, List.map_append, h4]
      rfl
  · rintro acc ρ' ⟨rfl, rfl⟩
    rw [List.length_map, List.take_length]
    exact hd
theorem enum_map {α : Type} (g : α → D) (l : List α) : ((l.map g).mapIdx fun k c => D.tup [.int (k : Nat), c]) = l.zipIdx.map fun e => D.tup [.int (e.2 : Nat), g e.1] := by
  apply List.ext_getElem?
  intro i
  rw [List.getElem?_mapIdx, List.getElem?_map, List.getElem?_map, List.getElem?_zipIdx]
  cases l[i]? <;> simp
theorem zip_map {α β : Type} (g : α → D) (h : β → D) (l : List α) (m : List β) : List.zipWith (fun c c' => D.tup [c, c']) (l.map g) (m.map h) = (l.zip m).map fun e => D.tup [g e.1, h e.2] := by
  apply List.ext_getElem?
  intro i
  show _ = ((List.zipWith Prod.mk l m).map _)[i]?
  rw [List.getElem?_zipWith, List.getElem?_map, List.getElem?_map, List.getElem?_map, List.getElem?_zipWith]
  cases l[i]? <;> cases m[i]? <;> simp
/-- for .. in range: what holds before turn k -/
theorem W_rangeC {lo c : Int} {n : Nat} {g : D → Ev → Option Ev} {body : Ev → Option Out} {ρ : Ev} {Q : Out → Prop} (P : Nat → Ev → Prop) (h0 : P 0 ρ)
    (hs : ∀ k ρ, k < n → P k ρ → W (g (.int (lo + (k : Int) * c)) ρ) fun ρ1 => W (body ρ1) fun o => match o with
      | .nx ρ2 => P (k + 1) ρ2
      | .ct ρ2 => P (k + 1) ρ2
      | .bk ρ2 => Q (.nx ρ2)
      | .rt d ρ2 => Q (.rt d ρ2))
    (hd : ∀ ρ, P n ρ → Q (.nx ρ)) : W (lrun (fStep (itR lo c n) g body) ρ) Q := by
  refine W_lrun (fun k ρ => k ≤ n ∧ P k ρ) (fun k _ => n - k) ⟨Nat.zero_le _, h0⟩ ?_
  rintro k ρ ⟨hk, hp⟩
  unfold fStep
  rw [W_bind]
  unfold itR
  by_cases h : k < n
  · rw [if_pos h, W_some]
    rw [W_bind]
    refine W_mono (hs k ρ h hp) fun ρ1 h1 => ?_
    rw [W_map]
    refine W_mono h1 fun o ho => ?_
    cases o with
    | nx ρ2 => exact ⟨⟨h, ho⟩, by show n - (k + 1) < n - k; omega⟩
    | ct ρ2 => exact ⟨⟨h, ho⟩, by show n - (k + 1) < n - k; omega⟩
    | bk ρ2 => exact ho
    | rt d ρ2 => exact ho
  · rw [if_neg h, W_some]
    have : k = n := by omega
    subst this
    rw [W_some]
    exact hd ρ hp
theorem small_any {a b c : Int} (h : Builtin.Range.small a b c = true) : Builtin.Range.small a b c = true := h
theorem rg_down {a b : Int} (ha : -(2 ^ 62) ≤ a) (ha' : a < 2 ^ 62) (hb : -(2 ^ 62) ≤ b) (hb' : b < 2 ^ 62) : (-1 : Int) ≠ 0 ∧ (-1 : Int).natAbs < 1073741824 ∧ Builtin.Range.small a b (-1) = true := ⟨by decide, by decide, PySem.W.small_down ha ha' hb hb'⟩
theorem rg_size {a b : Int} : (Builtin.Range.rangeSize a b (-1)).toNat = (a - b).toNat := by rw [PySem.W.rangeSize_downNat]; rfl
/-! slices of what is written as a list of α -/
theorem cut_map {α : Type} (f : α → D) (l : List α) (lo hi : Option Int) : cutD (l.map f) lo hi = ((l.drop (HT.sIx l.length 0 lo)).take (HT.sIx l.length l.length hi - HT.sIx l.length 0 lo)).map f := by
  unfold cutD
  rw [List.length_map, List.map_take, List.map_drop]
theorem cut_to {α : Type} (f : α → D) (l : List α) {k : Nat} : cutD (l.map f) none (some (k : Int)) = (l.take k).map f := by
  rw [cut_map, HT.sIx_nat, HT.sIx_none, List.drop_zero, Nat.sub_zero]
  congr 1
  rw [List.take_eq_take_iff]
  omega
theorem cut_from {α : Type} (f : α → D) (l : List α) {k : Nat} : cutD (l.map f) (some (k : Int)) none = (l.drop k).map f := by
  rw [cut_map, HT.sIx_nat, HT.sIx_none]
  congr 1
  by_cases h : k ≤ l.length
  · rw [Nat.min_eq_left h, List.take_of_length_le (by rw [List.length_drop]; omega)]
  · rw [Nat.min_eq_right (by omega), List.drop_eq_nil_of_le (Nat.le_refl _), List.drop_eq_nil_of_le (by omega), List.take_nil]
end Mv
end
section
set_option Elab.async false
set_option linter.all false
set_option maxRecDepth 100000
set_option maxHeartbeats 4000000
set_option exponentiation.threshold 5000
open PySem Mv Mv.PreA
local macro_rules | `(tactic| walk_at "ev") => `(tactic| try simp only [↓W_bCons, ↓W_bNil, ↓W_bBrk, ↓W_bCnt, ↓W_bExp, ↓W_bRet, ↓W_bRetN, ↓W_bIf, ↓W_bAsg, ↓W_bPar, ↓W_bAug, ↓W_eC, ↓W_eV, ↓W_eM, ↓W_hV, ↓W_hE, ↓W_eFz, ↓W_e1, ↓W_e2, ↓W_aNil, ↓W_aCons, ↓W_eN, ↓W_eTup, ↓W_eLst, ↓W_eCall, ↓W_eMut, ↓W_eMt, ↓W_eIf, ↓W_eAn, ↓W_eOr, ↓W_eNo, ↓W_eJ0, ↓W_eJ1, ↓W_tT, ↓W_tB, ↓W_tNo, ↓W_tAn, ↓W_tOr, ↓W_tAll, ↓W_gNm, ↓W_gsNil, ↓W_gsCons, ↓W_gTp, ↓W_gIx, ↓W_bFor, ↓W_bWhile, ↓W_iRg1, ↓W_iRg2, ↓W_iSq, ↓W_eLc, ↓W_eSl, ↓W_pN, ↓W_pS, ↓W_iEn, ↓W_iZp, ↓W_iRv, ↓W_iRg3, ↓W_eCh, ↓W_chIf, ↓W_bind, ↓W_map, ↓W_some, ↓W_none,
  Hd.get, List.getElem?_cons_zero, List.getElem?_cons_succ, List.getD_cons_zero, List.getD_cons_succ, List.set_cons_zero, List.set_cons_succ, List.length_cons, List.length_nil, List.map_cons, List.map_nil, List.replicate, List.cons_append, List.nil_append, Nat.reduceAdd, Nat.reduceSub, Nat.reduceLeDiff, Nat.zero_add,
  D.frz, D.frzL, D.fz, D.fzL, tru_b, tru_i, tru_n, tru_l, tru_t, tru_c, tms, wipeD, unw, lend, unlend, keepL, Option.map_some, Option.bind_some, Bool.and_true, Bool.true_and, Bool.not_true, Bool.not_false, ↓reduceIte, if_true, if_false, Bool.false_eq_true, true_and, and_true, ite_b, ite_nb, vv_fmtI, vv_fmtS, vv_reprI, vv_reprS, vv_addS, vv_lenS, vv_eqS, vv_neS, vv_addL, vv_addT,
  vv_add, vv_sub, vv_mul, vv_div, vv_mod, vv_pow, vv_shl, vv_shr, vv_neg, vv_lt, vv_le, vv_gt, vv_ge, vv_int, vv_intS, vv_intb, vv_abs, vv_gcd, vv_max2, vv_min2, vv_lenL, vv_lenC, vv_lenT, vv_idxL, vv_idxC, vv_idxT, vv_eqI, vv_eqB, vv_neI, vv_list, vv_listT, vv_tuple, vv_tupleT, vv_sum, vv_slL, vv_slS, vv_slT, vv_index, vv_count, isL_l, isL_c, lenL_l, lenL_c, kindL, vv_maxL, vv_minL, vv_strI, vv_app, vv_isNN, vv_isIN, vv_isSN, vv_isBN, vv_isLN, vv_isTN, vv_isBB, vv_isNB, vv_isIB, vv_isSB, vv_isLB, vv_isTB, vv_inNN, vv_inIN, vv_inSN, vv_inBN, vv_inLN, vv_inTN, vv_inBB, atF0, atF1, atF2, atF3, atF4, atF5, okI, okB, okS, okN, okL, ix0, ix1, ix2, frzL_int, fzL_int, intsD_map, isiI_int, isiI_str, isiI_bool, isiI_list, isiI_tuple, isiS_int, isiS_str, isiS_bool, isiS_list, isiS_tuple, isiB_int, isiB_str, isiB_bool, isiB_list, isiB_tuple, isiL_int, isiL_str, isiL_bool, isiL_list, isiL_tuple, isiT_int, isiT_str, isiT_bool, isiT_list, isiT_tuple, isiN_int, isiN_str, isiN_bool, isiN_list, isiN_tuple])

namespace Mv
/-! plain laws of fractions -/
abbrev pr (a b : Int) : D := .tup [.int a, .int b]
theorem pr_frz {a b : Int} : (pr a b).frz = true := rfl
def lowP (t b : Int) : Int := if b < 0 then -t / gd t b else t / gd t b
def lowQ (t b : Int) : Int := if b < 0 then -b / gd t b else b / gd t b
def Red (p q : Int) : Prop := 0 < q ∧ Nat.gcd p.natAbs q.natAbs = 1
theorem gd_pos {t b : Int} (h : b ≠ 0) : 0 < gd t b := by
  unfold gd
  have : 0 < Nat.gcd t.natAbs b.natAbs := Nat.gcd_pos_of_pos_right _ (by omega)
  omega
theorem gd_left {t b : Int} : gd t b ∣ t := Int.ofNat_dvd_left.mpr (Nat.gcd_dvd_left _ _)
theorem gd_right {t b : Int} : gd t b ∣ b := Int.ofNat_dvd_left.mpr (Nat.gcd_dvd_right _ _)
theorem gd_abs {t b : Int} (h : b ≠ 0) : (gd t b).natAbs ≤ b.natAbs := by
  unfold gd
  rw [Int.natAbs_natCast]
  exact Nat.gcd_le_right _ (by omega)
theorem low_red {t b : Int} (h : b ≠ 0) : Red (lowP t b) (lowQ t b) := by
  have hg := gd_pos (t := t) h
  obtain ⟨u, hu⟩ := gd_left (t := t) (b := b)
  obtain ⟨v, hv⟩ := gd_right (t := t) (b := b)
  have e1 : t / gd t b = u := by rw [Int.ediv_eq_iff_eq_mul_right (by omega) gd_left]; exact hu
  have e2 : b / gd t b = v := by rw [Int.ediv_eq_iff_eq_mul_right (by omega) gd_right]; exact hv
  have e3 : -t / gd t b = -u := by rw [Int.neg_ediv_of_dvd gd_left, e1]
  have e4 : -b / gd t b = -v := by rw [Int.neg_ediv_of_dvd gd_right, e2]
  have hc : Nat.gcd u.natAbs v.natAbs = 1 := by
    have h1 : t.natAbs = Nat.gcd t.natAbs b.natAbs * u.natAbs := by
      conv => lhs; rw [hu, Int.natAbs_mul]
      unfold gd; rw [Int.natAbs_natCast]
    have h2 : b.natAbs = Nat.gcd t.natAbs b.natAbs * v.natAbs := by
      conv => lhs; rw [hv, Int.natAbs_mul]
      unfold gd; rw [Int.natAbs_natCast]
    have h3 : 0 < Nat.gcd t.natAbs b.natAbs := Nat.gcd_pos_of_pos_right _ (by omega)
    have h4 : Nat.gcd t.natAbs b.natAbs * Nat.gcd u.natAbs v.natAbs = Nat.gcd t.natAbs b.natAbs * 1 := by rw [← Nat.gcd_mul_left, ← h1, ← h2, Nat.mul_one]
    exact Nat.eq_of_mul_eq_mul_left h3 h4
  unfold lowP lowQ
  have hs1 : 0 < b → 0 < v := fun k => by
    rw [hv] at k
    exact Int.pos_of_mul_pos_right k hg
  have hs2 : b < 0 → v < 0 := fun k => by
    rw [hv] at k
    have k2 : 0 < gd t b * -v := by rw [Int.mul_neg]; omega
    have := Int.pos_of_mul_pos_right k2 hg
    omega
  by_cases hb : b < 0
  · rw [if_pos hb, if_pos hb, e3, e4]
    exact ⟨by have := hs2 hb; omega, by rw [Int.natAbs_neg, Int.natAbs_neg]; exact hc⟩
  · rw [if_neg hb, if_neg hb, e1, e2]
    exact ⟨hs1 (by omega), hc⟩
theorem lowP_le {t b : Int} (h : b ≠ 0) : (lowP t b).natAbs ≤ t.natAbs := by
  have hg := gd_pos (t := t) h
  unfold lowP
  split
  · rw [← Int.natAbs_neg t]; exact Int.natAbs_ediv_le_natAbs _ _
  · exact Int.natAbs_ediv_le_natAbs _ _
theorem lowQ_le {t b : Int} (h : b ≠ 0) : (lowQ t b).natAbs ≤ b.natAbs := by
  unfold lowQ
  split
  · rw [← Int.natAbs_neg b]; exact Int.natAbs_ediv_le_natAbs _ _
  · exact Int.natAbs_ediv_le_natAbs _ _
theorem low_mul {p q k : Int} (h : Red p q) (hk : k ≠ 0) : lowP (p * k) (q * k) = p ∧ lowQ (p * k) (q * k) = q := by
  obtain ⟨hq, hc⟩ := h
  have hg : gd (p * k) (q * k) = (k.natAbs : Int) := by
    unfold gd
    rw [Int.natAbs_mul, Int.natAbs_mul, Nat.gcd_mul_right, hc, Nat.one_mul]
  unfold lowP lowQ
  rw [hg]
  rcases Int.lt_or_gt_of_ne hk with h0 | h0
  · have : q * k < 0 := Int.mul_neg_of_pos_of_neg hq h0
    rw [if_pos this, if_pos this]
    have e : (k.natAbs : Int) = -k := by omega
    rw [e, ← Int.mul_neg, ← Int.mul_neg, Int.mul_ediv_cancel _ (by omega), Int.mul_ediv_cancel _ (by omega)]
    exact ⟨rfl, rfl⟩
  · have : 0 < q * k := Int.mul_pos hq h0
    rw [if_neg (by omega), if_neg (by omega)]
    have e : (k.natAbs : Int) = k := by omega
    rw [e, Int.mul_ediv_cancel _ (by omega), Int.mul_ediv_cancel _ (by omega)]
    exact ⟨rfl, rfl⟩
theorem low_self {p q : Int} (h : Red p q) : lowP p q = p ∧ lowQ p q = q := by
  have := low_mul h (k := 1) (by decide)
  rwa [Int.mul_one, Int.mul_one] at this
theorem fdiv_neg {t g : Int} (hg : 0 < g) (h : g ∣ t) : t.fdiv (-g) = -t / g := by
  obtain ⟨u, rfl⟩ := h
  have e : g * u = -u * -g := by rw [Int.neg_mul_neg, Int.mul_comm]
  rw [Int.neg_ediv_of_dvd ⟨u, rfl⟩, Int.mul_ediv_cancel_left _ (by omega), e, Int.mul_fdiv_cancel _ (by omega)]

end Mv
namespace Mv.Sums
noncomputable def d_fraction : Ev → Option Out := bCons (bAsg (eN gGcd (aCons (hV 0) (aCons (hV 1) aNil))) (gNm 2)) (bCons (bIf (tB' (e2 gLt (hV 1) (hE (eC (.int 0))))) (bAsg (e1 gNeg (hV 2)) (gNm 2)) (bNil)) (bRet (eTup (aCons (hE (e2 gDiv (hV 0) (hV 2))) (aCons (hE (e2 gDiv (hV 1) (hV 2))) aNil)))))
noncomputable def F_fraction : List D → Option (D × List D) := fnD [true, true] 3 d_fraction
noncomputable def d_is_less : Ev → Option Out := bRet (e2 gLt (hE (e2 gMul (hE (e2 gIdx (hV 0) (hE (eC (.int 0))))) (hE (e2 gIdx (hV 1) (hE (eC (.int 1))))))) (hE (e2 gMul (hE (e2 gIdx (hV 1) (hE (eC (.int 0))))) (hE (e2 gIdx (hV 0) (hE (eC (.int 1))))))))
noncomputable def F_is_less : List D → Option (D × List D) := fnD [true, true] 2 d_is_less
noncomputable def d_plus : Ev → Option Out := bRet (eCall 2 F_fraction (aCons (hE (e2 gAdd (hE (e2 gMul (hE (e2 gIdx (hV 0) (hE (eC (.int 0))))) (hE (e2 gIdx (hV 1) (hE (eC (.int 1))))))) (hE (e2 gMul (hE (e2 gIdx (hV 1) (hE (eC (.int 0))))) (hE (e2 gIdx (hV 0) (hE (eC (.int 1))))))))) (aCons (hE (e2 gMul (hE (e2 gIdx (hV 0) (hE (eC (.int 1))))) (hE (e2 gIdx (hV 1) (hE (eC (.int 1))))))) aNil)))
noncomputable def F_plus : List D → Option (D × List D) := fnD [true, true] 2 d_plus
noncomputable def d_minus : Ev → Option Out := bRet (eCall 2 F_fraction (aCons (hE (e2 gSubt (hE (e2 gMul (hE (e2 gIdx (hV 0) (hE (eC (.int 0))))) (hE (e2 gIdx (hV 1) (hE (eC (.int 1))))))) (hE (e2 gMul (hE (e2 gIdx (hV 1) (hE (eC (.int 0))))) (hE (e2 gIdx (hV 0) (hE (eC (.int 1))))))))) (aCons (hE (e2 gMul (hE (e2 gIdx (hV 0) (hE (eC (.int 1))))) (hE (e2 gIdx (hV 1) (hE (eC (.int 1))))))) aNil)))
noncomputable def F_minus : List D → Option (D × List D) := fnD [true, true] 2 d_minus
noncomputable def d_times : Ev → Option Out := bRet (eCall 2 F_fraction (aCons (hE (e2 gMul (hE (e2 gIdx (hV 0) (hE (eC (.int 0))))) (hE (e2 gIdx (hV 1) (hE (eC (.int 0))))))) (aCons (hE (e2 gMul (hE (e2 gIdx (hV 0) (hE (eC (.int 1))))) (hE (e2 gIdx (hV 1) (hE (eC (.int 1))))))) aNil)))
noncomputable def F_times : List D → Option (D × List D) := fnD [true, true] 2 d_times
noncomputable def d_over : Ev → Option Out := bRet (eCall 2 F_fraction (aCons (hE (e2 gMul (hE (e2 gIdx (hV 0) (hE (eC (.int 0))))) (hE (e2 gIdx (hV 1) (hE (eC (.int 1))))))) (aCons (hE (e2 gMul (hE (e2 gIdx (hV 0) (hE (eC (.int 1))))) (hE (e2 gIdx (hV 1) (hE (eC (.int 0))))))) aNil)))
noncomputable def F_over : List D → Option (D × List D) := fnD [true, true] 2 d_over
theorem dok {j : Int} (h : 0 < j) (h2 : j.natAbs < 2 ^ 4000) : DivOk j := ⟨h, h2⟩
theorem ndok {g : Int} (h : 0 < g) : ¬ DivOk (-g) := fun k => by have := k.1; omega
theorem dno {j : Int} (h : j < 0) (h2 : j.natAbs < 2 ^ 4000) : DivNo j := ⟨h, h2⟩
theorem fraction_ok {t b : Int} (hb : b ≠ 0) (hs : b.natAbs < 2 ^ 4000) : F_fraction [.int t, .int b] = some (pr (lowP t b) (lowQ t b), [.int t, .int b]) := by
  have hg := gd_pos (t := t) hb
  have hl := gd_abs (t := t) hb
  have hl2 := Nat.lt_of_le_of_lt hl hs
  apply of_W
  unfold F_fraction
  rw [W_fnD rfl]
  unfold d_fraction
  walk_at "ev"
  split
  · rename_i hb0
    rw [W_no (ndok hg), W_ok (dno (by omega) (by rw [Int.natAbs_neg]; exact hl2)), W_no (ndok hg), W_ok (dno (by omega) (by rw [Int.natAbs_neg]; exact hl2))]
    rw [fdiv_neg hg gd_left, fdiv_neg hg gd_right]
    unfold lowP lowQ
    rw [if_pos hb0, if_pos hb0]
  · rename_i hb0
    rw [W_ok (dok hg hl2), W_ok (dok hg hl2)]
    unfold lowP lowQ
    rw [if_neg hb0, if_neg hb0]
theorem bd_ok {b d : Int} (hb : b.natAbs < 2 ^ 1000) (hd : d.natAbs < 2 ^ 64) (h1 : b ≠ 0) (h2 : d ≠ 0) : b * d ≠ 0 ∧ (b * d).natAbs < 2 ^ 4000 :=
  ⟨Int.mul_ne_zero h1 h2, Nat.lt_of_lt_of_le (mul_lt hb hd) (by rw [← Nat.pow_add]; exact Nat.pow_le_pow_right (by decide) (by decide))⟩
section
variable {a b c d : Int} (hc : c.natAbs < 2 ^ 64) (hd : d.natAbs < 2 ^ 64) (hb : b.natAbs < 2 ^ 1000) (hd0 : d ≠ 0) (hb0 : b ≠ 0)
include hc hd hb hd0 hb0
theorem plus_ok : F_plus [pr a b, pr c d] = some (pr (lowP (a * d + c * b) (b * d)) (lowQ (a * d + c * b) (b * d)), [pr a b, pr c d]) := by
  obtain ⟨e1, e2⟩ := bd_ok hb hd hb0 hd0
  apply of_W
  unfold F_plus
  rw [W_fnD rfl]
  unfold d_plus
  walk_at "ev"
  rw [W_ok (MulOk.right hd)]
  rw [W_ok (MulOk.left hc)]
  walk_at "ev"
  rw [W_ok (MulOk.right hd), W_eq (fraction_ok e1 e2)]
  walk_at "ev"
theorem minus_ok : F_minus [pr a b, pr c d] = some (pr (lowP (a * d - c * b) (b * d)) (lowQ (a * d - c * b) (b * d)), [pr a b, pr c d]) := by
  obtain ⟨e1, e2⟩ := bd_ok hb hd hb0 hd0
  apply of_W
  unfold F_minus
  rw [W_fnD rfl]
  unfold d_minus
  walk_at "ev"
  rw [W_ok (MulOk.right hd)]
  rw [W_ok (MulOk.left hc)]
  walk_at "ev"
  rw [W_ok (MulOk.right hd), W_eq (fraction_ok e1 e2)]
  walk_at "ev"
theorem times_ok : F_times [pr a b, pr c d] = some (pr (lowP (a * c) (b * d)) (lowQ (a * c) (b * d)), [pr a b, pr c d]) := by
  obtain ⟨e1, e2⟩ := bd_ok hb hd hb0 hd0
  apply of_W
  unfold F_times
  rw [W_fnD rfl]
  unfold d_times
  walk_at "ev"
  rw [W_ok (MulOk.right hc)]
  rw [W_ok (MulOk.right hd), W_eq (fraction_ok e1 e2)]
  walk_at "ev"
theorem over_ok (hc0 : c ≠ 0) : F_over [pr a b, pr c d] = some (pr (lowP (a * d) (b * c)) (lowQ (a * d) (b * c)), [pr a b, pr c d]) := by
  obtain ⟨e1, e2⟩ := bd_ok hb hc hb0 hc0
  apply of_W
  unfold F_over
  rw [W_fnD rfl]
  unfold d_over
  walk_at "ev"
  rw [W_ok (MulOk.right hd)]
  rw [W_ok (MulOk.right hc), W_eq (fraction_ok e1 e2)]
  walk_at "ev"
theorem less_ok : F_is_less [pr a b, pr c d] = some (.bl (decide (a * d < c * b)), [pr a b, pr c d]) := by
  apply of_W
  unfold F_is_less
  rw [W_fnD rfl]
  unfold d_is_less
  walk_at "ev"
  rw [W_ok (MulOk.right hd)]
  rw [W_ok (MulOk.left hc)]
  walk_at "ev"
end
end Mv.Sums
namespace Mv
theorem euclid {a b : Int} (ha : 0 ≤ a) (hb : 0 < b) : Nat.gcd b.natAbs (a % b).natAbs = Nat.gcd a.natAbs b.natAbs := by
  have h1 : (a % b).natAbs = a.natAbs % b.natAbs := by
    have e : a = (a.natAbs : Int) := by omega
    have e2 : b = (b.natAbs : Int) := by omega
    conv => lhs; rw [e, e2]
    rw [← Int.natCast_emod, Int.natAbs_natCast]
  rw [h1, Nat.gcd_comm a.natAbs, Nat.gcd_rec b.natAbs a.natAbs, Nat.gcd_comm]
theorem halve {a b : Int} (hb : 0 < b) (h : b < a) : 2 * (b * (a % b)) < a * b := by
  have h1 := Int.emod_nonneg a (b := b) (by omega)
  have h2 := Int.emod_lt_of_pos a hb
  have h3 := Int.mul_ediv_add_emod a b
  have h4 : 1 ≤ a / b := by
    rw [Int.le_ediv_iff_mul_le hb]; omega
  have h5 : b ≤ b * (a / b) := by
    have := Int.mul_le_mul_of_nonneg_left h4 (by omega : 0 ≤ b)
    omega
  have h6 : 2 * (a % b) < a := by omega
  have h7 := Int.mul_lt_mul_of_pos_left h6 hb
  rw [Int.mul_left_comm, Int.mul_comm a b]
  exact h7
theorem gd_zero {a : Int} (h : 0 ≤ a) : gd a 0 = a := by
  unfold gd
  rw [Int.natAbs_zero, Nat.gcd_zero_right]; omega
end Mv
end
section
set_option Elab.async false
set_option linter.all false
set_option maxRecDepth 100000
set_option maxHeartbeats 4000000
set_option exponentiation.threshold 5000
open PySem Mv Mv.PreA
local macro_rules | `(tactic| walk_at "ev") => `(tactic| try simp only [↓W_bCons, ↓W_bNil, ↓W_bBrk, ↓W_bCnt, ↓W_bExp, ↓W_bRet, ↓W_bRetN, ↓W_bIf, ↓W_bAsg, ↓W_bPar, ↓W_bAug, ↓W_eC, ↓W_eV, ↓W_eM, ↓W_hV, ↓W_hE, ↓W_eFz, ↓W_e1, ↓W_e2, ↓W_aNil, ↓W_aCons, ↓W_eN, ↓W_eTup, ↓W_eLst, ↓W_eCall, ↓W_eMut, ↓W_eMt, ↓W_eIf, ↓W_eAn, ↓W_eOr, ↓W_eNo, ↓W_eJ0, ↓W_eJ1, ↓W_tT, ↓W_tB, ↓W_tNo, ↓W_tAn, ↓W_tOr, ↓W_tAll, ↓W_gNm, ↓W_gsNil, ↓W_gsCons, ↓W_gTp, ↓W_gIx, ↓W_bFor, ↓W_bWhile, ↓W_iRg1, ↓W_iRg2, ↓W_iSq, ↓W_eLc, ↓W_eSl, ↓W_pN, ↓W_pS, ↓W_iEn, ↓W_iZp, ↓W_iRv, ↓W_iRg3, ↓W_iRgV, ↓W_eCh, ↓W_chIf, ↓W_bind, ↓W_map, ↓W_some, ↓W_none,
  Hd.get, List.getElem?_cons_zero, List.getElem?_cons_succ, List.getD_cons_zero, List.getD_cons_succ, List.set_cons_zero, List.set_cons_succ, List.length_cons, List.length_nil, List.map_cons, List.map_nil, List.replicate, List.cons_append, List.nil_append, Nat.reduceAdd, Nat.reduceSub, Nat.reduceLeDiff, Nat.zero_add,
  D.frz, D.frzL, D.fz, D.fzL, tru_b, tru_i, tru_n, tru_l, tru_t, tru_c, tms, wipeD, unw, lend, unlend, keepL, Option.map_some, Option.bind_some, Bool.and_true, Bool.true_and, Bool.not_true, Bool.not_false, ↓reduceIte, if_true, if_false, Bool.false_eq_true, true_and, and_true, ite_b, ite_nb, vv_fmtI, vv_fmtS, vv_reprI, vv_reprS, vv_addS, vv_lenS, vv_eqS, vv_neS, vv_addL, vv_addT,
  vv_add, vv_sub, vv_mul, vv_div, vv_mod, vv_pow, vv_shl, vv_shr, vv_neg, vv_lt, vv_le, vv_gt, vv_ge, vv_int, vv_intS, vv_intb, vv_abs, vv_gcd, vv_max2, vv_min2, vv_lenL, vv_lenC, vv_lenT, vv_idxL, vv_idxC, vv_idxT, vv_eqI, vv_eqB, vv_neI, vv_list, vv_listT, vv_tuple, vv_tupleT, vv_sum, vv_slL, vv_slS, vv_slT, vv_range, vv_index, vv_count, isL_l, isL_c, lenL_l, lenL_c, kindL, vv_maxL, vv_minL, vv_strI, vv_app, vv_isNN, vv_isIN, vv_isSN, vv_isBN, vv_isLN, vv_isTN, vv_isBB, vv_isNB, vv_isIB, vv_isSB, vv_isLB, vv_isTB, vv_inNN, vv_inIN, vv_inSN, vv_inBN, vv_inLN, vv_inTN, vv_inBB, atF0, atF1, atF2, atF3, atF4, atF5, okI, okB, okS, okN, okL, ix0, ix1, ix2, frzL_int, fzL_int, intsD_map, isiI_int, isiI_str, isiI_bool, isiI_list, isiI_tuple, isiS_int, isiS_str, isiS_bool, isiS_list, isiS_tuple, isiB_int, isiB_str, isiB_bool, isiB_list, isiB_tuple, isiL_int, isiL_str, isiL_bool, isiL_list, isiL_tuple, isiT_int, isiT_str, isiT_bool, isiT_list, isiT_tuple, isiN_int, isiN_str, isiN_bool, isiN_list, isiN_tuple])
local macro_rules | `(tactic| walk_at "mu") => `(tactic| repeat (first | (rw [W_ok (MulOk.right (by omega))]; walk_at "ev") | (rw [W_ok (MulOk.left (by omega))]; walk_at "ev") | (rw [W_ok (divok (by omega) (by omega))]; walk_at "ev") | (rw [W_ok (by omega)]; walk_at "ev")))
namespace Mv
/-! fractions in lowest terms, told by any top and bottom -/
abbrev fr (t b : Int) : D := pr (lowP t b) (lowQ t b)
theorem fr_frz {t b : Int} : (fr t b).frz = true := rfl
theorem fr_fz {t b : Int} : (fr t b).fz = fr t b := rfl
theorem low_id {t b : Int} (h : b ≠ 0) : lowP t b * b = t * lowQ t b ∧ 0 < lowQ t b := by
  refine ⟨?_, (low_red h).1⟩
  have hg := gd_pos (t := t) h
  obtain ⟨u, hu⟩ := gd_left (t := t) (b := b)
  obtain ⟨v, hv⟩ := gd_right (t := t) (b := b)
  have e1 : t / gd t b = u := by rw [Int.ediv_eq_iff_eq_mul_right (by omega) gd_left]; exact hu
  have e2 : b / gd t b = v := by rw [Int.ediv_eq_iff_eq_mul_right (by omega) gd_right]; exact hv
  have e3 : -t / gd t b = -u := by rw [Int.neg_ediv_of_dvd gd_left, e1]
  have e4 : -b / gd t b = -v := by rw [Int.neg_ediv_of_dvd gd_right, e2]
  unfold lowP lowQ
  rw [e1, e2, e3, e4]
  generalize gd t b = g at *
  subst hu
  split
  · rw [hv]; grind
  · rw [hv]; grind
theorem low_cross {t b t' b' : Int} (h : b ≠ 0) (h' : b' ≠ 0) (e : t * b' = t' * b) : lowP t b = lowP t' b' ∧ lowQ t b = lowQ t' b' := by
  obtain ⟨i1, i2⟩ := low_id (t := t) h
  have hr := low_red (t := t) h
  generalize lowP t b = p at *
  generalize lowQ t b = q at *
  have e1 : p * b' = q * t' := by
    have : b * (p * b') = b * (q * t') := by grind
    exact Int.eq_of_mul_eq_mul_left h this
  have hd : q.natAbs ∣ p.natAbs * b'.natAbs := by
    rw [← Int.natAbs_mul, e1, Int.natAbs_mul]; exact Nat.dvd_mul_right _ _
  have hd2 : q.natAbs ∣ b'.natAbs := Nat.Coprime.dvd_of_dvd_mul_left (Nat.Coprime.symm hr.2) hd
  obtain ⟨k, hk⟩ := Int.natAbs_dvd_natAbs.mp hd2
  have e2 : t' = p * k := by
    have : q * t' = q * (p * k) := by rw [← e1, hk]; grind
    exact Int.eq_of_mul_eq_mul_left (by omega) this
  have hk0 : k ≠ 0 := fun z => h' (by rw [hk, z, Int.mul_zero])
  obtain ⟨m1, m2⟩ := low_mul hr hk0
  rw [e2, hk, m1, m2]
  exact ⟨rfl, rfl⟩
theorem fr_cross {t b t' b' : Int} (h : b ≠ 0) (h' : b' ≠ 0) (e : t * b' = t' * b) : fr t b = fr t' b' := by
  obtain ⟨e1, e2⟩ := low_cross h h' e
  unfold fr
  rw [e1, e2]
theorem fr_zero {b : Int} (h : b ≠ 0) : fr 0 b = pr 0 1 := by
  rw [fr_cross h (t' := 0) (b' := 1) (by decide) (by omega)]
  rfl
theorem fr_one {a : Int} : fr a 1 = pr a 1 := by
  have h : Red a 1 := ⟨by decide, Nat.gcd_one_right _⟩
  unfold fr
  rw [(low_self h).1, (low_self h).2]
theorem low_le {t b : Int} (h : b ≠ 0) : (lowP t b).natAbs ≤ t.natAbs ∧ (lowQ t b).natAbs ≤ b.natAbs := ⟨lowP_le h, lowQ_le h⟩
theorem sm_fr {n : Nat} {t b : Int} (h : b ≠ 0) (h1 : t.natAbs < 2 ^ 64) (h2 : b.natAbs < 2 ^ 64) : Sm (n + 2) (fr t b) (fr t b) := by
  have := low_le (t := t) h
  exact sm_t2 (sm_int (by omega)) (sm_int (by omega)) ⟨rfl, rfl⟩ ⟨rfl, rfl⟩
section
variable {a b c d : Int} (hc : c.natAbs < 2 ^ 64) (hd : d.natAbs < 2 ^ 64) (hb : b.natAbs < 2 ^ 1000) (hd0 : d ≠ 0) (hb0 : b ≠ 0)
include hc hd hb hd0 hb0
theorem plusF : Sums.F_plus [fr a b, fr c d] = some (fr (a * d + c * b) (b * d), [fr a b, fr c d]) := by
  have l1 := low_le (t := a) hb0
  have l2 := low_le (t := c) hd0
  obtain ⟨i1, i2⟩ := low_id (t := a) hb0
  obtain ⟨j1, j2⟩ := low_id (t := c) hd0
  have := Sums.plus_ok (a := lowP a b) (b := lowQ a b) (c := lowP c d) (d := lowQ c d) (by omega) (by omega) (by omega) (by omega) (by omega)
  unfold fr
  rw [this]
  have e := low_cross (t := lowP a b * lowQ c d + lowP c d * lowQ a b) (b := lowQ a b * lowQ c d) (t' := a * d + c * b) (b' := b * d) (Int.mul_ne_zero (by omega) (by omega)) (Int.mul_ne_zero hb0 hd0) (by grind)
  rw [e.1, e.2]
theorem minusF : Sums.F_minus [fr a b, fr c d] = some (fr (a * d - c * b) (b * d), [fr a b, fr c d]) := by
  have l1 := low_le (t := a) hb0
  have l2 := low_le (t := c) hd0
  obtain ⟨i1, i2⟩ := low_id (t := a) hb0
  obtain ⟨j1, j2⟩ := low_id (t := c) hd0
  have := Sums.minus_ok (a := lowP a b) (b := lowQ a b) (c := lowP c d) (d := lowQ c d) (by omega) (by omega) (by omega) (by omega) (by omega)
  unfold fr
  rw [this]
  have e := low_cross (t := lowP a b * lowQ c d - lowP c d * lowQ a b) (b := lowQ a b * lowQ c d) (t' := a * d - c * b) (b' := b * d) (Int.mul_ne_zero (by omega) (by omega)) (Int.mul_ne_zero hb0 hd0) (by grind)
  rw [e.1, e.2]
theorem timesF : Sums.F_times [fr a b, fr c d] = some (fr (a * c) (b * d), [fr a b, fr c d]) := by
  have l1 := low_le (t := a) hb0
  have l2 := low_le (t := c) hd0
  obtain ⟨i1, i2⟩ := low_id (t := a) hb0
  obtain ⟨j1, j2⟩ := low_id (t := c) hd0
  have := Sums.times_ok (a := lowP a b) (b := lowQ a b) (c := lowP c d) (d := lowQ c d) (by omega) (by omega) (by omega) (by omega) (by omega)
  unfold fr
  rw [this]
  have e := low_cross (t := lowP a b * lowP c d) (b := lowQ a b * lowQ c d) (t' := a * c) (b' := b * d) (Int.mul_ne_zero (by omega) (by omega)) (Int.mul_ne_zero hb0 hd0) (by grind)
  rw [e.1, e.2]
theorem overF (hc0 : c ≠ 0) : Sums.F_over [fr a b, fr c d] = some (fr (a * d) (b * c), [fr a b, fr c d]) := by
  have l1 := low_le (t := a) hb0
  have l2 := low_le (t := c) hd0
  obtain ⟨i1, i2⟩ := low_id (t := a) hb0
  obtain ⟨j1, j2⟩ := low_id (t := c) hd0
  have hp : lowP c d ≠ 0 := fun z => by
    rw [z, Int.zero_mul] at j1
    rcases Int.mul_eq_zero.mp j1.symm with h | h
    · exact hc0 h
    · omega
  have := Sums.over_ok (a := lowP a b) (b := lowQ a b) (c := lowP c d) (d := lowQ c d) (by omega) (by omega) (by omega) (by omega) (by omega) hp
  unfold fr
  rw [this]
  have e := low_cross (t := lowP a b * lowQ c d) (b := lowQ a b * lowP c d) (t' := a * d) (b' := b * c) (Int.mul_ne_zero (by omega) hp) (Int.mul_ne_zero hb0 hc0) (by grind)
  rw [e.1, e.2]
theorem lessF (hbp : 0 < b) (hdp : 0 < d) : Sums.F_is_less [fr a b, fr c d] = some (.bl (decide (a * d < c * b)), [fr a b, fr c d]) := by
  have l1 := low_le (t := a) hb0
  have l2 := low_le (t := c) hd0
  obtain ⟨i1, i2⟩ := low_id (t := a) hb0
  obtain ⟨j1, j2⟩ := low_id (t := c) hd0
  have := Sums.less_ok (a := lowP a b) (b := lowQ a b) (c := lowP c d) (d := lowQ c d) (by omega) (by omega) (by omega) (by omega) (by omega)
  unfold fr
  rw [this]
  have e : (lowP a b * lowQ c d < lowP c d * lowQ a b) ↔ (a * d < c * b) := by
    have h1 : 0 < b * d := Int.mul_pos hbp hdp
    have h2 : 0 < lowQ a b * lowQ c d := Int.mul_pos i2 j2
    rw [← Int.mul_lt_mul_right h1, show lowP a b * lowQ c d * (b * d) = (a * d) * (lowQ a b * lowQ c d) by grind, show lowP c d * lowQ a b * (b * d) = (c * b) * (lowQ a b * lowQ c d) by grind, Int.mul_lt_mul_right h2]
  rw [decide_eq_decide.mpr e]
end
theorem fractionF {t b : Int} (hb : b ≠ 0) (hs : b.natAbs < 2 ^ 4000) : Sums.F_fraction [.int t, .int b] = some (fr t b, [.int t, .int b]) := Sums.fraction_ok hb hs
end Mv
end
section
set_option Elab.async false
set_option linter.all false
set_option maxRecDepth 100000
set_option maxHeartbeats 4000000
set_option exponentiation.threshold 5000
open PySem Mv Mv.PreA
local macro_rules | `(tactic| walk_at "ev") => `(tactic| try simp only [↓W_bCons, ↓W_bNil, ↓W_bBrk, ↓W_bCnt, ↓W_bExp, ↓W_bRet, ↓W_bRetN, ↓W_bIf, ↓W_bAsg, ↓W_bPar, ↓W_bAug, ↓W_eC, ↓W_eV, ↓W_eM, ↓W_hV, ↓W_hE, ↓W_eFz, ↓W_e1, ↓W_e2, ↓W_aNil, ↓W_aCons, ↓W_eN, ↓W_eTup, ↓W_eLst, ↓W_eCall, ↓W_eMut, ↓W_eMt, ↓W_eIf, ↓W_eAn, ↓W_eOr, ↓W_eNo, ↓W_eJ0, ↓W_eJ1, ↓W_tT, ↓W_tB, ↓W_tNo, ↓W_tAn, ↓W_tOr, ↓W_tAll, ↓W_gNm, ↓W_gsNil, ↓W_gsCons, ↓W_gTp, ↓W_gIx, ↓W_bFor, ↓W_bWhile, ↓W_iRg1, ↓W_iRg2, ↓W_iSq, ↓W_eLc, ↓W_eSl, ↓W_pN, ↓W_pS, ↓W_iEn, ↓W_iZp, ↓W_iRv, ↓W_iRg3, ↓W_iRgV, ↓W_eCh, ↓W_chIf, ↓W_bind, ↓W_map, ↓W_some, ↓W_none,
  Hd.get, List.getElem?_cons_zero, List.getElem?_cons_succ, List.getD_cons_zero, List.getD_cons_succ, List.set_cons_zero, List.set_cons_succ, List.length_cons, List.length_nil, List.map_cons, List.map_nil, List.replicate, List.cons_append, List.nil_append, Nat.reduceAdd, Nat.reduceSub, Nat.reduceLeDiff, Nat.zero_add,
  D.frz, D.frzL, D.fz, D.fzL, tru_b, tru_i, tru_n, tru_l, tru_t, tru_c, tms, wipeD, unw, lend, unlend, keepL, Option.map_some, Option.bind_some, Bool.and_true, Bool.true_and, Bool.not_true, Bool.not_false, ↓reduceIte, if_true, if_false, Bool.false_eq_true, true_and, and_true, ite_b, ite_nb, vv_fmtI, vv_fmtS, vv_reprI, vv_reprS, vv_addS, vv_lenS, vv_eqS, vv_neS, vv_addL, vv_addT,
  vv_add, vv_sub, vv_mul, vv_div, vv_mod, vv_pow, vv_shl, vv_shr, vv_neg, vv_lt, vv_le, vv_gt, vv_ge, vv_int, vv_intS, vv_intb, vv_abs, vv_gcd, vv_max2, vv_min2, vv_lenL, vv_lenC, vv_lenT, vv_idxL, vv_idxC, vv_idxT, vv_eqI, vv_eqB, vv_neI, vv_list, vv_listT, vv_tuple, vv_tupleT, vv_sum, vv_slL, vv_slS, vv_slT, vv_range, vv_index, vv_count, isL_l, isL_c, lenL_l, lenL_c, kindL, vv_maxL, vv_minL, vv_strI, vv_app, vv_isNN, vv_isIN, vv_isSN, vv_isBN, vv_isLN, vv_isTN, vv_isBB, vv_isNB, vv_isIB, vv_isSB, vv_isLB, vv_isTB, vv_inNN, vv_inIN, vv_inSN, vv_inBN, vv_inLN, vv_inTN, vv_inBB, atF0, atF1, atF2, atF3, atF4, atF5, okI, okB, okS, okN, okL, ix0, ix1, ix2, frzL_int, fzL_int, intsD_map, isiI_int, isiI_str, isiI_bool, isiI_list, isiI_tuple, isiS_int, isiS_str, isiS_bool, isiS_list, isiS_tuple, isiB_int, isiB_str, isiB_bool, isiB_list, isiB_tuple, isiL_int, isiL_str, isiL_bool, isiL_list, isiL_tuple, isiT_int, isiT_str, isiT_bool, isiT_list, isiT_tuple, isiN_int, isiN_str, isiN_bool, isiN_list, isiN_tuple])
local macro_rules | `(tactic| walk_at "mu") => `(tactic| repeat (first | (rw [W_ok (MulOk.right (by omega))]; walk_at "ev") | (rw [W_ok (MulOk.left (by omega))]; walk_at "ev") | (rw [W_ok (divok (by omega) (by omega))]; walk_at "ev") | (rw [W_ok (by omega)]; walk_at "ev")))
namespace Mv.PreB
noncomputable def d_law_draw : Ev → Option Out := bCons (bAsg (e2 gAdd (hE (e2 gIdx (hV 0) (hE (eC (.int 1))))) (hE (eC (.int 1)))) (gIx 0 (hE (eC (.int 1))))) (bCons (bIf (tB' (e2 gGt (hE (e2 gIdx (hV 0) (hE (eC (.int 1))))) (hE (eN gLen (aCons (hE (e2 gIdx (hV 0) (hE (eC (.int 0))))) aNil))))) (bRet (e2 gMod (hE (eN gInt (aCons (hE (e2 gAdd (hE (e2 gAdd (hE (e2 gIdx (hE (e2 gIdx (hV 0) (hE (eC (.int 0))))) (hE (e2 gMod (hE (eN gInt (aCons (hE (e2 gMul (hE (e2 gIdx (hV 0) (hE (eC (.int 1))))) (hE (eC (.int 31))))) aNil))) (hE (eN gLen (aCons (hE (e2 gIdx (hV 0) (hE (eC (.int 0))))) aNil))))))) (hE (e2 gMul (hE (e2 gIdx (hV 0) (hE (eC (.int 1))))) (hE (eC (.int 7))))))) (hE (eC (.int 3))))) aNil))) (hV 1))) (bNil)) (bRet (e2 gMod (hE (eN gInt (aCons (hE (e2 gIdx (hE (e2 gIdx (hV 0) (hE (eC (.int 0))))) (hE (e2 gSubt (hE (e2 gIdx (hV 0) (hE (eC (.int 1))))) (hE (eC (.int 1))))))) aNil))) (hV 1))))
noncomputable def F_law_draw : List D → Option (D × List D) := fnD [true, true] 2 d_law_draw
noncomputable def d_law_pick : Ev → Option Out := bRet (e2 gIdx (hV 1) (hE (eCall 2 F_law_draw (aCons (hV 0) (aCons (hE (eN gLen (aCons (hV 1) aNil))) aNil)))))
noncomputable def F_law_pick : List D → Option (D × List D) := fnD [true, true] 2 d_law_pick
def drw (ds : List Int) (n m : Int) : Int := if (ds.length : Int) < n + 1 then (ds.getD (((n + 1) * 31) % (ds.length : Int)).toNat 0 + (n + 1) * 7 + 3) % m else ds.getD n.toNat 0 % m
theorem drw_nn {ds : List Int} {n m : Int} (hm : 0 < m) : 0 ≤ drw ds n m := by
  unfold drw
  split <;> exact Int.emod_nonneg _ (by omega)
theorem drw_lt {ds : List Int} {n m : Int} (hm : 0 < m) : drw ds n m < m := by
  unfold drw
  split <;> exact Int.emod_lt_of_pos _ hm
theorem draw_ok {ds : List Int} {n m : Int} (h0 : ds ≠ []) (hn : 0 ≤ n) (hm : 0 < m) : F_law_draw [bx ds n, .int m] = some (.int (drw ds n m), [bx ds (n + 1), .int m]) := by
  have hl : (0 : Int) < ds.length := by
    cases ds with
    | nil => exact absurd rfl h0
    | cons _ _ => simp
  apply of_W
  unfold F_law_draw bx
  rw [W_fnD rfl]
  unfold d_law_draw
  walk_at "ev"
  rw [List.length_map]
  unfold drw
  split
  · rename_i h
    rw [W_ok (MulOk.right (by decide))]
    walk_at "ev"
    rw [W_ok hl]
    walk_at "ev"
    obtain ⟨k, hk⟩ := Int.eq_ofNat_of_zero_le (show 0 ≤ (n + 1) * 31 % (ds.length : Int) from Int.emod_nonneg _ (by omega))
    have hk2 : k < ds.length := by
      have := Int.emod_lt_of_pos ((n + 1) * 31) hl
      omega
    rw [hk, atF_nat, List.getElem?_map, List.getElem?_eq_getElem hk2]
    show W (okD (.int ds[k])) _
    rw [okI, W_some]
    walk_at "ev"
    rw [W_ok (MulOk.right (by decide))]
    walk_at "ev"
    rw [W_ok hm]
    simp [hk2]
  · rename_i h
    obtain ⟨k, rfl⟩ := Int.eq_ofNat_of_zero_le hn
    have hk : k < ds.length := by omega
    rw [Int.add_sub_cancel, atF_nat, List.getElem?_map, List.getElem?_eq_getElem hk]
    show W (okD (.int ds[k])) _
    rw [okI, W_some]
    walk_at "ev"
    rw [W_ok hm]
    simp [hk]
theorem pick_ok {ds : List Int} {n : Int} {o : Bool} {xs : List D} (h0 : ds ≠ []) (hn : 0 ≤ n) (hx : xs ≠ []) : ∃ j, ∃ h : j < xs.length, F_law_pick [bx ds n, .lst o xs] = (okD xs[j]).map fun x => (x, [bx ds (n + 1), .lst o xs]) := by
  have hl : (0 : Int) < xs.length := by
    cases xs with
    | nil => exact absurd rfl hx
    | cons _ _ => simp
  obtain ⟨j, hj⟩ := Int.eq_ofNat_of_zero_le (drw_nn (ds := ds) (n := n) hl)
  have hj2 : j < xs.length := by
    have := drw_lt (ds := ds) (n := n) hl
    omega
  refine ⟨j, hj2, ?_⟩
  have key : ∀ (Q : D × List D → Prop), W (F_law_pick [bx ds n, .lst o xs]) Q = W (okD xs[j]) fun x => Q (x, [bx ds (n + 1), .lst o xs]) := fun Q => by
    unfold F_law_pick
    rw [W_fnD rfl]
    unfold d_law_pick
    walk_at "ev"
    have e := draw_ok (ds := ds) (n := n) (m := (xs.length : Int)) h0 hn hl
    unfold bx at e ⊢
    walk_at "ev"
    rw [W_eq e]
    cases o <;> (walk_at "ev"; rw [hj, atF_nat, List.getElem?_eq_getElem hj2]; rfl)
  cases h : okD xs[j] with
  | some x =>
    apply of_W
    rw [key, h, W_some]
  | none =>
    cases h2 : F_law_pick [bx ds n, .lst o xs] with
    | none => rfl
    | some r =>
      have := key fun _ => True
      rw [h, h2, W_some, W_none] at this
      exact absurd (this ▸ trivial : False) (by simp)
theorem pick_int {ds : List Int} {n : Int} {o : Bool} (ks : List Int) (h0 : ds ≠ []) (hn : 0 ≤ n) (hk : ks ≠ []) : ∃ k ∈ ks, F_law_pick [bx ds n, .lst o (ks.map D.int)] = some (.int k, [bx ds (n + 1), .lst o (ks.map D.int)]) := by
  obtain ⟨j, hj, e⟩ := pick_ok (ds := ds) (n := n) (o := o) (xs := ks.map D.int) h0 hn (by simpa using hk)
  have hj2 : j < ks.length := by simpa using hj
  refine ⟨ks[j], List.getElem_mem hj2, ?_⟩
  rw [e, List.getElem_map]
  rfl
end Mv.PreB
end
section
set_option Elab.async false
set_option linter.all false
set_option maxRecDepth 100000
set_option maxHeartbeats 4000000
set_option exponentiation.threshold 5000
open PySem Mv Mv.PreA
local macro_rules | `(tactic| walk_at "ev") => `(tactic| try simp only [↓W_bCons, ↓W_bNil, ↓W_bBrk, ↓W_bCnt, ↓W_bExp, ↓W_bRet, ↓W_bRetN, ↓W_bIf, ↓W_bAsg, ↓W_bPar, ↓W_bAug, ↓W_eC, ↓W_eV, ↓W_eM, ↓W_hV, ↓W_hE, ↓W_eFz, ↓W_e1, ↓W_e2, ↓W_aNil, ↓W_aCons, ↓W_eN, ↓W_eTup, ↓W_eLst, ↓W_eCall, ↓W_eMut, ↓W_eMt, ↓W_eIf, ↓W_eAn, ↓W_eOr, ↓W_eNo, ↓W_eJ0, ↓W_eJ1, ↓W_tT, ↓W_tB, ↓W_tNo, ↓W_tAn, ↓W_tOr, ↓W_tAll, ↓W_gNm, ↓W_gsNil, ↓W_gsCons, ↓W_gTp, ↓W_gIx, ↓W_bFor, ↓W_bWhile, ↓W_iRg1, ↓W_iRg2, ↓W_iSq, ↓W_eLc, ↓W_eSl, ↓W_pN, ↓W_pS, ↓W_iEn, ↓W_iZp, ↓W_iRv, ↓W_iRg3, ↓W_iRgV, ↓W_eCh, ↓W_chIf, ↓W_bind, ↓W_map, ↓W_some, ↓W_none,
  Hd.get, List.getElem?_cons_zero, List.getElem?_cons_succ, List.getD_cons_zero, List.getD_cons_succ, List.set_cons_zero, List.set_cons_succ, List.length_cons, List.length_nil, List.map_cons, List.map_nil, List.replicate, List.cons_append, List.nil_append, Nat.reduceAdd, Nat.reduceSub, Nat.reduceLeDiff, Nat.zero_add,
  D.frz, D.frzL, D.fz, D.fzL, tru_b, tru_i, tru_n, tru_l, tru_t, tru_c, tms, wipeD, unw, lend, unlend, keepL, Option.map_some, Option.bind_some, Bool.and_true, Bool.true_and, Bool.not_true, Bool.not_false, ↓reduceIte, if_true, if_false, Bool.false_eq_true, true_and, and_true, ite_b, ite_nb, vv_fmtI, vv_fmtS, vv_reprI, vv_reprS, vv_addS, vv_augI, vv_augS, vv_lenS, vv_eqS, vv_neS, vv_addL, vv_addT,
  vv_add, vv_sub, vv_mul, vv_div, vv_mod, vv_pow, vv_shl, vv_shr, vv_neg, vv_lt, vv_le, vv_gt, vv_ge, vv_int, vv_intS, vv_intb, vv_abs, vv_gcd, vv_max2, vv_min2, vv_lenL, vv_lenC, vv_lenT, vv_idxL, vv_idxC, vv_idxT, vv_eqI, vv_eqB, vv_neI, vv_list, vv_listT, vv_tuple, vv_tupleT, vv_sum, vv_slL, vv_slS, vv_slT, vv_range, vv_index, vv_count, isL_l, isL_c, lenL_l, lenL_c, kindL, vv_maxL, vv_minL, vv_strI, vv_app, vv_isNN, vv_isIN, vv_isSN, vv_isBN, vv_isLN, vv_isTN, vv_isBB, vv_isNB, vv_isIB, vv_isSB, vv_isLB, vv_isTB, vv_inNN, vv_inIN, vv_inSN, vv_inBN, vv_inLN, vv_inTN, vv_inBB, atF0, atF1, atF2, atF3, atF4, atF5, okI, okB, okS, okN, okL, ix0, ix1, ix2, frzL_int, fzL_int, intsD_map, isiI_int, isiI_str, isiI_bool, isiI_list, isiI_tuple, isiS_int, isiS_str, isiS_bool, isiS_list, isiS_tuple, isiB_int, isiB_str, isiB_bool, isiB_list, isiB_tuple, isiL_int, isiL_str, isiL_bool, isiL_list, isiL_tuple, isiT_int, isiT_str, isiT_bool, isiT_list, isiT_tuple, isiN_int, isiN_str, isiN_bool, isiN_list, isiN_tuple])
local macro_rules | `(tactic| walk_at "mu") => `(tactic| repeat (first | (rw [W_ok (MulOk.right (by omega))]; walk_at "ev") | (rw [W_ok (MulOk.left (by omega))]; walk_at "ev") | (rw [W_ok (divok (by omega) (by omega))]; walk_at "ev") | (rw [W_ok (by omega)]; walk_at "ev")))
namespace Mv
/-! fractions as rational numbers -/
abbrev rt (r : Rat) : D := pr r.num (r.den : Int)
theorem rt_red (r : Rat) : Red r.num (r.den : Int) := ⟨by have := r.den_pos; omega, by rw [Int.natAbs_natCast]; exact r.reduced⟩
theorem rat_nd (r : Rat) : r = (r.num : Rat) / ((r.den : Int) : Rat) := by rw [← Rat.divInt_eq_div, Rat.num_divInt_den]
theorem den_ne (r : Rat) : (r.den : Int) ≠ 0 := by have := r.den_pos; omega
theorem cast_ne {b : Int} (h : b ≠ 0) : (b : Rat) ≠ 0 := fun k => h (Rat.intCast_eq_zero_iff.mp k)
theorem num_low {t b : Int} (hb : b ≠ 0) : lowP t b = ((t : Rat) / (b : Rat)).num ∧ lowQ t b = (((t : Rat) / (b : Rat)).den : Int) := by
  generalize hr : (t : Rat) / (b : Rat) = r
  have h1 := rat_nd r
  have h2 := cast_ne hb
  have h3 := cast_ne (den_ne r)
  have e : t * (r.den : Int) = r.num * b := by
    have : ((t * (r.den : Int) : Int) : Rat) = ((r.num * b : Int) : Rat) := by
      rw [Rat.intCast_mul, Rat.intCast_mul]
      generalize ((r.den : Int) : Rat) = d at *
      generalize (r.num : Rat) = n at *
      grind
    exact Rat.intCast_inj.mp this
  obtain ⟨c1, c2⟩ := low_cross (t := t) (b := b) (t' := r.num) (b' := (r.den : Int)) hb (den_ne r) e
  obtain ⟨s1, s2⟩ := low_self (rt_red r)
  rw [c1, c2]
  exact ⟨s1, s2⟩
theorem fr_rt {t b : Int} (hb : b ≠ 0) : fr t b = rt ((t : Rat) / (b : Rat)) := by
  obtain ⟨e1, e2⟩ := num_low (t := t) hb
  show pr _ _ = pr _ _
  rw [e1, e2]
theorem rt_int (n : Int) : rt (n : Rat) = pr n 1 := by
  show pr _ _ = pr _ _
  rw [Rat.num_intCast, Rat.den_intCast]; rfl
/-- top and bottom are below 2 ^ n -/
def Sz (n : Nat) (r : Rat) : Prop := r.num.natAbs < 2 ^ n ∧ r.den < 2 ^ n
theorem Sz.mono {m n : Nat} {r : Rat} (h : Sz m r) (k : m ≤ n) : Sz n r := ⟨Nat.lt_of_lt_of_le h.1 (Nat.pow_le_pow_right (by decide) k), Nat.lt_of_lt_of_le h.2 (Nat.pow_le_pow_right (by decide) k)⟩
theorem sz_of {t b : Int} {n : Nat} (hb : b ≠ 0) (h1 : t.natAbs < 2 ^ n) (h2 : b.natAbs < 2 ^ n) : Sz n ((t : Rat) / (b : Rat)) := by
  obtain ⟨e1, e2⟩ := num_low (t := t) hb
  obtain ⟨l1, l2⟩ := low_le (t := t) hb
  refine ⟨by rw [← e1]; omega, ?_⟩
  have : (((t : Rat) / (b : Rat)).den : Int).natAbs = ((t : Rat) / (b : Rat)).den := Int.natAbs_natCast _
  rw [← this, ← e2]; omega
theorem Sz.den {n : Nat} {r : Rat} (h : Sz n r) : (r.den : Int).natAbs < 2 ^ n := by rw [Int.natAbs_natCast]; exact h.2
theorem rat_mul (r s : Rat) : r * s = ((r.num * s.num : Int) : Rat) / (((r.den : Int) * (s.den : Int) : Int) : Rat) := by
  have h1 := rat_nd r
  have h2 := rat_nd s
  have h3 := cast_ne (den_ne r)
  have h4 := cast_ne (den_ne s)
  rw [Rat.intCast_mul, Rat.intCast_mul]
  generalize ((r.den : Int) : Rat) = d at *
  generalize (r.num : Rat) = n at *
  generalize ((s.den : Int) : Rat) = d' at *
  generalize (s.num : Rat) = n' at *
  grind
theorem rat_add (r s : Rat) : r + s = ((r.num * (s.den : Int) + s.num * (r.den : Int) : Int) : Rat) / (((r.den : Int) * (s.den : Int) : Int) : Rat) := by
  have h1 := rat_nd r
  have h2 := rat_nd s
  have h3 := cast_ne (den_ne r)
  have h4 := cast_ne (den_ne s)
  rw [Rat.intCast_add, Rat.intCast_mul, Rat.intCast_mul, Rat.intCast_mul]
  generalize ((r.den : Int) : Rat) = d at *
  generalize (r.num : Rat) = n at *
  generalize ((s.den : Int) : Rat) = d' at *
  generalize (s.num : Rat) = n' at *
  grind
theorem rat_sub (r s : Rat) : r - s = ((r.num * (s.den : Int) - s.num * (r.den : Int) : Int) : Rat) / (((r.den : Int) * (s.den : Int) : Int) : Rat) := by
  have h1 := rat_nd r
  have h2 := rat_nd s
  have h3 := cast_ne (den_ne r)
  have h4 := cast_ne (den_ne s)
  rw [Rat.intCast_sub, Rat.intCast_mul, Rat.intCast_mul, Rat.intCast_mul]
  generalize ((r.den : Int) : Rat) = d at *
  generalize (r.num : Rat) = n at *
  generalize ((s.den : Int) : Rat) = d' at *
  generalize (s.num : Rat) = n' at *
  grind
theorem num_ne {s : Rat} (h : s ≠ 0) : s.num ≠ 0 := fun k => h (Rat.num_eq_zero.mp k)
theorem rat_div (r : Rat) {s : Rat} (hs : s ≠ 0) : r / s = ((r.num * (s.den : Int) : Int) : Rat) / (((r.den : Int) * s.num : Int) : Rat) := by
  have h1 := rat_nd r
  have h2 := rat_nd s
  have h3 := cast_ne (den_ne r)
  have h4 := cast_ne (den_ne s)
  have h5 := cast_ne (num_ne hs)
  rw [Rat.intCast_mul, Rat.intCast_mul]
  generalize ((r.den : Int) : Rat) = d at *
  generalize (r.num : Rat) = n at *
  generalize ((s.den : Int) : Rat) = d' at *
  generalize (s.num : Rat) = n' at *
  grind
theorem pow_pos' {n : Nat} : 0 < 2 ^ n := Nat.pow_pos (by decide)
theorem mul_sz {a b : Int} {m n : Nat} (h1 : a.natAbs < 2 ^ m) (h2 : b.natAbs < 2 ^ n) : (a * b).natAbs < 2 ^ (m + n) := by
  rw [Int.natAbs_mul, Nat.pow_add]
  exact Nat.mul_lt_mul'' h1 h2
theorem add_sz {a b : Int} {m : Nat} (h1 : a.natAbs < 2 ^ m) (h2 : b.natAbs < 2 ^ m) : (a + b).natAbs < 2 ^ (m + 1) := by
  rw [Nat.pow_succ]; omega
theorem sub_sz {a b : Int} {m : Nat} (h1 : a.natAbs < 2 ^ m) (h2 : b.natAbs < 2 ^ m) : (a - b).natAbs < 2 ^ (m + 1) := by
  rw [Nat.pow_succ]; omega
theorem up_sz {a : Nat} {m n : Nat} (h : a < 2 ^ m) (k : m ≤ n) : a < 2 ^ n := Nat.lt_of_lt_of_le h (Nat.pow_le_pow_right (by decide) k)
theorem Sz.mul {m n : Nat} {r s : Rat} (h1 : Sz m r) (h2 : Sz n s) : Sz (m + n) (r * s) := by
  rw [rat_mul]
  exact sz_of (Int.mul_ne_zero (den_ne r) (den_ne s)) (mul_sz h1.1 h2.1) (mul_sz h1.den h2.den)
theorem Sz.add {m n : Nat} {r s : Rat} (h1 : Sz m r) (h2 : Sz n s) : Sz (m + n + 1) (r + s) := by
  rw [rat_add]
  refine sz_of (Int.mul_ne_zero (den_ne r) (den_ne s)) (add_sz (mul_sz h1.1 h2.den) ?_) (up_sz (mul_sz h1.den h2.den) (by omega))
  rw [Nat.add_comm]
  exact mul_sz h2.1 h1.den
theorem Sz.sub {m n : Nat} {r s : Rat} (h1 : Sz m r) (h2 : Sz n s) : Sz (m + n + 1) (r - s) := by
  rw [rat_sub]
  refine sz_of (Int.mul_ne_zero (den_ne r) (den_ne s)) (sub_sz (mul_sz h1.1 h2.den) ?_) (up_sz (mul_sz h1.den h2.den) (by omega))
  rw [Nat.add_comm]
  exact mul_sz h2.1 h1.den
theorem Sz.div {m n : Nat} {r s : Rat} (h1 : Sz m r) (h2 : Sz n s) (hs : s ≠ 0) : Sz (m + n) (r / s) := by
  rw [rat_div r hs]
  exact sz_of (Int.mul_ne_zero (den_ne r) (num_ne hs)) (mul_sz h1.1 h2.den) (mul_sz h1.den h2.1)
theorem MulOk.both {i j : Int} (h : i.natAbs < 2 ^ 4000) (k : j.natAbs < 2 ^ 4000) : MulOk i j := .inr (.inr ⟨h, k⟩)
section
variable {m n : Nat} {r s : Rat} (hr : Sz m r) (hs : Sz n s) (hm : m ≤ 1500) (hn : n ≤ 1500)
include hr hs hm hn
theorem plusR : Sums.F_plus [rt r, rt s] = some (rt (r + s), [rt r, rt s]) := by
  have a1 := up_sz hr.1 (show m ≤ 4000 by omega)
  have a2 := up_sz hr.den (show m ≤ 4000 by omega)
  have b1 := up_sz hs.1 (show n ≤ 4000 by omega)
  have b2 := up_sz hs.den (show n ≤ 4000 by omega)
  have e1 := Int.mul_ne_zero (den_ne r) (den_ne s)
  have e2 := up_sz (mul_sz hr.den hs.den) (show m + n ≤ 4000 by omega)
  apply of_W
  unfold Sums.F_plus
  rw [W_fnD rfl]
  unfold Sums.d_plus
  walk_at "ev"
  rw [W_ok (MulOk.both a1 b2)]
  rw [W_ok (MulOk.both b1 a2)]
  walk_at "ev"
  rw [W_ok (MulOk.both a2 b2), W_eq (fractionF e1 e2)]
  rw [fr_rt e1, ← rat_add]
  walk_at "ev"
theorem minusR : Sums.F_minus [rt r, rt s] = some (rt (r - s), [rt r, rt s]) := by
  have a1 := up_sz hr.1 (show m ≤ 4000 by omega)
  have a2 := up_sz hr.den (show m ≤ 4000 by omega)
  have b1 := up_sz hs.1 (show n ≤ 4000 by omega)
  have b2 := up_sz hs.den (show n ≤ 4000 by omega)
  have e1 := Int.mul_ne_zero (den_ne r) (den_ne s)
  have e2 := up_sz (mul_sz hr.den hs.den) (show m + n ≤ 4000 by omega)
  apply of_W
  unfold Sums.F_minus
  rw [W_fnD rfl]
  unfold Sums.d_minus
  walk_at "ev"
  rw [W_ok (MulOk.both a1 b2)]
  rw [W_ok (MulOk.both b1 a2)]
  walk_at "ev"
  rw [W_ok (MulOk.both a2 b2), W_eq (fractionF e1 e2)]
  rw [fr_rt e1, ← rat_sub]
  walk_at "ev"
theorem timesR : Sums.F_times [rt r, rt s] = some (rt (r * s), [rt r, rt s]) := by
  have a1 := up_sz hr.1 (show m ≤ 4000 by omega)
  have a2 := up_sz hr.den (show m ≤ 4000 by omega)
  have b1 := up_sz hs.1 (show n ≤ 4000 by omega)
  have b2 := up_sz hs.den (show n ≤ 4000 by omega)
  have e1 := Int.mul_ne_zero (den_ne r) (den_ne s)
  have e2 := up_sz (mul_sz hr.den hs.den) (show m + n ≤ 4000 by omega)
  apply of_W
  unfold Sums.F_times
  rw [W_fnD rfl]
  unfold Sums.d_times
  walk_at "ev"
  rw [W_ok (MulOk.both a1 b1)]
  walk_at "ev"
  rw [W_ok (MulOk.both a2 b2), W_eq (fractionF e1 e2)]
  rw [fr_rt e1, ← rat_mul]
  walk_at "ev"
theorem overR (h0 : s ≠ 0) : Sums.F_over [rt r, rt s] = some (rt (r / s), [rt r, rt s]) := by
  have a1 := up_sz hr.1 (show m ≤ 4000 by omega)
  have a2 := up_sz hr.den (show m ≤ 4000 by omega)
  have b1 := up_sz hs.1 (show n ≤ 4000 by omega)
  have b2 := up_sz hs.den (show n ≤ 4000 by omega)
  have e1 := Int.mul_ne_zero (den_ne r) (num_ne h0)
  have e2 := up_sz (mul_sz hr.den hs.1) (show m + n ≤ 4000 by omega)
  apply of_W
  unfold Sums.F_over
  rw [W_fnD rfl]
  unfold Sums.d_over
  walk_at "ev"
  rw [W_ok (MulOk.both a1 b2)]
  walk_at "ev"
  rw [W_ok (MulOk.both a2 b1), W_eq (fractionF e1 e2)]
  rw [fr_rt e1, ← rat_div r h0]
  walk_at "ev"
theorem lessR : Sums.F_is_less [rt r, rt s] = some (.bl (decide (r < s)), [rt r, rt s]) := by
  have a1 := up_sz hr.1 (show m ≤ 4000 by omega)
  have a2 := up_sz hr.den (show m ≤ 4000 by omega)
  have b1 := up_sz hs.1 (show n ≤ 4000 by omega)
  have b2 := up_sz hs.den (show n ≤ 4000 by omega)
  apply of_W
  unfold Sums.F_is_less
  rw [W_fnD rfl]
  unfold Sums.d_is_less
  walk_at "ev"
  rw [W_ok (MulOk.both a1 b2)]
  rw [W_ok (MulOk.both b1 a2)]
  walk_at "ev"
  rw [decide_eq_decide.mpr (Rat.lt_iff r s).symm]
end
theorem sm_rt {n m : Nat} {r : Rat} (h : Sz m r) (k : m ≤ 64) : Sm (n + 2) (rt r) (rt r) := by
  have a1 := up_sz h.1 k
  have a2 := up_sz h.den k
  exact sm_t2 (sm_int a1) (sm_int a2) ⟨rfl, rfl⟩ ⟨rfl, rfl⟩
theorem rt_inj {r s : Rat} (h : rt r = rt s) : r = s := by
  have h1 : r.num = s.num ∧ (r.den : Int) = (s.den : Int) := by
    injection h with h
    injection h with h1 h2
    injection h2 with h2 _
    injection h1 with h1
    injection h2 with h2
    exact ⟨h1, h2⟩
  rw [rat_nd r, rat_nd s, h1.1, h1.2]
end Mv
namespace Mv.PreB
noncomputable def d_law_part : Ev → Option Out := bCons (bPar 2 3 (aCons (hE (eN gAbs (aCons (hV 0) aNil))) (aCons (hE (eN gAbs (aCons (hV 1) aNil))) aNil))) (bCons (bWhile (tB' (e2 gGt (hV 3) (hE (eC (.int 0))))) (bPar 2 3 (aCons (hE (eV 3)) (aCons (hE (e2 gMod (hE (eN gInt (aCons (hV 2) aNil))) (hV 3))) aNil)))) (bCons (bIf (tB' (e2 gLt (hV 1) (hE (eC (.int 0))))) (bAsg (e1 gNeg (hV 2)) (gNm 2)) (bNil)) (bRet (eTup (aCons (hE (e2 gDiv (hV 0) (hV 2))) (aCons (hE (e2 gDiv (hV 1) (hV 2))) aNil))))))
noncomputable def F_law_part : List D → Option (D × List D) := fnD [true, true] 4 d_law_part
def partC : Ev → Option (Bool × Ev) := tB' (e2 gGt (hV 3) (hE (eC (.int 0))))
def partB : Ev → Option Out := bPar 2 3 (aCons (hE (eV 3)) (aCons (hE (e2 gMod (hE (eN gInt (aCons (hV 2) aNil))) (hV 3))) aNil))
theorem part_fr {t b : Int} (hb : b ≠ 0) (hs : b.natAbs < 2 ^ 4000) : F_law_part [.int t, .int b] = some (fr t b, [.int t, .int b]) := by
  have hg := gd_pos (t := t) hb
  have hl := gd_abs (t := t) hb
  have hl2 := Nat.lt_of_le_of_lt hl hs
  apply of_W
  unfold F_law_part
  rw [W_fnD rfl]
  unfold d_law_part
  change W (bCons _ (bCons (bWhile partC partB) _) _) _
  walk_at "ev"
  refine W_while (fun ρ => ∃ one rest : Int, ρ = [.int t, .int b, .int one, .int rest] ∧ 0 ≤ one ∧ 0 ≤ rest ∧ gd one rest = gd t b) (fun ρ => match ρ.getD 3 .any with | .int r => r.toNat | _ => 0) ?_ ?_
  · refine ⟨_, _, rfl, by split <;> omega, by split <;> omega, ?_⟩
    unfold gd
    congr 2
    · split <;> omega
    · split <;> omega
  · rintro ρ ⟨one, rest, rfl, h1, h2, h3⟩
    unfold partC partB
    walk_at "ev"
    split
    · rename_i h
      have h4 := Int.emod_nonneg one (show rest ≠ 0 by omega)
      have h5 := Int.emod_lt_of_pos one h
      rw [W_some]
      refine ⟨⟨rest, one % rest, rfl, by omega, h4, ?_⟩, ?_⟩
      · rw [← h3]
        unfold gd
        rw [euclid h1 h]
      · simp only [List.getD_cons_succ, List.getD_cons_zero]
        omega
    · rename_i h
      have h0 : rest = 0 := by omega
      subst h0
      rw [gd_zero h1] at h3
      subst h3
      walk_at "ev"
      split
      · rename_i hb0
        rw [W_no (Sums.ndok hg), W_ok (Sums.dno (by omega) (by rw [Int.natAbs_neg]; exact hl2)), W_no (Sums.ndok hg), W_ok (Sums.dno (by omega) (by rw [Int.natAbs_neg]; exact hl2))]
        rw [fdiv_neg hg gd_left, fdiv_neg hg gd_right]
        unfold fr lowP lowQ
        rw [if_pos hb0, if_pos hb0]
      · rename_i hb0
        rw [W_ok (Sums.dok hg hl2), W_ok (Sums.dok hg hl2)]
        unfold fr lowP lowQ
        rw [if_neg hb0, if_neg hb0]
theorem part_rt {t b : Int} (hb : b ≠ 0) (hs : b.natAbs < 2 ^ 4000) : F_law_part [.int t, .int b] = some (rt ((t : Rat) / (b : Rat)), [.int t, .int b]) := by
  rw [part_fr hb hs, fr_rt hb]
end Mv.PreB
end
section
set_option Elab.async false
set_option linter.all false
set_option maxHeartbeats 4000000
open PySem
namespace Mv
/-! ### lists of embedded values: equality -/
section
variable {α : Type} [DecidableEq α] {f : α → D} (E : Emb f) {o o' : Bool}
include E
theorem eqvAll_map : ∀ xs ys : List α, PyData.eqvAll (D.pdL (xs.map f)) (D.pdL (ys.map f)) = decide (xs = ys)
  | [], [] => by simp [D.pdL, PyData.eqvAll]
  | [], y :: ys => by simp [D.pdL, PyData.eqvAll]
  | x :: xs, [] => by simp [D.pdL, PyData.eqvAll]
  | x :: xs, y :: ys => by
    rw [List.map_cons, List.map_cons, D.pdL, D.pdL, PyData.eqvAll, eqvAll_map xs ys, E.eq]
    by_cases h : x = y <;> by_cases k : xs = ys <;> simp [h, k]
theorem gEq_emb (xs ys : List α) : gEq (.lst o (xs.map f)) (.lst o' (ys.map f)) = some (.bl (decide (xs = ys))) := by
  rw [gEq_data rfl (ok_mono (emb_lok E xs) (by decide)) (ok_mono (emb_lok E ys) (by decide))]
  rw [D.pd, D.pd, PyData.eqv, eqvAll_map E]
theorem gNe_emb (xs ys : List α) : gNe (.lst o (xs.map f)) (.lst o' (ys.map f)) = some (.bl (!decide (xs = ys))) := by
  rw [gNe_data rfl (ok_mono (emb_lok E xs) (by decide)) (ok_mono (emb_lok E ys) (by decide))]
  rw [D.pd, D.pd, PyData.eqv, eqvAll_map E]
end
theorem emb_tup2 {α β : Type} [DecidableEq α] [DecidableEq β] {f : α → D} {g : β → D} (hf : ∀ x, D.ok 59 (f x)) (hg : ∀ y, D.ok 59 (g y)) (ef : ∀ x y, PyData.eqv (f x).pd (f y).pd = decide (x = y)) (eg : ∀ x y, PyData.eqv (g x).pd (g y).pd = decide (x = y)) : Emb fun e : α × β => D.tup [f e.1, g e.2] := ⟨fun e => ok_tup fun d hd => by
    simp only [List.mem_cons, List.not_mem_nil, or_false] at hd
    rcases hd with rfl | rfl
    · exact hf _
    · exact hg _, fun e e' => by
  simp only [D.pd, D.pdL, PyData.eqv, PyData.eqvAll, Bool.and_true, ef, eg]
  obtain ⟨a, b⟩ := e
  obtain ⟨a', b'⟩ := e'
  by_cases h : a = a' <;> by_cases k : b = b' <;> simp [h, k]⟩
theorem emb_int2 : Emb fun e : Int × Int => D.tup [.int e.1, .int e.2] := emb_tup2 (fun _ => ok_int) (fun _ => ok_int) emb_int.eq emb_int.eq
/-- a range's comprehension over small numbers of any kind -/
theorem all_alike {α : Type} [DecidableEq α] {a : α} : ∀ l : List α, (l = l.map fun _ => a) ↔ ∀ x ∈ l, x = a
  | [] => by simp
  | x :: l => by
    rw [List.map_cons, List.cons.injEq, all_alike l]
    simp
end Mv
end
section
set_option Elab.async false
set_option linter.all false
set_option maxRecDepth 100000
set_option maxHeartbeats 4000000
set_option exponentiation.threshold 5000
open PySem Mv Mv.PreA
local macro_rules | `(tactic| walk_at "ev") => `(tactic| try simp only [↓W_bCons, ↓W_bNil, ↓W_bBrk, ↓W_bCnt, ↓W_bExp, ↓W_bRet, ↓W_bRetN, ↓W_bIf, ↓W_bAsg, ↓W_bPar, ↓W_bPar3, ↓W_bAug, ↓W_eC, ↓W_eV, ↓W_eM, ↓W_hV, ↓W_hE, ↓W_eFz, ↓W_e1, ↓W_e2, ↓W_aNil, ↓W_aCons, ↓W_eN, ↓W_eTup, ↓W_eLst, ↓W_eCall, ↓W_eMut, ↓W_eMt, ↓W_eIf, ↓W_eAn, ↓W_eOr, ↓W_eNo, ↓W_eJ0, ↓W_eJ1, ↓W_tT, ↓W_tB, ↓W_tNo, ↓W_tAn, ↓W_tOr, ↓W_tAll, ↓W_gNm, ↓W_gsNil, ↓W_gsCons, ↓W_gTp, ↓W_gTpL, ↓W_gIx, ↓W_bFor, ↓W_bWhile, ↓W_iRg1, ↓W_iRg2, ↓W_iSq, ↓W_eLc, ↓W_eSl, ↓W_pN, ↓W_pS, ↓W_iEn, ↓W_iZp, ↓W_iZpG, ↓W_iRv, ↓W_iRg3, ↓W_iRgV, ↓W_eCh, ↓W_chIf, ↓W_bind, ↓W_map, ↓W_some, ↓W_none,
  Hd.get, List.getElem?_cons_zero, List.getElem?_cons_succ, List.getD_cons_zero, List.getD_cons_succ, List.set_cons_zero, List.set_cons_succ, List.length_cons, List.length_nil, List.map_cons, List.map_nil, List.replicate, List.cons_append, List.nil_append, Nat.reduceAdd, Nat.reduceSub, Nat.reduceLeDiff, Nat.zero_add,
  D.frz, D.frzL, D.fz, D.fzL, tru_b, tru_i, tru_n, tru_l, tru_t, tru_c, tms, wipeD, unw, lend, unlend, keepL, Option.map_some, Option.bind_some, Bool.and_true, Bool.true_and, Bool.not_true, Bool.not_false, ↓reduceIte, if_true, if_false, Bool.false_eq_true, true_and, and_true, ite_b, ite_nb, vv_fmtI, vv_fmtS, vv_reprI, vv_reprS, vv_addS, vv_augI, vv_augS, vv_lenS, vv_eqS, vv_neS, vv_addL, vv_addT,
  vv_add, vv_sub, vv_mul, vv_div, vv_mod, vv_pow, vv_shl, vv_shr, vv_neg, vv_lt, vv_le, vv_gt, vv_ge, vv_int, vv_intS, vv_intb, vv_abs, vv_gcd, vv_max2, vv_min2, vv_lenL, vv_lenC, vv_lenT, vv_idxL, vv_idxC, vv_idxT, vv_eqI, vv_eqB, vv_neI, vv_list, vv_listT, vv_tuple, vv_tupleT, vv_sum, vv_slL, vv_slS, vv_slT, vv_range, vv_index, vv_count, isL_l, isL_c, lenL_l, lenL_c, kindL, vv_maxL, vv_minL, vv_strI, vv_app, vv_minA, vv_maxA, vv_joinL, vv_joinT, strs_map, kindS, zk_l, zk_c, zk_t, zk_s, vv_isNN, vv_isIN, vv_isSN, vv_isBN, vv_isLN, vv_isTN, vv_isBB, vv_isNB, vv_isIB, vv_isSB, vv_isLB, vv_isTB, vv_inNN, vv_inIN, vv_inSN, vv_inBN, vv_inLN, vv_inTN, vv_inBB, atF0, atF1, atF2, atF3, atF4, atF5, okI, okB, okS, okN, okL, ix0, ix1, ix2, frzL_int, fzL_int, intsD_map, isiI_int, isiI_str, isiI_bool, isiI_list, isiI_tuple, isiS_int, isiS_str, isiS_bool, isiS_list, isiS_tuple, isiB_int, isiB_str, isiB_bool, isiB_list, isiB_tuple, isiL_int, isiL_str, isiL_bool, isiL_list, isiL_tuple, isiT_int, isiT_str, isiT_bool, isiT_list, isiT_tuple, isiN_int, isiN_str, isiN_bool, isiN_list, isiN_tuple])
local macro_rules | `(tactic| walk_at "mu") => `(tactic| repeat (first | (rw [W_ok (MulOk.right (by omega))]; walk_at "ev") | (rw [W_ok (MulOk.left (by omega))]; walk_at "ev") | (rw [W_ok (divok (by omega) (by omega))]; walk_at "ev") | (rw [W_ok (by omega)]; walk_at "ev")))

/-! more of the laws' shared helpers -/
namespace Mv
namespace PreA
noncomputable def d_law_spoil (F0 : List D → Option (D × List D)) : Ev → Option Out := bCons (bFor (iSq (hV 0)) (gNm 1) (bIf (tT (hE (eN gIsi (aCons (hV 1) (aCons (hE (eC (.ty "list"))) aNil))))) (bExp (eCall 1 F0 (aCons (hV 1) aNil))) (bNil))) (bIf (tT (hE (eN gIsi (aCons (hV 0) (aCons (hE (eC (.ty "list"))) aNil))))) (bExp (eMut 0 gApp (aCons (hE (eC .non)) aNil))) (bNil))
noncomputable def S_law_spoil (F0 : List D → Option (D × List D)) : List D → Option (D × List D) := fnD [true] 2 (d_law_spoil F0)
noncomputable def R_law_spoil : Nat → List D → Option (D × List D)
  | 0 => fun _ => none
  | n + 1 => S_law_spoil (R_law_spoil n)
noncomputable def F_law_spoil : List D → Option (D × List D) := R_law_spoil 8
noncomputable def d_law_twice : Ev → Option Out := bCons (bIf (tNo (tT (hE (eCall 2 (R_law_same 8) (aCons (hV 0) (aCons (hV 2) aNil)))))) (bRet (eC (.bl false))) (bNil)) (bCons (bExp (eCall 1 F_law_spoil (aCons (hV 0) aNil))) (bRet (eCall 2 (R_law_same 8) (aCons (hV 1) (aCons (hV 2) aNil)))))
noncomputable def F_law_twice : List D → Option (D × List D) := fnD [true, true, true] 3 d_law_twice
noncomputable def b_law_low_1 : Ev → Option Out := bCons (bIf (tB' (e2 gEq (hV 3) (hE (eC (.int 0))))) (bBrk) (bNil)) (bPar 2 3 (aCons (hE (eV 3)) (aCons (hE (e2 gMod (hE (eN gInt (aCons (hV 2) aNil))) (hV 3))) aNil)))
noncomputable def d_law_low : Ev → Option Out := bCons (bIf (tB' (e2 gLt (hV 1) (hE (eC (.int 0))))) (bPar 0 1 (aCons (hE (e1 gNeg (hV 0))) (aCons (hE (e1 gNeg (hV 1))) aNil))) (bNil)) (bCons (bPar 2 3 (aCons (hE (eN gAbs (aCons (hV 0) aNil))) (aCons (hE (eV 1)) aNil))) (bCons (bFor (iRg1 (aCons (hE (eC (.int 900))) aNil)) (gNm 4) (b_law_low_1)) (bRet (eTup (aCons (hE (e2 gDiv (hV 0) (hV 2))) (aCons (hE (e2 gDiv (hV 1) (hV 2))) aNil))))))
noncomputable def F_law_low : List D → Option (D × List D) := fnD [false, false] 5 d_law_low
theorem spoil_eq : F_law_spoil = S_law_spoil (R_law_spoil 7) := by
  unfold F_law_spoil
  rw [R_law_spoil]
theorem spoil_ok {α : Type} (f : α → D) (hf : ∀ x, gIsi [f x, .ty "list"] = some (.bl false)) (hz : ∀ x, (f x).frz = true) (l : List α) (hl : l.length ≤ 100000) : F_law_spoil [.lst true (l.map f)] = some (.non, [.lst true (l.map f ++ [.non])]) := by
  have hfz : D.frzL (l.map f) = true := frzL_of fun d hd => by obtain ⟨x, _, rfl⟩ := List.mem_map.mp hd; exact hz x
  apply of_W
  rw [spoil_eq]
  unfold S_law_spoil
  rw [W_fnD rfl]
  unfold d_law_spoil
  walk_at "ev"
  refine W_list (ds := l.map f) (fun k ρ => ∃ x1, ρ = [.lst true (l.map f), x1]) ⟨_, rfl⟩ ?_ ?_ ?_
  · rintro k ρ ⟨x1, rfl⟩
    exact itK_lst rfl hfz k
  · rintro k d ρ hd ⟨x1, rfl⟩
    obtain ⟨x, _, rfl⟩ := List.mem_map.mp (List.mem_of_getElem? hd)
    have e := hf x
    generalize f x = dd at e
    cases dd
    all_goals first | (exfalso; cases e; done) | skip
    all_goals
      walk_at "ev"
      exact ⟨_, rfl⟩
  · rintro ρ ⟨x1, rfl⟩
    walk_at "ev"
    rw [W_ok (by rw [List.length_map]; omega)]
    walk_at "ev"
theorem fzL_frz {α : Type} {f : α → D} (hz : ∀ x, (f x).fz = f x) : ∀ l : List α, D.fzL (l.map f) = l.map f
  | [] => rfl
  | x :: l => by show (f x).fz :: D.fzL (l.map f) = _; rw [hz, fzL_frz hz l]; rfl
theorem twice_ex {α : Type} {o : Bool} (f : α → D) (hf : ∀ x, gIsi [f x, .ty "list"] = some (.bl false)) (hz : ∀ x, (f x).frz = true) (l : List α) (hl : l.length ≤ 100000) (hs : ∀ x ∈ l, Sm 7 (f x) (f x)) : W (F_law_twice [.lst true (l.map f), .lst false (l.map f), .lst o (l.map f)]) fun r => ∃ x y, r = (.bl true, [x, y, .lst o (l.map f)]) := by
  have hm : ∀ q, Sm 8 (.lst q (l.map f)) (.lst o (l.map f)) := fun q => sm_lst l f (by omega) fun x hx => ⟨hs x hx, hz x⟩
  unfold F_law_twice
  rw [W_fnD rfl]
  unfold d_law_twice
  cases o
  all_goals
    walk_at "ev"
    rw [W_eq (same_ok 8 _ _ (hm true))]
    walk_at "ev"
    rw [W_eq (spoil_ok f hf hz l hl)]
    walk_at "ev"
    rw [W_eq (same_ok 8 _ _ (hm false))]
    walk_at "ev"
    try exact ⟨_, _, rfl⟩
theorem low_loop {t b : Int} (hb : 0 < b) (hs : b < 2 ^ 400) {Q : Out → Prop} (hQ : ∀ x3 x4, Q (.nx [.int t, .int b, .int (gd t b), x3, x4])) : W (lrun (fStep (itR 0 1 (Int.toNat 900)) (gNm 4) b_law_low_1) [.int t, .int b, .int (if t < 0 then -t else t), .int b, .any]) Q := by
  refine W_range (fun k ρ => ∃ one rest x4, ρ = [.int t, .int b, .int one, .int rest, x4] ∧ 0 ≤ one ∧ 0 ≤ rest ∧ gd one rest = gd t b ∧ (k = 0 → rest = b) ∧ (1 ≤ k → rest < one ∧ one * rest * 2 ^ (k - 1) < 2 ^ 800)) ?_ ?_ ?_
  · refine ⟨_, _, _, rfl, by split <;> omega, by omega, ?_, fun _ => rfl, fun h => by omega⟩
    unfold gd
    congr 2
    split <;> omega
  · rintro k ρ hk ⟨one, rest, x4, rfl, h1, h2, h3, h4, h5⟩
    unfold b_law_low_1
    walk_at "ev"
    split
    · rename_i h0
      subst h0
      rw [gd_zero h1] at h3
      subst h3
      exact hQ _ _
    · rename_i h0
      have h6 : 0 < rest := by omega
      rw [W_ok h6]
      walk_at "ev"
      refine ⟨rest, one % rest, _, rfl, h2, Int.emod_nonneg _ (by omega), ?_, by omega, fun _ => ⟨Int.emod_lt_of_pos _ h6, ?_⟩⟩
      · rw [← h3]
        unfold gd
        rw [euclid h1 h6]
      · rw [Nat.add_sub_cancel]
        by_cases hk0 : k = 0
        · subst hk0
          have e := h4 rfl
          subst e
          rw [Int.pow_zero, Int.mul_one]
          have l1 : one % rest < rest := Int.emod_lt_of_pos _ h6
          have l2 := Int.mul_lt_mul_of_pos_left l1 h6
          have l3 : rest * rest ≤ 2 ^ 400 * 2 ^ 400 := Int.mul_le_mul (by omega) (by omega) h2 (by decide)
          rw [← Int.pow_add] at l3
          exact Int.lt_of_lt_of_le l2 l3
        · obtain ⟨h7, h8⟩ := h5 (by omega)
          have l1 := halve h6 h7
          obtain ⟨m, rfl⟩ : ∃ m, k = m + 1 := ⟨k - 1, by omega⟩
          rw [Nat.add_sub_cancel] at h8
          have l2 : (0:Int) < 2 ^ m := Int.pow_pos (by decide)
          have l3 := Int.mul_lt_mul_of_pos_right l1 l2
          have l4 : rest * (one % rest) * 2 ^ (m + 1) = 2 * (rest * (one % rest)) * 2 ^ m := by
            rw [Int.pow_succ, Int.mul_comm 2, Int.mul_assoc _ 2, Int.mul_comm 2]
          rw [l4]
          exact Int.lt_trans l3 h8
  · rintro ρ ⟨one, rest, x4, rfl, h1, h2, h3, h4, h5⟩
    obtain ⟨h6, h7⟩ := h5 (by decide)
    have h8 : rest = 0 := by
      by_cases hr : rest = 0
      · exact hr
      exfalso
      have l1 : 1 * 1 ≤ one * rest := Int.mul_le_mul (by omega) (by omega) (by decide) (by omega)
      have l2 := Int.mul_le_mul_of_nonneg_right l1 (c := 2 ^ ((Int.toNat 900) - 1)) (by decide)
      have l3 : (2:Int) ^ 800 ≤ 1 * 1 * 2 ^ ((Int.toNat 900) - 1) := by decide +kernel
      exact absurd (Int.lt_of_le_of_lt (Int.le_trans l3 l2) h7) (Int.lt_irrefl _)
    subst h8
    rw [gd_zero h1] at h3
    subst h3
    exact hQ _ _
theorem natlt {b : Int} {n : Nat} (hs : b.natAbs < n) (h : b < 0) : -b < (n : Int) := by omega
theorem natlt2 {b : Int} {n : Nat} (hs : b.natAbs < n) (h : 0 ≤ b) : b < (n : Int) := by omega
theorem low_ok {t b : Int} (hb : b ≠ 0) (hs : b.natAbs < 2 ^ 400) : F_law_low [.int t, .int b] = some (pr (lowP t b) (lowQ t b), [.any, .any]) := by
  have hg := gd_pos (t := t) hb
  have hl := gd_abs (t := t) hb
  have hd : DivOk (gd t b) := ⟨hg, Nat.lt_of_le_of_lt hl (Nat.lt_of_lt_of_le hs (by decide +kernel))⟩
  apply of_W
  unfold F_law_low
  rw [W_fnD rfl]
  unfold d_law_low
  walk_at "ev"
  split
  · rename_i hb0
    rw [W_ok (by decide)]
    refine low_loop (by omega) (natlt hs hb0) fun x3 x4 => ?_
    have e : gd (-t) (-b) = gd t b := by unfold gd; rw [Int.natAbs_neg, Int.natAbs_neg]
    rw [e]
    walk_at "ev"
    rw [W_ok hd, W_ok hd]
    unfold lowP lowQ
    rw [if_pos hb0, if_pos hb0]
  · rename_i hb0
    rw [W_ok (by decide)]
    refine low_loop (by omega) (natlt2 hs (by omega)) fun x3 x4 => ?_
    walk_at "ev"
    rw [W_ok hd, W_ok hd]
    unfold lowP lowQ
    rw [if_neg hb0, if_neg hb0]

theorem low_rt {t b : Int} (hb : b ≠ 0) (hs : b.natAbs < 2 ^ 400) : F_law_low [.int t, .int b] = some (rt ((t : Rat) / (b : Rat)), [.any, .any]) := by
  rw [low_ok hb hs]
  show some (fr t b, _) = _
  rw [fr_rt hb]

end PreA
end Mv
end
section
set_option Elab.async false
set_option linter.all false
set_option maxRecDepth 100000
set_option maxHeartbeats 4000000
set_option exponentiation.threshold 5000
open PySem Mv Mv.PreA
local macro_rules | `(tactic| walk_at "ev") => `(tactic| try simp only [↓W_bCons, ↓W_bNil, ↓W_bBrk, ↓W_bCnt, ↓W_bExp, ↓W_bRet, ↓W_bRetN, ↓W_bIf, ↓W_bAsg, ↓W_bPar, ↓W_bPar3, ↓W_bAug, ↓W_eC, ↓W_eV, ↓W_eM, ↓W_hV, ↓W_hE, ↓W_eFz, ↓W_e1, ↓W_e2, ↓W_aNil, ↓W_aCons, ↓W_eN, ↓W_eTup, ↓W_eLst, ↓W_eCall, ↓W_eMut, ↓W_eMt, ↓W_eIf, ↓W_eAn, ↓W_eOr, ↓W_eNo, ↓W_eJ0, ↓W_eJ1, ↓W_tT, ↓W_tB, ↓W_tNo, ↓W_tAn, ↓W_tOr, ↓W_tAll, ↓W_gNm, ↓W_gsNil, ↓W_gsCons, ↓W_gTp, ↓W_gTpL, ↓W_gIx, ↓W_bFor, ↓W_bWhile, ↓W_iRg1, ↓W_iRg2, ↓W_iSq, ↓W_eLc, ↓W_eSl, ↓W_pN, ↓W_pS, ↓W_iEn, ↓W_iZp, ↓W_iZpG, ↓W_iRv, ↓W_iRg3, ↓W_iRgV, ↓W_eCh, ↓W_chIf, ↓W_bind, ↓W_map, ↓W_some, ↓W_none,
  Hd.get, List.getElem?_cons_zero, List.getElem?_cons_succ, List.getD_cons_zero, List.getD_cons_succ, List.set_cons_zero, List.set_cons_succ, List.length_cons, List.length_nil, List.map_cons, List.map_nil, List.replicate, List.cons_append, List.nil_append, Nat.reduceAdd, Nat.reduceSub, Nat.reduceLeDiff, Nat.zero_add,
  D.frz, D.frzL, D.fz, D.fzL, tru_b, tru_i, tru_n, tru_l, tru_t, tru_c, tms, wipeD, unw, lend, unlend, keepL, Option.map_some, Option.bind_some, Bool.and_true, Bool.true_and, Bool.not_true, Bool.not_false, ↓reduceIte, if_true, if_false, Bool.false_eq_true, true_and, and_true, ite_b, ite_nb, vv_fmtI, vv_fmtS, vv_reprI, vv_reprS, vv_addS, vv_augI, vv_augS, vv_lenS, vv_eqS, vv_neS, vv_addL, vv_addT,
  vv_add, vv_sub, vv_mul, vv_div, vv_mod, vv_pow, vv_shl, vv_shr, vv_neg, vv_lt, vv_le, vv_gt, vv_ge, vv_int, vv_intS, vv_intb, vv_abs, vv_gcd, vv_max2, vv_min2, vv_lenL, vv_lenC, vv_lenT, vv_idxL, vv_idxC, vv_idxT, vv_eqI, vv_eqB, vv_neI, vv_list, vv_listT, vv_tuple, vv_tupleT, vv_sum, vv_slL, vv_slS, vv_slT, vv_range, vv_index, vv_count, isL_l, isL_c, lenL_l, lenL_c, kindL, vv_maxL, vv_minL, vv_strI, vv_app, vv_minA, vv_maxA, vv_joinL, vv_joinT, strs_map, kindS, zk_l, zk_c, zk_t, zk_s, vv_isNN, vv_isIN, vv_isSN, vv_isBN, vv_isLN, vv_isTN, vv_isBB, vv_isNB, vv_isIB, vv_isSB, vv_isLB, vv_isTB, vv_inNN, vv_inIN, vv_inSN, vv_inBN, vv_inLN, vv_inTN, vv_inBB, atF0, atF1, atF2, atF3, atF4, atF5, okI, okB, okS, okN, okL, ix0, ix1, ix2, frzL_int, fzL_int, intsD_map, isiI_int, isiI_str, isiI_bool, isiI_list, isiI_tuple, isiS_int, isiS_str, isiS_bool, isiS_list, isiS_tuple, isiB_int, isiB_str, isiB_bool, isiB_list, isiB_tuple, isiL_int, isiL_str, isiL_bool, isiL_list, isiL_tuple, isiT_int, isiT_str, isiT_bool, isiT_list, isiT_tuple, isiN_int, isiN_str, isiN_bool, isiN_list, isiN_tuple])
local macro_rules | `(tactic| walk_at "mu") => `(tactic| repeat (first | (rw [W_ok (MulOk.right (by omega))]; walk_at "ev") | (rw [W_ok (MulOk.left (by omega))]; walk_at "ev") | (rw [W_ok (divok (by omega) (by omega))]; walk_at "ev") | (rw [W_ok (by omega)]; walk_at "ev")))
/-! small tools for the texts of mathematics -/
namespace Mv
theorem atF_snoc {xs : List D} {d : D} (hd : d.frz = true) : atF (xs ++ [d]) (-1) = some d := by
  unfold atF L2.atI L2.ixN
  have hl : (xs ++ [d]).length = xs.length + 1 := by simp
  rw [if_neg (by omega), if_pos (by rw [hl]; omega), Option.bind_some]
  rw [show ((-1 : Int) + ((xs ++ [d]).length : Int)).toNat = xs.length by rw [hl]; omega]
  rw [List.getElem?_append_right (Nat.le_refl _), Nat.sub_self]
  show (if d.frz = true then some d else none) = _
  rw [if_pos hd]
theorem ixN_last {n : Nat} : L2.ixN (n + 1) (-1) = some n := by
  unfold L2.ixN
  rw [if_neg (by omega), if_pos (by omega)]
  congr 1
  omega
theorem ixN_nat {n k : Nat} (h : k < n) : L2.ixN n (k : Int) = some k := by
  unfold L2.ixN
  rw [if_pos (by omega)]
  simpa using h
theorem set_snoc {xs : List D} {d d' : D} : (xs ++ [d]).set xs.length d' = xs ++ [d'] := by simp
theorem sz_int {n : Int} {m : Nat} (h : n.natAbs < 2 ^ m) (hm : 1 ≤ m) : Sz m (n : Rat) := ⟨by rw [Rat.num_intCast]; exact h, by rw [Rat.den_intCast]; exact Nat.lt_of_lt_of_le (show 1 < 2 ^ 1 by decide) (Nat.pow_le_pow_right (by decide) hm)⟩
theorem okRt {r : Rat} : okD (rt r) = some (rt r) := okD_of rfl
theorem rt_one : D.tup [.int 1, .int 1] = rt ((1 : Int) : Rat) := (rt_int 1).symm
theorem rt_zero : D.tup [.int 0, .int 1] = rt ((0 : Int) : Rat) := (rt_int 0).symm
theorem rt_eq (r : Rat) : rt r = .tup [.int r.num, .int (r.den : Int)] := rfl
theorem rt_fold (r : Rat) : D.tup [.int r.num, .int (r.den : Int)] = rt r := rfl
abbrev pI (e : Int × Int) : D := .tup [.int e.1, .int e.2]
theorem frz_map {α : Type} {f : α → D} (h : ∀ x, (f x).frz = true) (l : List α) : D.frzL (l.map f) = true := frzL_of fun d hd => by obtain ⟨x, _, rfl⟩ := List.mem_map.mp hd; exact h x
theorem fz_map {α : Type} {f : α → D} (h : ∀ x, (f x).fz = f x) (l : List α) : D.fzL (l.map f) = l.map f := PreA.fzL_frz h l
theorem atF_map {α : Type} {f : α → D} (h : ∀ x, (f x).frz = true) {l : List α} {k : Nat} (hk : k < l.length) : atF (l.map f) (k : Int) = some (f l[k]) := by
  rw [atF_nat, List.getElem?_map, List.getElem?_eq_getElem hk]
  exact okD_of (h _)
/-- a comprehension over l.map emb, the turn's number known -/
theorem W_compK {α : Type} {vs : List Nat} {it : Src} {g : D → Ev → Option Ev} {test : Ev → Option (Bool × Ev)} {elt : Ev → Option (D × Ev)} {ρ : Ev} {Q : D × Ev → Prop} (emb : α → D) (l : List α) (p : α → Bool) (f : α → D) (hn : l.length ≤ 16777216)
    (hi : ∀ k, k ≤ l.length → it k ρ = some (l.map emb)[k]?)
    (hs : ∀ x ∈ l, W (g (emb x) (wipeD ρ vs)) fun ρ1 => W (test ρ1) fun q => q.1 = p x ∧ (if p x = true then W (elt q.2) fun r => r.1 = f x ∧ unw ρ vs r.2 = ρ else unw ρ vs q.2 = ρ))
    (hd : Q (.lst true ((l.filter p).map f), ρ)) : W (lrun (cStep vs it g test elt) ([], ρ)) Q := by
  refine W_lrun (fun k a => k ≤ l.length ∧ a.2 = ρ ∧ a.1 = ((l.take k).filter p).map f) (fun k _ => l.length - k) ⟨Nat.zero_le _, rfl, by simp⟩ ?_
  rintro k ⟨acc, ρ'⟩ ⟨hk, he, ha⟩
  obtain rfl : ρ' = ρ := he
  obtain rfl : acc = _ := ha
  unfold cStep
  rw [W_bind, hi k hk, W_some]
  cases e : (l.map emb)[k]? with
  | some d =>
    rw [List.getElem?_map] at e
    obtain ⟨x, hx, rfl⟩ := Option.map_eq_some_iff.mp e
    have hlt : k < l.length := (List.getElem?_eq_some_iff.mp hx).1
    have hl : (((l.take k).filter p).map f).length ≤ k := by
      rw [List.length_map]
      exact Nat.le_trans (List.length_filter_le _ _) (by rw [List.length_take]; exact Nat.min_le_left _ _)
    have ht : l.take (k + 1) = l.take k ++ [x] := by rw [List.take_add_one, hx]; rfl
    show W ((g _ _).bind _) _
    rw [W_bind]
    refine W_mono (hs x (List.mem_of_getElem? hx)) fun ρ1 h1 => ?_
    rw [W_bind]
    refine W_mono h1 fun q ⟨h2, h3⟩ => ?_
    rw [W_ite, h2]
    cases hp : p x
    · rw [hp, if_neg (by decide)] at h3
      rw [if_neg (by decide), W_some]
      refine ⟨⟨hlt, h3, ?_⟩, by show l.length - (k + 1) < l.length - k; omega⟩
      show _ = ((l.take (k + 1)).filter p).map f
      rw [ht, List.filter_append, List.filter_cons_of_neg (by rw [hp]; decide)]
      simp
    · rw [hp, if_pos rfl] at h3
      rw [if_pos rfl, W_bind]
      refine W_mono h3 fun r ⟨h4, h5⟩ => ?_
      rw [if_pos (by show (((l.take k).filter p).map f).length < 16777216; omega), W_some]
      refine ⟨⟨hlt, h5, ?_⟩, by show l.length - (k + 1) < l.length - k; omega⟩
      show _ = ((l.take (k + 1)).filter p).map f
      rw [ht, List.filter_append, List.filter_cons_of_pos hp, List.map_append, h4]
      rfl
  | none =>
    have : k = l.length := by
      have := List.getElem?_eq_none_iff.mp e
      rw [List.length_map] at this
      omega
    subst this
    show W (some _) _
    rw [W_some, List.take_length]
    exact hd
/-- what a list comprehension over all gives -/
theorem filter_yes {α : Type} (l : List α) : l.filter (fun _ => true) = l := List.filter_eq_self.mpr fun _ _ => rfl
/-- items of zip -/
theorem zipw_map {α β : Type} (f : α → D) (g : β → D) (l : List α) (m : List β) : List.zipWith (fun c c' => D.tup [c, c']) (l.map f) (m.map g) = (l.zip m).map fun e => D.tup [f e.1, g e.2] := zip_map f g l m
end Mv
end
section
set_option Elab.async false
set_option linter.all false
set_option maxRecDepth 100000
set_option maxHeartbeats 4000000
set_option exponentiation.threshold 5000
open PySem Mv Mv.PreA
local macro_rules | `(tactic| walk_at "ev") => `(tactic| try simp only [↓W_bCons, ↓W_bNil, ↓W_bBrk, ↓W_bCnt, ↓W_bExp, ↓W_bRet, ↓W_bRetN, ↓W_bIf, ↓W_bAsg, ↓W_bPar, ↓W_bPar3, ↓W_bAug, ↓W_eC, ↓W_eV, ↓W_eM, ↓W_hV, ↓W_hE, ↓W_eFz, ↓W_e1, ↓W_e2, ↓W_aNil, ↓W_aCons, ↓W_eN, ↓W_eTup, ↓W_eLst, ↓W_eCall, ↓W_eMut, ↓W_eMt, ↓W_eIf, ↓W_eAn, ↓W_eOr, ↓W_eNo, ↓W_eJ0, ↓W_eJ1, ↓W_tT, ↓W_tB, ↓W_tNo, ↓W_tAn, ↓W_tOr, ↓W_tAll, ↓W_gNm, ↓W_gsNil, ↓W_gsCons, ↓W_gTp, ↓W_gTpL, ↓W_gIx, ↓W_bFor, ↓W_bWhile, ↓W_iRg1, ↓W_iRg2, ↓W_iSq, ↓W_eLc, ↓W_eSl, ↓W_pN, ↓W_pS, ↓W_iEn, ↓W_iZp, ↓W_iZpG, ↓W_iRv, ↓W_iRg3, ↓W_iRgV, ↓W_eCh, ↓W_chIf, ↓W_bind, ↓W_map, ↓W_some, ↓W_none,
  Hd.get, List.getElem?_cons_zero, List.getElem?_cons_succ, List.getD_cons_zero, List.getD_cons_succ, List.set_cons_zero, List.set_cons_succ, List.length_cons, List.length_nil, List.map_cons, List.map_nil, List.replicate, List.cons_append, List.nil_append, Nat.reduceAdd, Nat.reduceSub, Nat.reduceLeDiff, Nat.zero_add,
  D.frz, D.frzL, D.fz, D.fzL, tru_b, tru_i, tru_n, tru_l, tru_t, tru_c, tms, wipeD, unw, lend, unlend, keepL, Option.map_some, Option.bind_some, Bool.and_true, Bool.true_and, Bool.not_true, Bool.not_false, ↓reduceIte, if_true, if_false, Bool.false_eq_true, true_and, and_true, ite_b, ite_nb, vv_fmtI, vv_fmtS, vv_reprI, vv_reprS, vv_addS, vv_augI, vv_augS, vv_lenS, vv_eqS, vv_neS, vv_addL, vv_addT,
  vv_add, vv_sub, vv_mul, vv_div, vv_mod, vv_pow, vv_shl, vv_shr, vv_neg, vv_lt, vv_le, vv_gt, vv_ge, vv_int, vv_intS, vv_intb, vv_abs, vv_gcd, vv_max2, vv_min2, vv_lenL, vv_lenC, vv_lenT, vv_idxL, vv_idxC, vv_idxT, vv_eqI, vv_eqB, vv_neI, vv_list, vv_listT, vv_tuple, vv_tupleT, vv_sum, vv_slL, vv_slS, vv_slT, vv_range, vv_index, vv_count, isL_l, isL_c, lenL_l, lenL_c, kindL, vv_maxL, vv_minL, vv_strI, vv_app, vv_minA, vv_maxA, vv_joinL, vv_joinT, strs_map, kindS, zk_l, zk_c, zk_t, zk_s, vv_isNN, vv_isIN, vv_isSN, vv_isBN, vv_isLN, vv_isTN, vv_isBB, vv_isNB, vv_isIB, vv_isSB, vv_isLB, vv_isTB, vv_inNN, vv_inIN, vv_inSN, vv_inBN, vv_inLN, vv_inTN, vv_inBB, atF0, atF1, atF2, atF3, atF4, atF5, okI, okB, okS, okN, okL, ix0, ix1, ix2, frzL_int, fzL_int, intsD_map, isiI_int, isiI_str, isiI_bool, isiI_list, isiI_tuple, isiS_int, isiS_str, isiS_bool, isiS_list, isiS_tuple, isiB_int, isiB_str, isiB_bool, isiB_list, isiB_tuple, isiL_int, isiL_str, isiL_bool, isiL_list, isiL_tuple, isiT_int, isiT_str, isiT_bool, isiT_list, isiT_tuple, isiN_int, isiN_str, isiN_bool, isiN_list, isiN_tuple])
local macro_rules | `(tactic| walk_at "mu") => `(tactic| repeat (first | (rw [W_ok (MulOk.right (by omega))]; walk_at "ev") | (rw [W_ok (MulOk.left (by omega))]; walk_at "ev") | (rw [W_ok (divok (by omega) (by omega))]; walk_at "ev") | (rw [W_ok (by omega)]; walk_at "ev")))
/-! texts as lists of signs -/
namespace Mv
abbrev mkS (l : List Nat) : Str := ⟨l.toArray⟩
theorem mkS_app (a b : List Nat) : mkS a ++ mkS b = mkS (a ++ b) := by
  show Str.append _ _ = _
  unfold Str.append
  simp
theorem mkS_len (l : List Nat) : (mkS l).length = l.length := by simp [mkS, Str.length]
theorem mkS_inj {a b : List Nat} : mkS a = mkS b ↔ a = b := by
  constructor
  · intro h
    have := congrArg (fun s : Str => s.cps.toList) h
    simpa using this
  · rintro rfl; rfl
theorem mkS_of (x : Str) : x = mkS x.cps.toList := rfl
theorem gIdx_mkS {l : List Nat} {k : Nat} (h : k < l.length) (h2 : l.length ≤ 16777216) : gIdx (.str (mkS l)) (.int (k : Int)) = some (.str (mkS [l[k]])) := by
  show (if (mkS l).length ≤ 16777216 then (L2.atI (mkS l).cps.toList (k : Int)).map (fun c => D.str ⟨#[c]⟩) else none) = _
  rw [if_pos (by rw [mkS_len]; exact h2)]
  show ((L2.ixN l.length (k : Int)).bind fun j => l[j]?).map _ = _
  rw [ixN_nat h]
  show (l[k]?).map _ = _
  rw [List.getElem?_eq_getElem h]
  rfl
theorem gEq_mkS (a b : List Nat) : gEq (.str (mkS a)) (.str (mkS b)) = some (.bl (decide (a = b))) := by
  rw [vv_eqS, decide_eq_decide.mpr mkS_inj]
theorem zit_mkS (l : List Nat) : zitems (.str (mkS l)) = l.map fun c => D.str (mkS [c]) := rfl
theorem itS_mkS {h : Hd} {ρ : Ev} {l : List Nat} (e : h.get ρ = .str (mkS l)) (k : Nat) : itK isS h k ρ = some ((l.map fun c => D.str (mkS [c]))[k]?) := by
  unfold itK
  rw [e, if_pos (show isS (D.str (mkS l)) = true from rfl)]
  exact itD_zat (d := D.str (mkS l)) (z := .s) rfl (frz_map (f := fun c => D.str (mkS [c])) (fun _ => rfl) l) k
theorem sm_mkS {n : Nat} {l : List Nat} (h : ∀ c ∈ l, c < 16 ^ 8) (h2 : l.length ≤ 1000000) : Sm (n + 1) (.str (mkS l)) (.str (mkS l)) := sm_str (repr_len (x := mkS l) h (by rw [mkS_len]; exact h2))
section
variable {α β : Type} {h h' : Hd} {ρ : Ev} {o o' : Bool} {f : α → D} {g : β → D} {l : List α} {m : List β} {u v : List Nat}
theorem itZ_ll (h1 : h.get ρ = .lst o (l.map f)) (h2 : h'.get ρ = .lst o' (m.map g)) (z1 : ∀ x, (f x).frz = true) (z2 : ∀ x, (g x).frz = true) (k : Nat) (hk : k ≤ ((l.zip m).map fun e => D.tup [f e.1, g e.2]).length) :
    itZG .l .l h h' k ρ = some (((l.zip m).map fun e => D.tup [f e.1, g e.2])[k]?) := by
  rw [List.length_map, List.length_zip] at hk
  rw [itZG_at (a := .l) (b := .l) h1 h2 rfl rfl (frz_map z1 l) (frz_map z2 m) k ⟨by show k ≤ (l.map f).length; rw [List.length_map]; omega, by show k ≤ (m.map g).length; rw [List.length_map]; omega⟩, ← zipw_map]
  rfl
theorem itZ_ls (h1 : h.get ρ = .lst o (l.map f)) (h2 : h'.get ρ = .str (mkS v)) (z1 : ∀ x, (f x).frz = true) (k : Nat) (hk : k ≤ ((l.zip v).map fun e => D.tup [f e.1, .str (mkS [e.2])]).length) :
    itZG .l .s h h' k ρ = some (((l.zip v).map fun e => D.tup [f e.1, .str (mkS [e.2])])[k]?) := by
  rw [List.length_map, List.length_zip] at hk
  rw [itZG_at (a := .l) (b := .s) h1 h2 rfl rfl (frz_map z1 l) (frz_map (f := fun c => D.str (mkS [c])) (fun _ => rfl) v) k ⟨by show k ≤ (l.map f).length; rw [List.length_map]; omega, by rw [zit_mkS, List.length_map]; omega⟩, ← zipw_map (g := fun c => D.str (mkS [c]))]
  rfl
theorem itZ_ss (h1 : h.get ρ = .str (mkS u)) (h2 : h'.get ρ = .str (mkS v)) (k : Nat) (hk : k ≤ ((u.zip v).map fun e => D.tup [.str (mkS [e.1]), .str (mkS [e.2])]).length) :
    itZG .s .s h h' k ρ = some (((u.zip v).map fun e => D.tup [.str (mkS [e.1]), .str (mkS [e.2])])[k]?) := by
  rw [List.length_map, List.length_zip] at hk
  rw [itZG_at (a := .s) (b := .s) h1 h2 rfl rfl (frz_map (f := fun c => D.str (mkS [c])) (fun _ => rfl) u) (frz_map (f := fun c => D.str (mkS [c])) (fun _ => rfl) v) k ⟨by rw [zit_mkS, List.length_map]; omega, by rw [zit_mkS, List.length_map]; omega⟩, ← zipw_map (f := fun c => D.str (mkS [c])) (g := fun c => D.str (mkS [c]))]
  rfl
end
end Mv
end
section
set_option Elab.async false
set_option linter.all false
set_option maxRecDepth 100000
set_option maxHeartbeats 4000000
set_option exponentiation.threshold 5000
open PySem Mv Mv.PreA
local macro_rules | `(tactic| walk_at "ev") => `(tactic| try simp only [↓W_bCons, ↓W_bNil, ↓W_bBrk, ↓W_bCnt, ↓W_bExp, ↓W_bRet, ↓W_bRetN, ↓W_bIf, ↓W_bAsg, ↓W_bPar, ↓W_bPar3, ↓W_bAug, ↓W_eC, ↓W_eV, ↓W_eM, ↓W_hV, ↓W_hE, ↓W_eFz, ↓W_e1, ↓W_e2, ↓W_aNil, ↓W_aCons, ↓W_eN, ↓W_eTup, ↓W_eLst, ↓W_eCall, ↓W_eMut, ↓W_eMt, ↓W_eIf, ↓W_eAn, ↓W_eOr, ↓W_eNo, ↓W_eJ0, ↓W_eJ1, ↓W_tT, ↓W_tB, ↓W_tNo, ↓W_tAn, ↓W_tOr, ↓W_tAll, ↓W_gNm, ↓W_gsNil, ↓W_gsCons, ↓W_gTp, ↓W_gTpL, ↓W_gIx, ↓W_bFor, ↓W_bWhile, ↓W_iRg1, ↓W_iRg2, ↓W_iSq, ↓W_eLc, ↓W_eSl, ↓W_pN, ↓W_pS, ↓W_iEn, ↓W_iZp, ↓W_iZpG, ↓W_iRv, ↓W_iRg3, ↓W_iRgV, ↓W_eCh, ↓W_chIf, ↓W_bind, ↓W_map, ↓W_some, ↓W_none,
  Hd.get, List.getElem?_cons_zero, List.getElem?_cons_succ, List.getD_cons_zero, List.getD_cons_succ, List.set_cons_zero, List.set_cons_succ, List.length_cons, List.length_nil, List.map_cons, List.map_nil, List.replicate, List.cons_append, List.nil_append, Nat.reduceAdd, Nat.reduceSub, Nat.reduceLeDiff, Nat.zero_add,
  D.frz, D.frzL, D.fz, D.fzL, tru_b, tru_i, tru_n, tru_l, tru_t, tru_c, tms, wipeD, unw, lend, unlend, keepL, Option.map_some, Option.bind_some, Bool.and_true, Bool.true_and, Bool.not_true, Bool.not_false, ↓reduceIte, if_true, if_false, Bool.false_eq_true, true_and, and_true, ite_b, ite_nb, vv_fmtI, vv_fmtS, vv_reprI, vv_reprS, vv_addS, vv_augI, vv_augS, vv_lenS, vv_eqS, vv_neS, vv_addL, vv_addT,
  vv_add, vv_sub, vv_mul, vv_div, vv_mod, vv_pow, vv_shl, vv_shr, vv_neg, vv_lt, vv_le, vv_gt, vv_ge, vv_int, vv_intS, vv_intb, vv_abs, vv_gcd, vv_max2, vv_min2, vv_lenL, vv_lenC, vv_lenT, vv_idxL, vv_idxC, vv_idxT, vv_eqI, vv_eqB, vv_neI, vv_list, vv_listT, vv_tuple, vv_tupleT, vv_sum, vv_slL, vv_slS, vv_slT, vv_range, vv_index, vv_count, isL_l, isL_c, lenL_l, lenL_c, kindL, vv_maxL, vv_minL, vv_strI, vv_app, vv_minA, vv_maxA, vv_joinL, vv_joinT, strs_map, kindS, zk_l, zk_c, zk_t, zk_s, vv_isNN, vv_isIN, vv_isSN, vv_isBN, vv_isLN, vv_isTN, vv_isBB, vv_isNB, vv_isIB, vv_isSB, vv_isLB, vv_isTB, vv_inNN, vv_inIN, vv_inSN, vv_inBN, vv_inLN, vv_inTN, vv_inBB, atF0, atF1, atF2, atF3, atF4, atF5, okI, okB, okS, okN, okL, ix0, ix1, ix2, frzL_int, fzL_int, intsD_map, isiI_int, isiI_str, isiI_bool, isiI_list, isiI_tuple, isiS_int, isiS_str, isiS_bool, isiS_list, isiS_tuple, isiB_int, isiB_str, isiB_bool, isiB_list, isiB_tuple, isiL_int, isiL_str, isiL_bool, isiL_list, isiL_tuple, isiT_int, isiT_str, isiT_bool, isiT_list, isiT_tuple, isiN_int, isiN_str, isiN_bool, isiN_list, isiN_tuple])
local macro_rules | `(tactic| walk_at "mu") => `(tactic| repeat (first | (rw [W_ok (MulOk.right (by omega))]; walk_at "ev") | (rw [W_ok (MulOk.left (by omega))]; walk_at "ev") | (rw [W_ok (divok (by omega) (by omega))]; walk_at "ev") | (rw [W_ok (by omega)]; walk_at "ev")))
namespace Mv
/-- two ascending lists with the same items are one -/
theorem pw_ext {α : Type} {R : α → α → Prop} (asym : ∀ a b, R a b → ¬ R b a) : ∀ {l m : List α}, l.Pairwise R → m.Pairwise R → (∀ x, x ∈ l ↔ x ∈ m) → l = m
  | [], [], _, _, _ => rfl
  | [], b :: m, _, _, h => absurd ((h b).mpr List.mem_cons_self) List.not_mem_nil
  | a :: l, [], _, _, h => absurd ((h a).mp List.mem_cons_self) List.not_mem_nil
  | a :: l, b :: m, hl, hm, h => by
    obtain ⟨h1, h2⟩ := List.pairwise_cons.mp hl
    obtain ⟨k1, k2⟩ := List.pairwise_cons.mp hm
    have e : a = b := by
      rcases List.mem_cons.mp ((h a).mp List.mem_cons_self) with e | ha
      · exact e
      · rcases List.mem_cons.mp ((h b).mpr List.mem_cons_self) with e | hb
        · exact e.symm
        · exact absurd (h1 b hb) (asym _ _ (k1 a ha))
    subst e
    have irr : ¬ R a a := fun r => asym _ _ r r
    rw [pw_ext asym h2 k2 fun x => ?_]
    constructor
    · intro hx
      rcases List.mem_cons.mp ((h x).mp (List.mem_cons_of_mem _ hx)) with e | hx'
      · subst e; exact absurd (h1 x hx) irr
      · exact hx'
    · intro hx
      rcases List.mem_cons.mp ((h x).mpr (List.mem_cons_of_mem _ hx)) with e | hx'
      · subst e; exact absurd (k1 x hx) irr
      · exact hx'
theorem pw_snoc {α : Type} {R : α → α → Prop} {l : List α} {a : α} : (l ++ [a]).Pairwise R ↔ l.Pairwise R ∧ ∀ x ∈ l, R x a := by
  rw [List.pairwise_append]
  constructor
  · rintro ⟨h1, _, h3⟩
    exact ⟨h1, fun x hx => h3 x hx a (List.mem_singleton.mpr rfl)⟩
  · rintro ⟨h1, h2⟩
    exact ⟨h1, List.pairwise_singleton _ _, fun x hx y hy => by rw [List.mem_singleton.mp hy]; exact h2 x hx⟩
theorem snoc_cases {α : Type} (l : List α) : l = [] ∨ ∃ R e, l = R ++ [e] := by
  rcases List.eq_nil_or_concat l with h | ⟨R, e, h⟩
  · exact .inl h
  · exact .inr ⟨R, e, by rw [h, List.concat_eq_append]⟩
theorem mem_snoc {α : Type} {l : List α} {a x : α} : x ∈ l ++ [a] ↔ x ∈ l ∨ x = a := by rw [List.mem_append, List.mem_singleton]
theorem len_snoc {α : Type} {l : List α} {a : α} : (l ++ [a]).length = l.length + 1 := by simp
theorem map_snoc {α β : Type} {f : α → β} {l : List α} {a : α} : (l ++ [a]).map f = l.map f ++ [f a] := by rw [List.map_append]; rfl
/-- a slice between two places -/
theorem cut_both {α : Type} (f : α → D) (l : List α) {a b : Nat} : cutD (l.map f) (some (a : Int)) (some (b : Int)) = ((l.drop a).take (b - a)).map f := by
  rw [cut_map, HT.sIx_nat, HT.sIx_nat]
  congr 1
  by_cases h : a ≤ l.length
  · rw [Nat.min_eq_left h, List.take_eq_take_iff, List.length_drop]
    omega
  · have e1 : min a l.length = l.length := by omega
    rw [e1, List.drop_eq_nil_of_le (Nat.le_refl _), List.drop_eq_nil_of_le (by omega), List.take_nil, List.take_nil]
theorem ilist_mem {lo i : Int} {n : Nat} : i ∈ ilist lo n ↔ lo ≤ i ∧ i < lo + n := by
  unfold ilist
  simp only [List.mem_map, List.mem_range]
  constructor
  · rintro ⟨k, hk, rfl⟩
    omega
  · rintro ⟨h1, h2⟩
    exact ⟨(i - lo).toNat, by omega, by omega⟩
/-- found[-1] -/
theorem atF_last {α : Type} {f : α → D} (h : ∀ x, (f x).frz = true) (R : List α) (e : α) : atF ((R ++ [e]).map f) (-1) = some (f e) := by
  rw [map_snoc]
  exact atF_snoc (h e)
section
variable {o o' : Bool} {x : Int} {l xs ys : List Int} {ps qs : List (Int × Int)} {p : Int × Int}
theorem gIn_iF : gIn false (.int x) (.lst o (l.map D.int)) = some (.bl (decide (x ∈ l))) := by rw [gIn_map emb_int]; rfl
theorem gIn_iT : gIn true (.int x) (.lst o (l.map D.int)) = some (.bl (!decide (x ∈ l))) := by rw [gIn_map emb_int]; rfl
theorem gEq_ii : gEq (.lst o (xs.map D.int)) (.lst o' (ys.map D.int)) = some (.bl (decide (xs = ys))) := gEq_emb emb_int xs ys
theorem gNe_ii : gNe (.lst o (xs.map D.int)) (.lst o' (ys.map D.int)) = some (.bl (!decide (xs = ys))) := gNe_emb emb_int xs ys
theorem gEq_in : gEq (.lst o (xs.map D.int)) (.lst o' []) = some (.bl (decide (xs = []))) := gEq_emb emb_int xs []
theorem gNe_in : gNe (.lst o (xs.map D.int)) (.lst o' []) = some (.bl (!decide (xs = []))) := gNe_emb emb_int xs []
theorem gEq_pp : gEq (.lst o (ps.map pI)) (.lst o' (qs.map pI)) = some (.bl (decide (ps = qs))) := gEq_emb emb_int2 ps qs
theorem gNe_pp : gNe (.lst o (ps.map pI)) (.lst o' (qs.map pI)) = some (.bl (!decide (ps = qs))) := gNe_emb emb_int2 ps qs
theorem gEq_pn : gEq (.lst o (ps.map pI)) (.lst o' []) = some (.bl (decide (ps = []))) := gEq_emb emb_int2 ps []
theorem gNe_pn : gNe (.lst o (ps.map pI)) (.lst o' []) = some (.bl (!decide (ps = []))) := gNe_emb emb_int2 ps []
theorem dec_self {α : Type} [DecidableEq α] (x : α) : decide (x = x) = true := by simp
end
end Mv
end
section
set_option Elab.async false
set_option linter.all false
set_option maxRecDepth 100000
/-! [elt for t in i if c for t1 in i1 if c1] -/
namespace Mv
open PySem PySem.Spec PyProof.Rows L2
section
variable {X : Cx}
noncomputable def oStep (vs vs1 : List Nat) (it : Src) (g : D → Ev → Option Ev) (test : Ev → Option (Bool × Ev)) (fi1 : Ev → Option (Src × Ev)) (g1 : D → Ev → Option Ev) (test1 : Ev → Option (Bool × Ev)) (elt : Ev → Option (D × Ev)) : Nat → List D × Ev → Option ((List D × Ev) ⊕ (D × Ev)) := fun k a => (it k a.2).bind fun x => match x with
  | none => some (.inr (.lst true a.1, a.2))
  | some d => (g d (wipeD a.2 vs)).bind fun ρ1 => (test ρ1).bind fun p => if p.1 = true then (fi1 p.2).bind fun q => (lrun (cStep vs1 q.1 g1 test1 elt) (a.1, q.2)).bind fun r => match r.1 with
      | .lst true acc => some (.inl (acc, unw a.2 vs r.2))
      | _ => none
    else some (.inl (a.1, unw a.2 vs p.2))
noncomputable def eLc2 (vs vs1 : List Nat) (fi : Ev → Option (Src × Ev)) (g : D → Ev → Option Ev) (test : Ev → Option (Bool × Ev)) (fi1 : Ev → Option (Src × Ev)) (g1 : D → Ev → Option Ev) (test1 : Ev → Option (Bool × Ev)) (elt : Ev → Option (D × Ev)) : Ev → Option (D × Ev) := fun ρ => (fi ρ).bind fun p => lrun (oStep vs vs1 p.1 g test fi1 g1 test1 elt) ([], p.2)
def canI (X : Cx) (C : List Nat) (fi : Ev → Option (Src × Ev)) : TI := fun σ H R => ∃ (ρ : Ev) (l : List Itm) (it : Src) (ρ' : Ev), σ.length = ρ.length ∧ Items X.K [] H (σ.zip ρ ++ l) ∧ fi ρ = some (it, ρ') ∧
  ∀ J H' held, ρ'.length = ρ.length → Items X.K [] H' (σ.zip ρ' ++ (held ++ l)) → ItOk X C σ held J it → R J H'
theorem DI.can {C : List Nat} {tg iter : Expr} {fi : Ev → Option (Src × Ev)} (h : DI X C tg iter fi) : PI X tg iter (canI X C fi) := by
  obtain ⟨t, ht, k⟩ := h.ex
  exact ⟨fun pins s σ H R I ⟨ρ, l, it, ρ', h1, h2, h3, h4⟩ => ht.run pins s σ H R I (k σ H ρ l R it ρ' h1 h2 h3 h4)⟩
/-- the inner turns -/
theorem in_ok {C Cb vs : List Nat} {n : Nat} {g : D → Ev → Option Ev} {test : Ev → Option (Bool × Ev)} {fe : Ev → Option (D × Ev)}
    (nd : vs.Nodup) (hv : ∀ v ∈ vs, v < n) (hCb : ∀ i, i < n → i ∉ vs → i ∈ Cb) {σ : Sl} (hσ : σ.length = n) {J : It} {it : Src} {held l : List Itm} (ok : ItOk X C σ held J it) {A : Addr} {acc0 accF : List D} {ρ0 ρF : Ev} {H1 : Hp} {Nx : Hp → Prop}
    (l1 : ρ0.length = σ.length) (i1 : Items X.K [] H1 ((some (.ref A), .lst true acc0) :: (σ.zip ρ0 ++ (held ++ l)))) (hf : lrun (cStep vs it g test fe) (acc0, ρ0) = some (.lst true accF, ρF))
    (q : ∀ H', ρF.length = σ.length → Items X.K [] H' ((some (.ref A), .lst true accF) :: (σ.zip ρF ++ (held ++ l))) → Nx H') :
    ∃ W1 : Nat → Nat → Hp → Prop, (∃ m, W1 0 m H1) ∧ ∀ j k H, W1 j k H → (J.stop j H ∧ Nx H) ∨ (J.go j H ∧ ∃ Nx1 : Hp → Prop, (∀ H', Nx1 H' → ∃ k', k' < k ∧ W1 (j + 1) k' H') ∧ ∀ x H', J.yld j H x H' → canG X.K Cb g x (wipe σ vs) H' fun σ3 H5 => wipe σ3 vs = wipe σ vs ∧ canT X.K test σ3 H5 fun b H6 =>
        if b = true then canE X.K fe σ3 H6 fun y H7 => ∃ acc, H7 A = some (.lst acc) ∧ acc.length < sizeLine ∧ Nx1 (upd H7 A (.lst (acc ++ [y]))) else Nx1 H6) := by
  obtain ⟨n0, hf⟩ := lrun_iff.mp hf
  refine ⟨fun k m H2 => ∃ acc ρ1, ρ1.length = σ.length ∧ Items X.K [] H2 ((some (.ref A), .lst true acc) :: (σ.zip ρ1 ++ (held ++ l))) ∧ lp (cStep vs it g test fe) m k (acc, ρ1) = some (.lst true accF, ρF), ⟨n0, acc0, ρ0, by omega, i1, hf⟩, ?_⟩
  rintro k m H2 ⟨acc, ρ1, h2, i2, e2⟩
  have i2' : Items X.K [] H2 (σ.zip ρ1 ++ (held ++ ((some (.ref A), .lst true acc) :: l))) := i2.perm (by
    refine List.Perm.trans List.perm_middle.symm ?_
    exact List.Perm.append_left _ List.perm_middle.symm)
  obtain ⟨ks, kn⟩ := ok k σ ρ1 H2 _ Agr.refl rfl h2 i2'
  cases m with
  | zero => cases e2
  | succ m =>
    obtain ⟨s, e3, e4⟩ := Option.bind_eq_some_iff.mp e2
    obtain ⟨x, e5, e6⟩ := Option.bind_eq_some_iff.mp e3
    cases x with
    | none =>
      cases e6
      cases e4
      exact .inl ⟨ks e5, q H2 h2 i2⟩
    | some d =>
      obtain ⟨kg1, ky⟩ := kn d e5
      obtain ⟨ρ2, e7, e8⟩ := Option.bind_eq_some_iff.mp e6
      obtain ⟨⟨b, ρ3⟩, e9, e10⟩ := Option.bind_eq_some_iff.mp e8
      refine .inr ⟨kg1, fun H' => ∃ acc' ρ4, s = .inl (acc', ρ4) ∧ ρ4.length = σ.length ∧ Items X.K [] H' ((some (.ref A), .lst true acc') :: (σ.zip ρ4 ++ (held ++ l))), ?_, ?_⟩
      · rintro H' ⟨acc', ρ4, es, b1, i3⟩
        subst es
        exact ⟨m, Nat.lt_succ_self m, acc', ρ4, b1, i3, e4⟩
      · intro x H3 hy
        have i3 := ky x H3 hy
        have i4 : Items X.K [] H3 (σ.zip ρ1 ++ ((some x, d) :: (held ++ ((some (.ref A), .lst true acc) :: l)))) := i3.perm List.perm_middle.symm
        have i5 := wipe_items (vs := vs) (by omega) nd (fun v hv' => by rw [hσ]; exact hv v hv') i4
        have i6 : Items X.K [] H3 ((some x, d) :: ((wipe σ vs).zip (wipeD ρ1 vs) ++ (hold σ ρ1 vs ++ (held ++ ((some (.ref A), .lst true acc) :: l))))) := i5.perm (by
          refine List.Perm.trans (List.Perm.append_left _ List.perm_middle) ?_
          exact List.perm_middle)
        refine ⟨d, _, _, ρ2, by rw [wipe_length, wipeD_len]; omega, i6, e7, fun σ3 H4 m1 m2 ag i7 => ?_⟩
        rw [wipe_length] at m1 m2
        have same : ∀ i, i ∉ vs → σ3[i]? = σ[i]? := fun i hi => by
          by_cases hin : i < n
          · rw [ag i (hCb i hin hi), wipe_get σ hi]
          · rw [List.getElem?_eq_none (by omega), List.getElem?_eq_none (by omega)]
        refine ⟨wipe_same (by omega) same |>.trans ?_, ?_⟩
        · rfl
        · have back : ∀ (ρ5 : Ev) (H5 : Hp) (l' : List Itm), ρ5.length = σ.length → Items X.K [] H5 (σ3.zip ρ5 ++ (hold σ ρ1 vs ++ l')) → Items X.K [] H5 (σ.zip (unw ρ1 vs ρ5) ++ l') := fun ρ5 H5 l' hl5 hi5 => by
            have := unwipe_items (σ := σ) (ρ := ρ1) (vs := vs) (by omega) (fun v hv' => by rw [m1, hσ]; exact hv v hv') hi5
            rw [unwS_eq (by omega) same] at this
            exact this
          refine ⟨ρ2, _, b, ρ3, by omega, i7, e9, fun H5 m3 i8 => ?_⟩
          cases b with
          | false =>
            rw [if_neg Bool.false_ne_true] at e10
            rw [if_neg Bool.false_ne_true]
            cases e10
            refine ⟨acc, _, rfl, by rw [unw_len]; show ρ3.length = _; omega, ?_⟩
            have i9 := back ρ3 H5 _ (by omega) i8
            exact i9.perm (by
              refine List.Perm.trans (List.Perm.append_left _ List.perm_middle) ?_
              exact List.perm_middle)
          | true =>
            rw [if_pos rfl] at e10
            rw [if_pos rfl]
            obtain ⟨⟨y, ρ4⟩, e11, e12⟩ := Option.bind_eq_some_iff.mp e10
            replace e12 : (if acc.length < 16777216 then some (Sum.inl (acc ++ [y], unw ρ1 vs ρ4)) else none) = some s := e12
            split at e12
            · rename_i hz
              refine ⟨ρ3, _, y, ρ4, by omega, i8, e11, fun v H6 m4 i9 => ?_⟩
              have i10 : Items X.K [] H6 (σ3.zip ρ4 ++ (hold σ ρ1 vs ++ ((some v, y) :: (held ++ ((some (.ref A), .lst true acc) :: l))))) := i9.perm (by
                refine List.Perm.trans List.perm_middle.symm ?_
                exact List.Perm.append_left _ List.perm_middle.symm)
              have i11 := back ρ4 H6 _ (by omega) i10
              have i12 : Items X.K [] H6 ((some (.ref A), .lst true acc) :: ((some v, y) :: (σ.zip (unw ρ1 vs ρ4) ++ (held ++ l)))) := i11.perm (by
                refine List.Perm.trans List.perm_middle ?_
                refine List.Perm.trans (.cons _ (List.Perm.append_left _ List.perm_middle)) ?_
                refine List.Perm.trans (.cons _ List.perm_middle) ?_
                exact List.Perm.swap _ _ _)
              obtain ⟨us, hs, hlen, hop⟩ := i12.open
              refine ⟨us, hs, by rw [sizeLine_eq, hlen]; exact hz, acc ++ [y], _, by cases e12; rfl, by rw [unw_len]; omega, ?_⟩
              refine Items.close hs (by simp [hlen]) ?_
              have ep : prs (us ++ [v]) (acc ++ [y]) = prs us acc ++ [(some v, y)] := by
                show ((us ++ [v]).map some).zip (acc ++ [y]) = _
                rw [List.map_append, List.zip_append (by simp [hlen])]
                rfl
              rw [ep, List.append_assoc]
              exact hop
            · cases e12
theorem lc2_ok {fi fi1 : Ev → Option (Src × Ev)} {g g1 : D → Ev → Option Ev} {test test1 : Ev → Option (Bool × Ev)} {fe : Ev → Option (D × Ev)} {Cb C1 Cb1 : List Nat} {vs vs1 : List Nat} {n : Nat} {wi : TI} {C : List Nat}
    (nd : vs.Nodup) (hv : ∀ v ∈ vs, v < n) (hCb : ∀ i, i < n → i ∉ vs → i ∈ Cb) (nd1 : vs1.Nodup) (hv1 : ∀ v ∈ vs1, v < n) (hCb1 : ∀ i, i < n → i ∉ vs1 → i ∈ Cb1)
    (ki : ∀ (σ : Sl) (H : Hp) (ρ : Ev) (l : List Itm) (R : It → Hp → Prop) (it : Src) (ρ' : Ev), σ.length = ρ.length → Items X.K [] H (σ.zip ρ ++ l) → fi ρ = some (it, ρ') →
      (∀ J H' held, ρ'.length = ρ.length → Items X.K [] H' (σ.zip ρ' ++ (held ++ l)) → ItOk X C σ held J it → R J H') → wi σ H R)
    (σ : Sl) (H : Hp) (ρ : Ev) (l : List Itm) (Q : VK) (r : D) (ρ' : Ev) (hσ : σ.length = n) (hl : σ.length = ρ.length) (hI : Items X.K [] H (σ.zip ρ ++ l)) (hf : eLc2 vs vs1 fi g test fi1 g1 test1 fe ρ = some (r, ρ'))
    (q : ∀ v H', ρ'.length = ρ.length → Items X.K [] H' ((some v, r) :: (σ.zip ρ' ++ l)) → Q v H') : tLc2 wi (canG X.K Cb g) (canT X.K test) (canI X C1 fi1) (canG X.K Cb1 g1) (canT X.K test1) (canE X.K fe) vs vs1 σ H Q := by
  obtain ⟨⟨it, ρ0⟩, e1, hf⟩ := Option.bind_eq_some_iff.mp hf
  obtain ⟨n0, hf⟩ := lrun_iff.mp hf
  refine ki σ H ρ l _ it ρ0 hl hI e1 fun J H1 held l1 i1 ok A hA => ?_
  refine ⟨fun k m H2 => ∃ acc ρ1, ρ1.length = σ.length ∧ Items X.K [] H2 ((some (.ref A), .lst true acc) :: (σ.zip ρ1 ++ (held ++ l))) ∧ lp (oStep vs vs1 it g test fi1 g1 test1 fe) m k (acc, ρ1) = some (r, ρ'), ⟨n0, [], ρ0, by omega, Items.new hA rfl i1 (fun b hb => by cases hb), hf⟩, ?_⟩
  rintro k m H2 ⟨acc, ρ1, h2, i2, e2⟩
  have i2' : Items X.K [] H2 (σ.zip ρ1 ++ (held ++ ((some (.ref A), .lst true acc) :: l))) := i2.perm (by
    refine List.Perm.trans List.perm_middle.symm ?_
    exact List.Perm.append_left _ List.perm_middle.symm)
  obtain ⟨ks, kn⟩ := ok k σ ρ1 H2 _ Agr.refl rfl h2 i2'
  cases m with
  | zero => cases e2
  | succ m =>
    obtain ⟨s, e3, e4⟩ := Option.bind_eq_some_iff.mp e2
    obtain ⟨x, e5, e6⟩ := Option.bind_eq_some_iff.mp e3
    cases x with
    | none =>
      cases e6
      cases e4
      exact .inl ⟨ks e5, q _ H2 (by show ρ1.length = _; omega) (i2.sub ⟨held, (List.Perm.cons _ perm_mid).trans List.perm_middle.symm⟩)⟩
    | some d =>
      obtain ⟨kg1, ky⟩ := kn d e5
      obtain ⟨ρ2, e7, e8⟩ := Option.bind_eq_some_iff.mp e6
      obtain ⟨⟨b, ρ3⟩, e9, e10⟩ := Option.bind_eq_some_iff.mp e8
      refine .inr ⟨kg1, fun H' => ∃ acc' ρ4, s = .inl (acc', ρ4) ∧ ρ4.length = σ.length ∧ Items X.K [] H' ((some (.ref A), .lst true acc') :: (σ.zip ρ4 ++ (held ++ l))), ?_, ?_⟩
      · rintro H' ⟨acc', ρ4, es, b1, i3⟩
        subst es
        exact ⟨m, Nat.lt_succ_self m, acc', ρ4, b1, i3, e4⟩
      · intro x H3 hy
        have i3 := ky x H3 hy
        have i4 : Items X.K [] H3 (σ.zip ρ1 ++ ((some x, d) :: (held ++ ((some (.ref A), .lst true acc) :: l)))) := i3.perm List.perm_middle.symm
        have i5 := wipe_items (vs := vs) (by omega) nd (fun v hv' => by rw [hσ]; exact hv v hv') i4
        have i6 : Items X.K [] H3 ((some x, d) :: ((wipe σ vs).zip (wipeD ρ1 vs) ++ (hold σ ρ1 vs ++ (held ++ ((some (.ref A), .lst true acc) :: l))))) := i5.perm (by
          refine List.Perm.trans (List.Perm.append_left _ List.perm_middle) ?_
          exact List.perm_middle)
        refine ⟨d, _, _, ρ2, by rw [wipe_length, wipeD_len]; omega, i6, e7, fun σ3 H4 m1 m2 ag i7 => ?_⟩
        rw [wipe_length] at m1 m2
        have same : ∀ i, i ∉ vs → σ3[i]? = σ[i]? := fun i hi => by
          by_cases hin : i < n
          · rw [ag i (hCb i hin hi), wipe_get σ hi]
          · rw [List.getElem?_eq_none (by omega), List.getElem?_eq_none (by omega)]
        refine ⟨wipe_same (by omega) same |>.trans ?_, ?_⟩
        · rfl
        · have back : ∀ (ρ5 : Ev) (H5 : Hp) (l' : List Itm), ρ5.length = σ.length → Items X.K [] H5 (σ3.zip ρ5 ++ (hold σ ρ1 vs ++ l')) → Items X.K [] H5 (σ.zip (unw ρ1 vs ρ5) ++ l') := fun ρ5 H5 l' hl5 hi5 => by
            have := unwipe_items (σ := σ) (ρ := ρ1) (vs := vs) (by omega) (fun v hv' => by rw [m1, hσ]; exact hv v hv') hi5
            rw [unwS_eq (by omega) same] at this
            exact this
          refine ⟨ρ2, _, b, ρ3, by omega, i7, e9, fun H5 m3 i8 => ?_⟩
          cases b with
          | false =>
            rw [if_neg Bool.false_ne_true] at e10
            rw [if_neg Bool.false_ne_true]
            cases e10
            refine ⟨acc, _, rfl, by rw [unw_len]; show ρ3.length = _; omega, ?_⟩
            have i9 := back ρ3 H5 _ (by omega) i8
            exact i9.perm (by
              refine List.Perm.trans (List.Perm.append_left _ List.perm_middle) ?_
              exact List.perm_middle)
          | true =>
            rw [if_pos rfl] at e10
            rw [if_pos rfl]
            obtain ⟨⟨it1, ρ4⟩, e11, e12⟩ := Option.bind_eq_some_iff.mp e10
            obtain ⟨⟨rr, ρ5⟩, e13, e14⟩ := Option.bind_eq_some_iff.mp e12
            split at e14
            · rename_i accF ea
              replace ea : rr = .lst true accF := ea
              subst ea
              cases e14
              refine ⟨ρ3, _, it1, ρ4, by omega, i8, e11, fun J1 H6 held1 m4 i9 ok1 => ?_⟩
              refine in_ok (X := X) (n := n) nd1 hv1 hCb1 (by omega) ok1 (l := hold σ ρ1 vs ++ (held ++ l)) (acc0 := acc) (A := A) (by show ρ4.length = σ3.length; have m4 : ρ4.length = ρ3.length := m4; have m3 : ρ3.length = ρ2.length := m3; omega) (i9.perm ?_) e13 fun H' m5 i10 => ⟨accF, _, rfl, by rw [unw_len]; show ρ5.length = _; omega, ?_⟩
              · refine List.Perm.trans (List.Perm.append_left _ (List.Perm.append_left _ (List.Perm.append_left _ List.perm_middle))) ?_
                refine List.Perm.trans (List.Perm.append_left _ (List.Perm.append_left _ List.perm_middle)) ?_
                refine List.Perm.trans (List.Perm.append_left _ List.perm_middle) ?_
                exact List.perm_middle
              · have i11 : Items X.K [] H' (σ3.zip ρ5 ++ (hold σ ρ1 vs ++ ((some (.ref A), .lst true accF) :: (held ++ l)))) := (i10.perm (l' := held1 ++ (σ3.zip ρ5 ++ (hold σ ρ1 vs ++ ((some (.ref A), .lst true accF) :: (held ++ l))))) (by
                  refine List.Perm.trans (.cons _ perm_mid) ?_
                  refine List.Perm.trans List.perm_middle.symm ?_
                  refine List.Perm.append_left _ ?_
                  refine List.Perm.trans List.perm_middle.symm ?_
                  refine List.Perm.append_left _ ?_
                  exact List.perm_middle.symm)).drop
                have i12 := back ρ5 H' _ (by omega) i11
                exact i12.perm List.perm_middle
            · cases e14
theorem de_lc2 {elt tg iter tg1 iter1 : Expr} {ifs ifs1 : List Expr} {scope : Scope} {own : List (Str × Nat)} {pos : Pos} {fi fi1 : Ev → Option (Src × Ev)} {g g1 : D → Ev → Option Ev} {test test1 : Ev → Option (Bool × Ev)} {fe : Ev → Option (D × Ev)} (vs1 C Cb C1 Cb1 : List Nat) (n : Nat)
    (hc : X.calm = true) (hN : X.N.Nodup) (hn : X.N.length = n) (hi : DI X C tg iter fi) (ok : BlkOk X.N X.env.scope scope own)
    (hg : ∀ (s : Shared) (H : Hp) (A : Addr) (cl : List (Str × Addr)) (fp : List Addr), DG (X.blk s H scope (compEnvC scope cl A X.env) fp) Cb tg g)
    (ht : ∀ (s : Shared) (H : Hp) (A : Addr) (cl : List (Str × Addr)) (fp : List Addr), DTs (X.blk s H scope (compEnvC scope cl A X.env) fp) ifs test)
    (hi1 : ∀ (s : Shared) (H : Hp) (A : Addr) (cl : List (Str × Addr)) (fp : List Addr), DI (X.blk s H scope (compEnvC scope cl A X.env) fp) C1 tg1 iter1 fi1)
    (hg1 : ∀ (s : Shared) (H : Hp) (A : Addr) (cl : List (Str × Addr)) (fp : List Addr), DG (X.blk s H scope (compEnvC scope cl A X.env) fp) Cb1 tg1 g1)
    (ht1 : ∀ (s : Shared) (H : Hp) (A : Addr) (cl : List (Str × Addr)) (fp : List Addr), DTs (X.blk s H scope (compEnvC scope cl A X.env) fp) ifs1 test1)
    (he : ∀ (s : Shared) (H : Hp) (A : Addr) (cl : List (Str × Addr)) (fp : List Addr), DE (X.blk s H scope (compEnvC scope cl A X.env) fp) elt fe)
    (nd : (own.map (·.2)).Nodup := by decide) (hv : ∀ v ∈ own.map (·.2), v < n := by decide) (hCb : ∀ i, i < n → i ∉ own.map (·.2) → i ∈ Cb := by decide)
    (nd1 : vs1.Nodup := by decide) (hv1 : ∀ v ∈ vs1, v < n := by decide) (hCb1 : ∀ i, i < n → i ∉ vs1 → i ∈ Cb1 := by decide) (hw : ∀ i ∈ vs1, i ∈ own.map (·.2) := by decide)
    (hs : ∀ x, foldedSetIterable iter X.env x = pure x := by intro _; rfl) (hs1 : ∀ env x, foldedSetIterable iter1 env x = pure x := by intro _ _; rfl) : DE X (.ListComp elt [⟨tg, iter, ifs, 0⟩, ⟨tg1, iter1, ifs1, 0⟩] scope pos) (eLc2 (own.map (·.2)) vs1 fi g test fi1 g1 test1 fe) := by
  obtain ⟨ti, pi, ki⟩ := hi.ex
  have h0 := pe_lc2 (te := canE X.K fe) (tt := canT X.K test) (g := canG X.K Cb g) (wi1 := canI X C1 fi1) (tt1 := canT X.K test1) (g1 := canG X.K Cb1 g1) hc hN pi ok hw (fun s H A cl fp => (hg s H A cl fp).can) (fun s H A cl fp => (ht s H A cl fp).can) (fun s H A cl fp => (hi1 s H A cl fp).can) (fun s H A cl fp => (hg1 s H A cl fp).can) (fun s H A cl fp => (ht1 s H A cl fp).can) (fun s H A cl fp => (he s H A cl fp).can) (pos := pos) hs hs1
  exact ⟨_, PE.len h0, fun σ H ρ l Q r ρ' h2 h3 h4 h5 h1 => lc2_ok nd hv hCb nd1 hv1 hCb1 ki σ H ρ l Q r ρ' (by omega) h2 h3 h4 h5⟩
/-- name = [..] -/
theorem ds_setLc2 {C : List Nat} (i : Nat) {y : Str} {py : Pos} {elt tg iter tg1 iter1 : Expr} {ifs ifs1 : List Expr} {scope : Scope} {own : List (Str × Nat)} {pos spos : Pos} {fi fi1 : Ev → Option (Src × Ev)} {g g1 : D → Ev → Option Ev} {test test1 : Ev → Option (Bool × Ev)} {fe : Ev → Option (D × Ev)} (vs1 C2 Cb C1 Cb1 : List Nat) (n : Nat)
    (hc : X.calm = true) (hN : X.N.Nodup) (hn : X.N.length = n) (hi : DI X C2 tg iter fi) (ok : BlkOk X.N X.env.scope scope own)
    (hg : ∀ (s : Shared) (H : Hp) (A : Addr) (cl : List (Str × Addr)) (fp : List Addr), DG (X.blk s H scope (compEnvC scope cl A X.env) fp) Cb tg g)
    (ht : ∀ (s : Shared) (H : Hp) (A : Addr) (cl : List (Str × Addr)) (fp : List Addr), DTs (X.blk s H scope (compEnvC scope cl A X.env) fp) ifs test)
    (hi1 : ∀ (s : Shared) (H : Hp) (A : Addr) (cl : List (Str × Addr)) (fp : List Addr), DI (X.blk s H scope (compEnvC scope cl A X.env) fp) C1 tg1 iter1 fi1)
    (hg1 : ∀ (s : Shared) (H : Hp) (A : Addr) (cl : List (Str × Addr)) (fp : List Addr), DG (X.blk s H scope (compEnvC scope cl A X.env) fp) Cb1 tg1 g1)
    (ht1 : ∀ (s : Shared) (H : Hp) (A : Addr) (cl : List (Str × Addr)) (fp : List Addr), DTs (X.blk s H scope (compEnvC scope cl A X.env) fp) ifs1 test1)
    (he : ∀ (s : Shared) (H : Hp) (A : Addr) (cl : List (Str × Addr)) (fp : List Addr), DE (X.blk s H scope (compEnvC scope cl A X.env) fp) elt fe)
    (nd : (own.map (·.2)).Nodup := by decide) (hv : ∀ v ∈ own.map (·.2), v < n := by decide) (hCb : ∀ i, i < n → i ∉ own.map (·.2) → i ∈ Cb := by decide)
    (nd1 : vs1.Nodup := by decide) (hv1 : ∀ v ∈ vs1, v < n := by decide) (hCb1 : ∀ i, i < n → i ∉ vs1 → i ∈ Cb1 := by decide) (hw : ∀ i ∈ vs1, i ∈ own.map (·.2) := by decide)
    (hC : i ∉ C := by decide) (hy : X.N[i]? = some y := by rfl) (hyl : X.env.scope.names.lookup y = some .local := by rfl)
    (hsw : swapsWith (.ListComp elt [⟨tg, iter, ifs, 0⟩, ⟨tg1, iter1, ifs1, 0⟩] scope pos) (some (.Name y py)) spos.line X.env = pure true := by exact sw_true rfl rfl rfl (by decide +kernel))
    (hs : ∀ x, foldedSetIterable iter X.env x = pure x := by intro _; rfl) (hs1 : ∀ env x, foldedSetIterable iter1 env x = pure x := by intro _ _; rfl) : DS X C (.Assign [.Name y py] (.ListComp elt [⟨tg, iter, ifs, 0⟩, ⟨tg1, iter1, ifs1, 0⟩] scope pos) spos) (bAsg (eLc2 (own.map (·.2)) vs1 fi g test fi1 g1 test1 fe) (gNm i)) := by
  obtain ⟨ti, pi, ki⟩ := hi.ex
  have h0 := ps_setLc2 (te := canE X.K fe) (tt := canT X.K test) (g := canG X.K Cb g) (wi1 := canI X C1 fi1) (tt1 := canT X.K test1) (g1 := canG X.K Cb1 g1) (i := i) hc hN hy hyl hsw pi ok hw (fun s H A cl fp => (hg s H A cl fp).can) (fun s H A cl fp => (ht s H A cl fp).can) (fun s H A cl fp => (hi1 s H A cl fp).can) (fun s H A cl fp => (hg1 s H A cl fp).can) (fun s H A cl fp => (ht1 s H A cl fp).can) (fun s H A cl fp => (he s H A cl fp).can) hs hs1
  refine ⟨_, PS.len h0, fun D' σ H ρ l o hl hI hf q h1 => ?_⟩
  obtain ⟨⟨d, ρ1⟩, e1, hf⟩ := Option.bind_eq_some_iff.mp hf
  cases hf
  refine lc2_ok nd hv hCb nd1 hv1 hCb1 ki σ H ρ l _ d ρ1 (by omega) hl hI e1 fun v H1 l1 i1 => ?_
  show D'.nx (σ.set i (some v)) H1
  by_cases h : i < σ.length
  · exact q _ H1 (by simp) (by simp; omega) (Agr.set hC) (set_items (by show σ.length = ρ1.length; have l2 : ρ1.length = ρ.length := l1; omega) h i1)
  · have e1 : σ.set i (some v) = σ := List.set_eq_of_length_le (by omega)
    have e2 : ρ1.set i d = ρ1 := List.set_eq_of_length_le (by omega)
    refine q _ H1 (by simp) (by simp; omega) (Agr.set hC) ?_
    show Items X.K [] H1 ((σ.set i (some v)).zip (ρ1.set i d) ++ l)
    rw [e1, e2]
    exact i1.tail
end
theorem W_eLc2 {vs vs1 : List Nat} {fi fi1 : Ev → Option (Src × Ev)} {g g1 : D → Ev → Option Ev} {test test1 : Ev → Option (Bool × Ev)} {elt : Ev → Option (D × Ev)} {x0 : D} {ρ : Ev} {Q : D × Ev → Prop} : W (eLc2 vs vs1 fi g test fi1 g1 test1 elt (x0 :: ρ)) Q = W (fi (x0 :: ρ)) fun p => W (lrun (oStep vs vs1 p.1 g test fi1 g1 test1 elt) ([], p.2)) Q := W_bind
/-- the outer turns over l.map emb: each adds a list -/
theorem W_comp2 {α : Type} {vs vs1 : List Nat} {it : Src} {g g1 : D → Ev → Option Ev} {test test1 : Ev → Option (Bool × Ev)} {fi1 : Ev → Option (Src × Ev)} {elt : Ev → Option (D × Ev)} {ρ : Ev} {Q : D × Ev → Prop} (emb : α → D) (l : List α) (F : α → List D)
    (hi : ∀ k, k ≤ l.length → it k ρ = some (l.map emb)[k]?)
    (hs : ∀ x ∈ l, ∀ acc : List D, acc.length + (F x).length ≤ (l.flatMap F).length → W (g (emb x) (wipeD ρ vs)) fun ρ1 => W (test ρ1) fun q => if q.1 = true then W (fi1 q.2) fun p => W (lrun (cStep vs1 p.1 g1 test1 elt) (acc, p.2)) fun r => r.1 = .lst true (acc ++ F x) ∧ unw ρ vs r.2 = ρ else F x = [] ∧ unw ρ vs q.2 = ρ)
    (hd : Q (.lst true (l.flatMap F), ρ)) : W (lrun (oStep vs vs1 it g test fi1 g1 test1 elt) ([], ρ)) Q := by
  refine W_lrun (fun k a => k ≤ l.length ∧ a.2 = ρ ∧ a.1 = (l.take k).flatMap F) (fun k _ => l.length - k) ⟨Nat.zero_le _, rfl, by simp⟩ ?_
  rintro k ⟨acc, ρ'⟩ ⟨hk, he, ha⟩
  obtain rfl : ρ' = ρ := he
  obtain rfl : acc = _ := ha
  unfold oStep
  rw [W_bind, hi k hk, W_some]
  cases e : (l.map emb)[k]? with
  | some d =>
    rw [List.getElem?_map] at e
    obtain ⟨x, hx, rfl⟩ := Option.map_eq_some_iff.mp e
    have hlt : k < l.length := (List.getElem?_eq_some_iff.mp hx).1
    have ht : (l.take (k + 1)).flatMap F = (l.take k).flatMap F ++ F x := by rw [List.take_add_one, hx, List.flatMap_append]; simp
    show W ((g _ _).bind _) _
    rw [W_bind]
    have hb : ((l.take k).flatMap F).length + (F x).length ≤ (l.flatMap F).length := by
      have e : l = l.take (k + 1) ++ l.drop (k + 1) := (List.take_append_drop _ _).symm
      have : (l.flatMap F).length = ((l.take (k + 1)).flatMap F).length + ((l.drop (k + 1)).flatMap F).length := by
        conv => lhs; rw [e]
        rw [List.flatMap_append, List.length_append]
      rw [this, ht, List.length_append]
      omega
    refine W_mono (hs x (List.mem_of_getElem? hx) ((l.take k).flatMap F) hb) fun ρ1 h1 => ?_
    rw [W_bind]
    refine W_mono h1 fun q h2 => ?_
    rw [W_ite]
    split
    · rename_i hb
      rw [if_pos hb] at h2
      rw [W_bind]
      refine W_mono h2 fun p h3 => ?_
      rw [W_bind]
      refine W_mono h3 fun r ⟨h4, h5⟩ => ?_
      obtain ⟨rd, rρ⟩ := r
      obtain rfl : rd = _ := h4
      show W (some _) _
      rw [W_some]
      exact ⟨⟨hlt, h5, ht.symm⟩, by show l.length - (k + 1) < l.length - k; omega⟩
    · rename_i hb
      rw [if_neg hb] at h2
      rw [W_some]
      exact ⟨⟨hlt, h2.2, by show _ = (l.take (k + 1)).flatMap F; rw [ht, h2.1, List.append_nil]⟩, by show l.length - (k + 1) < l.length - k; omega⟩
  | none =>
    have : k = l.length := by
      have := List.getElem?_eq_none_iff.mp e
      rw [List.length_map] at this
      omega
    subst this
    show W (some _) _
    rw [W_some, List.take_length]
    exact hd
/-- a comprehension's turns over l.map emb, begun with some -/
theorem W_compA {α : Type} {vs : List Nat} {it : Src} {g : D → Ev → Option Ev} {test : Ev → Option (Bool × Ev)} {elt : Ev → Option (D × Ev)} {ρ : Ev} {acc : List D} {Q : D × Ev → Prop} (emb : α → D) (l : List α) (p : α → Bool) (f : α → D) (hn : acc.length + l.length ≤ 16777216)
    (hi : ∀ k, k ≤ l.length → it k ρ = some (l.map emb)[k]?)
    (hs : ∀ x ∈ l, W (g (emb x) (wipeD ρ vs)) fun ρ1 => W (test ρ1) fun q => q.1 = p x ∧ (if p x = true then W (elt q.2) fun r => r.1 = f x ∧ unw ρ vs r.2 = ρ else unw ρ vs q.2 = ρ))
    (hd : Q (.lst true (acc ++ (l.filter p).map f), ρ)) : W (lrun (cStep vs it g test elt) (acc, ρ)) Q := by
  refine W_lrun (fun k a => k ≤ l.length ∧ a.2 = ρ ∧ a.1 = acc ++ ((l.take k).filter p).map f) (fun k _ => l.length - k) ⟨Nat.zero_le _, rfl, by simp⟩ ?_
  rintro k ⟨acc', ρ'⟩ ⟨hk, he, ha⟩
  obtain rfl : ρ' = ρ := he
  obtain rfl : acc' = _ := ha
  unfold cStep
  rw [W_bind, hi k hk, W_some]
  cases e : (l.map emb)[k]? with
  | some d =>
    rw [List.getElem?_map] at e
    obtain ⟨x, hx, rfl⟩ := Option.map_eq_some_iff.mp e
    have hlt : k < l.length := (List.getElem?_eq_some_iff.mp hx).1
    have hl : (((l.take k).filter p).map f).length ≤ k := by
      rw [List.length_map]
      exact Nat.le_trans (List.length_filter_le _ _) (by rw [List.length_take]; exact Nat.min_le_left _ _)
    have ht : l.take (k + 1) = l.take k ++ [x] := by rw [List.take_add_one, hx]; rfl
    show W ((g _ _).bind _) _
    rw [W_bind]
    refine W_mono (hs x (List.mem_of_getElem? hx)) fun ρ1 h1 => ?_
    rw [W_bind]
    refine W_mono h1 fun q ⟨h2, h3⟩ => ?_
    rw [W_ite, h2]
    cases hp : p x
    · rw [hp, if_neg (by decide)] at h3
      rw [if_neg (by decide), W_some]
      refine ⟨⟨hlt, h3, ?_⟩, by show l.length - (k + 1) < l.length - k; omega⟩
      show _ = acc ++ ((l.take (k + 1)).filter p).map f
      rw [ht, List.filter_append, List.filter_cons_of_neg (by rw [hp]; decide)]
      simp
    · rw [hp, if_pos rfl] at h3
      rw [if_pos rfl, W_bind]
      refine W_mono h3 fun r ⟨h4, h5⟩ => ?_
      rw [if_pos (by show (acc ++ ((l.take k).filter p).map f).length < 16777216; rw [List.length_append]; omega), W_some]
      refine ⟨⟨hlt, h5, ?_⟩, by show l.length - (k + 1) < l.length - k; omega⟩
      show _ = acc ++ ((l.take (k + 1)).filter p).map f
      rw [ht, List.filter_append, List.filter_cons_of_pos hp, List.map_append, h4]
      simp
  | none =>
    have : k = l.length := by
      have := List.getElem?_eq_none_iff.mp e
      rw [List.length_map] at this
      omega
    subst this
    show W (some _) _
    rw [W_some, List.take_length]
    exact hd
end Mv
end
section
set_option Elab.async false
set_option linter.all false
set_option maxRecDepth 100000
/-! x[i].append(y), y a name. -/
namespace Mv
open PySem PySem.Spec PyProof.Rows L2
section
variable {X : Cx}
theorem Items.nodup {K : Frg} {E : List Addr} {H : Hp} {l : List Itm} (h : Items K E H l) : E.Nodup := by
  obtain ⟨G, fp, e, ho, nd, hn⟩ := h
  exact (List.nodup_append.mp nd).1
theorem upd_self {H : Hp} {a : Addr} {o : HO} (h : H a = some o) : upd H a o = H := by
  funext b
  unfold upd
  split
  · rename_i e; rw [e, h]
  · rfl
theorem perm_in {P S R : List Itm} {x : Itm} : (P ++ x :: S ++ R).Perm (x :: (P ++ S ++ R)) := by
  rw [List.append_assoc, List.append_assoc]
  exact List.perm_middle
theorem prs_at {us : List V} {ds : List D} {m : Nat} {v : V} {d : D} (hl : us.length = ds.length) (h1 : us[m]? = some v) (h2 : ds[m]? = some d) :
    ∃ A B, prs us ds = A ++ (some v, d) :: B ∧ ∀ d', prs us (ds.set m d') = A ++ (some v, d') :: B := by
  have hu : (us.map some)[m]? = some (some v) := by rw [List.getElem?_map, h1]; rfl
  obtain ⟨A, B, e1, e2, _⟩ := zip_at (σ := us.map some) hu h2
  exact ⟨A, B, e1, e2⟩
def eApp2 (j : Nat) (fi : Ev → Option (Hd × Ev)) (i : Nat) : Ev → Option (D × Ev) := fun ρ => match ρ[j]? with
  | some (.lst _ _) => (fi ρ).bind fun p => match p.2[j]?, p.1.get p.2, p.2[i]? with
    | some (.lst true ds), .int k, some e => if e.frz = true ∧ D.dat e = true then (ixN ds.length k).bind fun m => match ds[m]? with
        | some (.lst true xs) => if xs.length < 16777216 then some (.non, p.2.set j (.lst true (ds.set m (.lst true (xs ++ [e]))))) else none
        | _ => none
      else none
    | _, _, _ => none
  | _ => none
theorem de_app2 (j i : Nat) {x y : Str} {b : Expr} {npos npos2 spos apos cpos : Pos} {fi : Ev → Option (Hd × Ev)} (hb : DH X b fi) (hs : PlainIx b)
    (hN : X.N[j]? = some x := by rfl) (hv : Vis X.env.scope x := by first | exact Or.inl rfl | exact Or.inr (Or.inl rfl) | exact Or.inr (Or.inr rfl)) (hd : (x == ("__debug__" : Str)) = false := by decide) (hcd : (x == ("__classdict__" : Str)) = false := by decide)
    (hN2 : X.N[i]? = some y := by rfl) (hv2 : Vis X.env.scope y := by first | exact Or.inl rfl | exact Or.inr (Or.inl rfl) | exact Or.inr (Or.inr rfl)) (hd2 : (y == ("__debug__" : Str)) = false := by decide) (hcd2 : (y == ("__classdict__" : Str)) = false := by decide)
    (hbase : attributeBase (.Subscript (.Name x npos) b spos) "append" X.env (eval (.Subscript (.Name x npos) b spos) X.env) = eval (.Subscript (.Name x npos) b spos) X.env := by rfl)
    (hfew : ((backTo cpos (starEach [.Name y npos2] X.env)).all (fun x => !x.1) && (backToKw cpos (keywordEach [] X.env)).all (fun x => x.1.isSome)
      && decide ([Expr.Name y npos2].length + ([] : List Keyword).length + (if ([] : List Keyword).isEmpty then 0 else 1) < 30)) = true := by rfl)
    (hline : (apos.endLine == cpos.line) = true := by rfl) (hst : starEach [.Name y npos2] X.env = (false, eval (.Name y npos2) X.env) :: starEach [] X.env := by rfl) (hplain : (backTo cpos (starEach ([] : List Expr) X.env)).any (·.1) = false := by rfl) :
    DE X (.Call (.Attribute (.Subscript (.Name x npos) b spos) "append" apos) [.Name y npos2] [] cpos) (eApp2 j fi i) := by
  obtain ⟨tb, pb, kb⟩ := hb.ex
  refine ⟨_, pe_bm PySem.F.plainAttrs_list PySem.F.slot_list_append PySem.F.type_list_append mt_append (pe_ix ix_list (pe_var hN hv hd hcd) pb hs) (pa_cons (pe_var hN2 hv2 hd2 hcd2) pa_nil) hbase hfew hline hst hplain, fun σ H ρ l Q r ρ' hl hi hf q => ?_⟩
  unfold eApp2 at hf
  split at hf
  · rename_i o zs e5
    obtain ⟨⟨hd1, ρ1⟩, e1, hf⟩ := Option.bind_eq_some_iff.mp hf
    split at hf
    · rename_i ds k e ej ek ei
      split at hf
      · rename_i c
        obtain ⟨m, em, hf⟩ := Option.bind_eq_some_iff.mp hf
        split at hf
        · rename_i xs ex
          split at hf
          · rename_i hz
            cases hf
            obtain ⟨v, hv⟩ := slot_val hi hl e5 (by intro z; cases z)
            refine ⟨v, hv, ?_⟩
            refine kb σ H ρ l _ hd1 ρ1 hl hi e1 fun w H1 l1 a1 i1 => ?_
            have hk := i1.view (mem_hd (X := X) (hl := by omega) a1 i1)
            replace ek : hd1.get ρ1 = .int k := ek
            rw [ek] at hk
            obtain rfl : w = .int k := hk
            have i2 : Items X.K [] H1 (σ.zip ρ1 ++ (hd1.its (.int k) ++ l)) := i1.perm (by
              rw [← List.append_assoc, ← List.append_assoc]
              exact List.Perm.append_right l List.perm_append_comm)
            replace ej : ρ1[j]? = some (.lst true ds) := ej
            replace ei : ρ1[i]? = some e := ei
            have ene : e ≠ .any := fun z => by rw [z] at c; cases c.2
            obtain ⟨w, hw⟩ := slot_val i2 (by omega) ei ene
            have i3 := i2.dup (List.mem_append_left _ (zip_mem hw ei)) c.1
            have i4 : Items X.K [] H1 (σ.zip ρ1 ++ ((some w, e) :: (hd1.its (.int k) ++ l))) := i3.perm List.perm_middle.symm
            obtain ⟨A, B, h1, h2⟩ := i4.slot hv ej
            obtain ⟨a, us, rfl, hs, hlen, _⟩ := h1.list List.mem_cons_self
            obtain ⟨us', hs', hl', hop⟩ := h1.open
            rw [hs] at hs'
            cases hs'
            have hm : m < us.length := by rw [hlen]; exact (List.getElem?_eq_some_iff.mp ex).1
            have hum : us[m]? = some us[m] := List.getElem?_eq_getElem hm
            obtain ⟨P, S, p1, p2⟩ := prs_at hlen hum ex
            rw [p1] at hop
            have hop2 : Items X.K [a] H1 ((some us[m], .lst true xs) :: (P ++ S ++ (A ++ B ++ ((some w, e) :: (hd1.its (.int k) ++ l))))) := hop.perm perm_in
            obtain ⟨bb, vs, ebb, hbs, hbl, _⟩ := hop2.list List.mem_cons_self
            rw [ebb] at hop2
            obtain ⟨vs', hbs', hbl', hop3⟩ := hop2.open
            rw [hbs] at hbs'
            cases hbs'
            have hne : a ≠ bb := fun z => by
              have := hop3.nodup
              rw [z] at this
              simp at this
            have hop4 : Items X.K [bb, a] H1 (prs (vs ++ [w]) (xs ++ [e]) ++ (P ++ S ++ (A ++ B ++ (hd1.its (.int k) ++ l)))) := hop3.perm (by
              rw [prs_app hbl]
              show List.Perm _ ((prs vs xs ++ [(some w, e)]) ++ _)
              rw [List.append_assoc (prs vs xs)]
              refine List.Perm.append_left _ ?_
              show List.Perm _ ((some w, e) :: _)
              show List.Perm (P ++ S ++ (A ++ B ++ (some w, e) :: (hd1.its (.int k) ++ l))) ((some w, e) :: (P ++ S ++ (A ++ B ++ (hd1.its (.int k) ++ l))))
              exact List.Perm.trans (List.Perm.append_left _ List.perm_middle) List.perm_middle)
            have hcl := Items.close hbs (by simp [hbl]) hop4
            have hHa : upd H1 bb (.lst (vs ++ [w])) a = some (.lst us) := by rw [upd_ne hne]; exact hs
            have hcl2 : Items X.K [a] (upd H1 bb (.lst (vs ++ [w]))) (prs us (ds.set m (.lst true (xs ++ [e]))) ++ (A ++ B ++ (hd1.its (.int k) ++ l))) := hcl.perm (by
              rw [p2, ebb]
              exact perm_in.symm)
            have hcl3 := Items.close hHa (by simp [hlen]) hcl2
            rw [upd_self hHa] at hcl3
            have fin := h2 [] (upd H1 bb (.lst (vs ++ [w]))) (hd1.its (.int k) ++ l) _ hcl3
            refine ⟨a, us, k, us[m], rfl, rfl, SqL.of hs, ?_, ?_⟩
            · unfold atI
              rw [hlen, em]
              exact hum
            · rw [ebb]
              refine ⟨.inl ⟨rfl, vs, SqL.of hbs⟩, ?_⟩
              refine ⟨w, hw, ?_⟩
              refine ⟨bb, vs, w, rfl, rfl, hbs, by rw [sizeLine_eq, hbl]; exact hz, ?_⟩
              refine q .non _ (by show (ρ1.set j _).length = _; simp; exact l1) ?_
              have fin2 : Items X.K [] (upd H1 bb (.lst (vs ++ [w]))) (σ.zip (ρ1.set j (.lst true (ds.set m (.lst true (xs ++ [e]))))) ++ l) := (fin.perm (perm_mid)).drop
              exact fin2.add (d := .non) rfl fun _ _ => rfl
          · cases hf
        · cases hf
      · cases hf
    · cases hf
  · cases hf
end
end Mv
end
section
set_option Elab.async false
set_option linter.all false
set_option maxRecDepth 100000
set_option maxHeartbeats 4000000
/-! Slices of whole tuples, x[::-1], text * int, a sign in a text, list(range(..)), str.index. -/
namespace HT
open PySem PySem.Spec PyProof.Rows
section
variable {prog : Program} {w : World} {A : Around} {E : Value → Shared → Prop} {s : Shared}
theorem fm_congr {α β : Type} {f g : α → Option β} : ∀ {l : List α}, (∀ x ∈ l, f x = g x) → l.filterMap f = l.filterMap g
  | [], _ => rfl
  | x :: l, h => by rw [List.filterMap_cons, List.filterMap_cons, h x (by simp), fm_congr fun y hy => h y (by simp [hy])]
theorem pick_rev (xs : Array Value) : ((List.range xs.size).filterMap fun (k : Nat) => xs[((xs.size : Int) - 1 + (k : Int) * (-1)).toNat]?) = xs.toList.reverse := by
  have e : ((List.range xs.size).filterMap fun (k : Nat) => xs[((xs.size : Int) - 1 + (k : Int) * (-1)).toNat]?) = ((List.range xs.size).map fun k => xs.size - 1 - k).filterMap (xs[·]?) := by
    rw [List.filterMap_map]
    refine fm_congr fun k hk => ?_
    have := List.mem_range.mp hk
    show xs[_]? = xs[xs.size - 1 - k]?
    rw [show ((xs.size : Int) - 1 + (k : Int) * (-1)).toNat = xs.size - 1 - k by omega]
  rw [e, PySem.W.krv_range, List.filterMap_reverse, PySem.W.krv_all]
theorem sliceApplied_rev {sl : Addr} {u : Tok} {n : Nat} {Q : Int × Int × Nat → Shared → Prop} (hs : s.heap.IsSliceOf sl .none .none (.int (-1) u)) (hn : n ≤ sizeLine)
    (h : Q ((n : Int) - 1, -1, n) s) : wpAny (model prog w) A (Builtin.Slice.sliceApplied (.ref sl) (pure (n : Int))) Q E s := by
  obtain ⟨os, hos, hcs, hds⟩ := id hs
  unfold Builtin.Slice.sliceApplied Builtin.Slice.sliceFields
  refine wpAny_bind (wpAny_bind (wpAny_field hos hds (x := .none) rfl (wpAny_bind (wpAny_field hos hds (x := .none) rfl (wpAny_bind (wpAny_field hos hds (x := .int (-1) u) rfl (wpAny_pure ?_)))))))
  refine wpAny_bind (slicePart_int ?_)
  show wpAny _ _ (if ((-1 : Int) == 0) = true then _ else _) _ _ s
  rw [if_neg (by decide)]
  refine wpAny_bind (slicePart_none (wpAny_bind (slicePart_none (wpAny_bind (wpAny_pure ?_)))))
  have e1 : Builtin.Slice.sliceAdjust none none (-1) (n : Int) = ((n : Int) - 1, -1) := by rfl
  show wpAny _ _ (match Builtin.Slice.sliceAdjust none none (-1) (n : Int) with | (lo, hi) => pure (lo, (-1 : Int), Builtin.Slice.slicePlaces lo hi (-1))) _ _ s
  rw [e1]
  have e2 : Builtin.Slice.slicePlaces ((n : Int) - 1) (-1) (-1) = n := by
    unfold Builtin.Slice.slicePlaces
    simp
    try omega
  show wpAny _ _ (pure ((n : Int) - 1, (-1 : Int), Builtin.Slice.slicePlaces ((n : Int) - 1) (-1) (-1))) _ _ s
  rw [e2]
  exact wpAny_pure h
theorem getItem_tuple_rev {t sl : Addr} {items : Array Value} {u : Tok} {Q : Value → Shared → Prop} (ht : IsTup s.heap t items) (hs : s.heap.IsSliceOf sl .none .none (.int (-1) u))
    (h : Q (.ref s.heap.objs.size) { s with heap := s.heap.push { cls := .type "tuple", data := .seq items.toList.reverse.toArray } })
    (hsz : items.size ≤ sizeLine) : wpAny (model prog w) A (getItem (.ref t) (.ref sl)) Q E s := by
  have htake : sizeOk (.seq items.toList.reverse.toArray) := by
    show items.toList.reverse.toArray.size ≤ sizeLine
    rw [List.size_toArray, List.length_reverse, Array.length_toList]
    exact hsz
  obtain ⟨os, hos, hcs, hds⟩ := id hs
  have hTs : s.TypeIs (.ref sl) "slice" := ⟨os, hos, hcs⟩
  unfold getItem
  try with_reducible refine wpAny_holding ?_
  first | refine wpAny_bind (wpAny_pure ?_) | skip
  refine wpAny_bind (wpAny_sequenceKey ht.typeIs (by decide) ?_)
  refine wpAny_bind (wpAny_callSpecial?_slot (name := Str.ofString "__getitem__") ht.typeIs PyProof.Rows.slot_tuple_getitem
    (wpAny_call_entry PyProof.Rows.slot_tuple_getitem ht.typeIs entry_tuple_getitem ?_ (args_tuple_getitem _ _)))
  show wpAny _ _ (Builtin.Tuple.tupleItemsOf (.ref t) >>= _) _ _ s
  refine wpAny_bind (tupleItemsOf_ ht ?_)
  refine wpAny_bind (wpAny_typeOf hTs ?_)
  rw [if_pos (by decide)]
  refine wpAny_bind (sliceApplied_rev hs hsz ?_)
  have hno : ¬ ((((items.size : Int) - 1) == 0 && (-1 : Int) == 1 && items.size == items.size) = true) := by
    intro q
    rw [Bool.and_eq_true, Bool.and_eq_true] at q
    exact absurd q.1.2 (by decide)
  show wpAny _ _ (if (((items.size : Int) - 1) == 0 && (-1 : Int) == 1 && items.size == items.size) = true then _ else _) _ _ s
  rw [if_neg hno, pick_rev]
  first
    | exact wpAny_bind (m := Builtin.Tuple.tupleExact _) (wpAny_newObj_type (wpAny_pure ⟨_, rfl, wpAny_pure h⟩) htake)
    | exact wpAny_bind (m := Builtin.Tuple.tupleExact _) (wpAny_newObj_type (wpAny_bind (wpAny_pure (wpAny_pure ⟨_, rfl, wpAny_pure h⟩))) htake)
    | exact wpAny_bind (wpAny_bind (m := Builtin.Tuple.tupleExact _) (wpAny_newObj_type (wpAny_pure (wpAny_pure ⟨_, rfl, wpAny_pure h⟩)) htake))
    | exact wpAny_bind (wpAny_bind (m := Builtin.Tuple.tupleExact _) (wpAny_newObj_type (wpAny_pure ⟨_, rfl, wpAny_pure h⟩) htake))
end
end HT

namespace L2
open PySem PySem.Spec PyProof.Rows
def revS (z : Str) : Str := ⟨z.cps.toList.reverse.toArray⟩
theorem pick_all {α : Type} (xs : Array α) : (List.range xs.size).filterMap (xs[·]?) = xs.toList := by
  apply List.ext_getElem?
  intro i
  have : ∀ (n : Nat), n ≤ xs.size → (List.range n).filterMap (xs[·]?) = xs.toList.take n := by
    intro n
    induction n with
    | zero => intro _; rfl
    | succ n ih =>
      intro h
      rw [List.range_succ, List.filterMap_append, ih (by omega), List.take_succ]
      congr 1
      have e : xs[n]? = some xs[n] := Array.getElem?_eq_getElem (by omega)
      rw [List.filterMap_cons, e, List.filterMap_nil, Array.getElem?_toList, e]
      rfl
  rw [this xs.size (Nat.le_refl _), List.take_of_length_le (by rw [Array.length_toList]; exact Nat.le_refl _)]
theorem rev_made (z : Str) (t u : Tok) : sliceMade z t none none (some (-1, u)) = .str (revS z) := by
  unfold sliceMade slicePicked
  have hn : ∀ b : Bool, ¬ (((-1 : Int) == 1 && b) = true) := by decide
  refine (if_neg (hn _)).trans ?_
  have e : Builtin.Str.strSliceIndices none none (-1) z.length = (List.range z.length).map fun k => z.length - 1 - k := PySem.W.krv_sliceRange z.length
  show Made.str ⟨((Builtin.Str.strSliceIndices none none (-1) z.length).filterMap (z.cps[·]?)).toArray⟩ = _
  rw [e, PySem.W.krv_range, List.filterMap_reverse]
  show Made.str ⟨(((List.range z.cps.size).filterMap (z.cps[·]?)).reverse).toArray⟩ = _
  rw [pick_all]
  rfl
section
variable {X : Cx}
/-- x[::-1] of a list, a tuple, a text -/
def tRevA (K : PySem.W.Frag) (te : TE) : TE := fun σ H Q => te σ H fun x H1 => (∃ a xs, x = .ref a ∧ SqL K H1 a xs ∧ ∀ p, H1 p = none → Q (.ref p) (upd H1 p (.lst xs.reverse))) ∨
  (∃ a xs, x = .ref a ∧ SqT K H1 a xs ∧ ∀ p, H1 p = none → Q (.ref p) (upd H1 p (.tup xs.reverse))) ∨ ∃ z, x = .str z ∧ z.length ≤ sizeLine ∧ Q (.str (revS z)) H1
theorem pe_revA {e : Expr} {te : TE} {k : Nat} {p1 p2 p3 pos : Pos} (he : PE X e te) : PE X (.Subscript e (.Slice none none (some (.UnaryOp .USub (.Constant (.int 1) k p1) p2)) p3) pos) (tRevA X.K te) := by
  refine ⟨fun pins s σ H Q I h => ?_⟩
  refine Subscript_ (thn (he.run pins s σ H _ I h) fun v s1 ⟨x, H1, I1, r1, q1⟩ => ?_)
  have hst : PO X (some (.UnaryOp .USub (.Constant (.int 1) k p1) p2)) (tPart (tUn (rU fun i => .int (-i)) (tC (.int 1)))) := po_some (pe_un un_neg pe_int)
  refine wpAny_Slice (thn (po_none.run pins s1 σ H1 (fun o H2 => o = none ∧ H2 = H1) I1 ⟨rfl, rfl⟩) fun vl s2 ⟨l, H2, I2, pl, el, e2⟩ => ?_)
  subst el e2
  refine thn (po_none.run pins s2 σ H2 (fun o H3 => o = none ∧ H3 = H2) I2 ⟨rfl, rfl⟩) fun vu s3 ⟨u, H3, I3, pu, eu, e3⟩ => ?_
  subst eu e3
  refine thn (hst.run pins s3 σ H3 (fun o H4 => o = some (-1) ∧ H4 = H3) I3 ⟨1, rfl, -1, rfl, rfl, rfl⟩) fun vs s4 ⟨o, H4, I4, ps, eo, e4⟩ => ?_
  subst eo e4
  have I5 : Inv X pins σ H4 { s4 with heap := s4.heap.push { cls := .type "slice", data := .fields #[vl, vu, vs] } } := I4.kept (t' := s4.toks) fun b ob q => Heap.get?_push_of_some _ q
  rcases q1 with ⟨a, xs, ex, hx, q⟩ | ⟨a, xs, ex, hx, q⟩ | ⟨z, ex, hz, q⟩
  · subst ex
    cases r1
    obtain ⟨its, r, ht, hz⟩ := I5.list hx
    have hlen := r.length
    show wpAny (model X.prog X.w) X.A (subscriptTail e (.Slice none none (some (.UnaryOp .USub (.Constant (.int 1) k p1) p2)) p3) (.ref a) (.ref s4.heap.objs.size)) (EP X pins σ Q) X.xe { s4 with heap := s4.heap.push { cls := .type "slice", data := .fields #[vl, vu, vs] } }
    refine tail_any (ops := [.ref a, .ref s4.heap.objs.size]) ht.isList.typeIs (PySem.slot_list_getitem.lookup) ?_ (by with_unfolding_all rfl)
    refine wpAny_getItem_list_slice ht.isList (Heap.IsSliceOf.new _ vl vu vs) pl pu ps (by decide) ?_ (by rw [List.size_toArray]; omega)
    rw [PySem.W.krv_pick]
    refine ⟨.ref _, _, I5.laid (t' := s4.toks) (o := .lst xs.reverse) (fun b ob q => Heap.get?_push_of_some _ q) (Nat.le_refl _) ?_, rfl, q _ (I5.hok.fresh (Nat.le_refl _))⟩
    exact ⟨by rw [List.length_reverse]; exact hz, _, 0, r.reverse, Heap.get?_push_size _ rfl⟩
  · subst ex
    cases r1
    obtain ⟨its, r, ht, hz⟩ := I5.tuple hx
    have hlen := r.length
    cases pl
    cases pu
    cases ps
    show wpAny (model X.prog X.w) X.A (subscriptTail e (.Slice none none (some (.UnaryOp .USub (.Constant (.int 1) k p1) p2)) p3) (.ref a) (.ref s4.heap.objs.size)) (EP X pins σ Q) X.xe { s4 with heap := s4.heap.push { cls := .type "slice", data := .fields _ } }
    refine tail_any (ops := [.ref a, .ref s4.heap.objs.size]) ht.typeIs (PyProof.Rows.slot_tuple_getitem.lookup) ?_ (by with_unfolding_all rfl)
    refine HT.getItem_tuple_rev ht (Heap.IsSliceOf.new _ _ _ _) ?_ (by rw [List.size_toArray]; omega)
    refine ⟨.ref _, _, I5.laid (t' := s4.toks) (o := .tup xs.reverse) (fun b ob q => Heap.get?_push_of_some _ q) (Nat.le_refl _) ?_, rfl, q _ (I5.hok.fresh (Nat.le_refl _))⟩
    exact ⟨by rw [List.length_reverse]; exact hz, _, r.reverse, IsTup.new _ _⟩
  · subst ex
    obtain ⟨t, rfl⟩ := r1
    obtain ⟨l, rfl, e1⟩ := IsPart.raw pl
    obtain ⟨u, rfl, e2⟩ := IsPart.raw pu
    obtain ⟨st, rfl, e3⟩ := IsPart.raw ps
    cases l with
    | some _ => cases e1
    | none =>
    cases u with
    | some _ => cases e2
    | none =>
    cases st with
    | none => cases e3
    | some st =>
    obtain ⟨i, tk⟩ := st
    cases e3
    show wpAny (model X.prog X.w) X.A (subscriptTail e (.Slice none none (some (.UnaryOp .USub (.Constant (.int 1) k p1) p2)) p3) (.str z t) (.ref s4.heap.objs.size)) (EP X pins σ Q) X.xe { s4 with heap := s4.heap.push { cls := .type "slice", data := .fields _ } }
    refine tail_any (ops := [.str z t, .ref s4.heap.objs.size]) (typeIs_str _ _ _) (F.slot_str_getitem.lookup) ?_ (by with_unfolding_all rfl)
    refine wpAny_getItem_str_slice (l := none) (u := none) (st := some (-1, tk)) ⟨_, Heap.get?_push_size _ rfl, rfl, rfl⟩ (show ((-1 : Int) == 0) = false by decide) ?_
    rw [rev_made]
    refine ⟨?_, .str (revS z), H4, I5.tok _, ⟨_, rfl⟩, q⟩
    show (z.cps.toList.reverse.toArray).size ≤ sizeLine
    rw [List.size_toArray, List.length_reverse, Array.length_toList]
    exact hz
end
end L2

namespace Mv
open PySem PySem.Spec PyProof.Rows L2
/-! ### slices, of a tuple also the whole -/
def gSlA : D → Option Int → Option Int → Option D := fun d lo hi => match d with
  | .lst _ xs => if D.frzL xs = true then some (.lst true (cutD xs lo hi)) else none
  | .str z => if z.length ≤ 16777216 then some (.str (cutS z lo hi)) else none
  | .tup xs => if D.frzL xs = true then some (.tup (cutD xs lo hi)) else none
  | _ => none
def rSlW (K : PySem.W.Frag) : V → Option Int → Option Int → Hp → VK → Prop := fun x lo hi H Q => (rSlL K x lo hi H Q ∨ rSlS x lo hi H Q) ∨ rSlA K x lo hi H Q
theorem sl_anyW {X : Cx} : SlR X (rSlW X.K) := SlR.or (SlR.or sl_list sl_str) sl_tupA
theorem cutD_whole {xs : List D} {lo hi : Option Int} (h : HT.sIx xs.length 0 lo = 0 ∧ HT.sIx xs.length xs.length hi = xs.length) : cutD xs lo hi = xs := by
  unfold cutD
  rw [h.1, h.2, List.drop_zero, Nat.sub_zero, List.take_length]
theorem o3_slA {K : Frg} {x : V} {H : Hp} {dx : D} {lo hi : Option Int} {l : List Itm} {Q : VK} {d : D} (hi' : Items K [] H l) (m : (some x, dx) ∈ l) (hg : gSlA dx lo hi = some d)
    (q : ∀ v H', Items K [] H' ((some v, d) :: l) → Q v H') : rSlW K x lo hi H Q := by
  unfold gSlA at hg
  split at hg
  · split at hg
    · rename_i c
      cases hg
      obtain ⟨a, us, rfl, hs, hl, i1⟩ := hi'.listAll m c
      exact .inl (.inl ⟨a, us, rfl, SqL.of hs, fun p np => q _ _ (Items.new np (cutV_len hl) (Items.cut hl i1) (fun b hb => by cases hb))⟩)
    · cases hg
  · split at hg
    · rename_i c
      cases hg
      rename_i z
      exact .inl (.inr ⟨z, hi'.view m, by rw [sizeLine_eq]; exact c, q _ H (hi'.add rfl fun _ _ => rfl)⟩)
    · cases hg
  · split at hg
    · rename_i c
      cases hg
      obtain ⟨a, us, rfl, hs, hl, i1⟩ := hi'.tupleAll m c
      refine .inr ⟨a, us, rfl, hs, fun hw => ?_, fun hw p np => q _ _ (Items.newT np (cutV_len hl) (Items.cut hl i1))⟩
      rw [hl] at hw
      rw [cutD_whole hw] at q
      exact q _ H (hi'.dup m c)
    · cases hg
  · cases hg
section
variable {X : Cx}
def eSlA (fe : Ev → Option (Hd × Ev)) (fl fh : Ev → Option (Option Int × Ev)) : Ev → Option (D × Ev) := fun ρ => (fe ρ).bind fun p => (fl p.2).bind fun q => (fh q.2).bind fun r => (gSlA (p.1.get r.2) q.1 r.1).map fun d => (d, r.2)
theorem de_slA {e : Expr} {lo hi : Option Expr} {p2 pos : Pos} {fe : Ev → Option (Hd × Ev)} {fl fh : Ev → Option (Option Int × Ev)} (he : DH X e fe) (hlo : DP X lo fl) (hhi : DP X hi fh) : DE X (.Subscript e (.Slice lo hi none p2) pos) (eSlA fe fl fh) := by
  obtain ⟨te, pe, ke⟩ := he.ex
  obtain ⟨tl, pl, kl⟩ := hlo.ex
  obtain ⟨th, ph, kh⟩ := hhi.ex
  refine ⟨_, pe_slice sl_anyW pe pl ph, fun σ H ρ l Q d ρ' hl hi hf q => ?_⟩
  obtain ⟨⟨hd, ρ1⟩, e1, hf⟩ := Option.bind_eq_some_iff.mp hf
  obtain ⟨⟨lo, ρ2⟩, e2, hf⟩ := Option.bind_eq_some_iff.mp hf
  obtain ⟨⟨hi2, ρ3⟩, e3, hf⟩ := Option.bind_eq_some_iff.mp hf
  obtain ⟨d', e4, hf⟩ := Option.map_eq_some_iff.mp hf
  cases hf
  refine ke σ H ρ l _ hd ρ1 hl hi e1 fun v H1 l1 a1 i1 => ?_
  have i1' : Items X.K [] H1 (σ.zip ρ1 ++ (hd.its v ++ l)) := i1.perm (by
    rw [← List.append_assoc, ← List.append_assoc]
    exact List.Perm.append_right l List.perm_append_comm)
  refine kl σ H1 ρ1 _ _ lo ρ2 (by omega) i1' e2 fun H2 l2 i2 => ?_
  refine kh σ H2 ρ2 _ _ hi2 ρ3 (by omega) i2 e3 fun H3 l3 i3 => ?_
  have i3' : Items X.K [] H3 (hd.its v ++ (σ.zip ρ3 ++ l)) := i3.perm (by
    rw [← List.append_assoc, ← List.append_assoc]
    exact List.Perm.append_right l List.perm_append_comm)
  have m := mem_hd (X := X) (hl := by omega) a1 i3'
  refine o3_slA i3' m e4 fun w H4 i4 => ?_
  exact q w H4 (by show ρ3.length = ρ.length; omega) (i4.sub ⟨hd.its v, by
    exact List.perm_middle.symm⟩)
/-! ### x[::-1] -/
def gRevD : D → Option D := fun d => match d with
  | .lst _ xs => if D.frzL xs = true then some (.lst true xs.reverse) else none
  | .tup xs => if D.frzL xs = true then some (.tup xs.reverse) else none
  | .str z => if z.length ≤ 16777216 then some (.str (revS z)) else none
  | _ => none
def eRvD (fe : Ev → Option (Hd × Ev)) : Ev → Option (D × Ev) := e1 gRevD fe
theorem de_rvD {e : Expr} {k : Nat} {p1 p2 p3 pos : Pos} {fe : Ev → Option (Hd × Ev)} (he : DH X e fe) : DE X (.Subscript e (.Slice none none (some (.UnaryOp .USub (.Constant (.int 1) k p1) p2)) p3) pos) (e1 gRevD fe) := by
  obtain ⟨te, pe, ke⟩ := he.ex
  refine ⟨_, pe_revA pe, fun σ H ρ l Q d ρ' hl hi hf q => ?_⟩
  obtain ⟨⟨hd, ρ1⟩, e1, hf⟩ := Option.bind_eq_some_iff.mp hf
  obtain ⟨b, e2, hf⟩ := Option.map_eq_some_iff.mp hf
  obtain ⟨eb, eρ⟩ : b = d ∧ ρ1 = ρ' := by cases hf; exact ⟨rfl, rfl⟩
  subst eb eρ
  refine ke σ H ρ l _ hd ρ1 hl hi e1 fun v H' hl' ha hi' => ?_
  have m := mem_hd (X := X) (hl := by omega) ha hi'
  replace e2 : gRevD (hd.get ρ1) = some b := e2
  have fin : ∀ v' H'', Items X.K [] H'' ((some v', b) :: (hd.its v ++ (σ.zip ρ1 ++ l))) → Q v' H'' := fun v' H'' i => q v' H'' hl' (i.sub ⟨hd.its v, List.perm_middle.symm⟩)
  unfold gRevD at e2
  split at e2
  · rename_i o xs e
    rw [e] at m
    split at e2
    · rename_i c
      cases e2
      obtain ⟨a, us, rfl, hs, hl2, i1⟩ := hi'.listAll m c
      exact .inl ⟨a, us, rfl, SqL.of hs, fun p np => fin _ _ (Items.new np (by rw [List.length_reverse, List.length_reverse, hl2]) (i1.perm (List.Perm.append_right _ (by rw [prs_rev hl2]; exact (List.reverse_perm _).symm))) (fun b hb => by cases hb))⟩
    · cases e2
  · rename_i xs e
    rw [e] at m
    split at e2
    · rename_i c
      cases e2
      obtain ⟨a, us, rfl, hs, hl2, i1⟩ := hi'.tupleAll m c
      exact .inr (.inl ⟨a, us, rfl, hs, fun p np => fin _ _ (Items.newT np (by rw [List.length_reverse, List.length_reverse, hl2]) (i1.perm (List.Perm.append_right _ (by rw [prs_rev hl2]; exact (List.reverse_perm _).symm))))⟩)
    · cases e2
  · rename_i z e
    rw [e] at m
    split at e2
    · rename_i c
      cases e2
      exact .inr (.inr ⟨z, hi'.view m, by rw [sizeLine_eq]; exact c, fin _ H' (hi'.add rfl fun _ _ => rfl)⟩)
    · cases e2
  · cases e2
end
/-! ### text * int, list * int -/
def repS (z : Str) (k : Int) : Str := ⟨(List.replicate k.toNat z.cps.toList).flatten.toArray⟩
theorem repS_len (z : Str) (k : Int) : (repS z k).length = z.length * k.toNat := by
  show (List.replicate k.toNat z.cps.toList).flatten.toArray.size = _
  rw [List.size_toArray]
  simp [Str.length, Nat.mul_comm]
theorem foldl_repN (l : List Nat) : ∀ (k : Nat) (acc : List Nat), List.foldl (fun x1 x2 => x1 ++ x2) acc.toArray (List.replicate k l.toArray) = (acc ++ (List.replicate k l).flatten).toArray
  | 0, acc => by simp
  | k + 1, acc => by
    have e : acc.toArray ++ l.toArray = (acc ++ l).toArray := by simp
    have e2 : (acc ++ l) ++ (List.replicate k l).flatten = acc ++ (List.replicate (k + 1) l).flatten := by
      rw [List.replicate_succ, List.flatten_cons, List.append_assoc]
    rw [← e2, ← foldl_repN l k (acc ++ l), ← e, List.replicate_succ, List.foldl_cons]
def rStrMul : R2 := fun x y H Q => ∃ (z : Str) (k : Int), x = .str z ∧ y = .int k ∧ 0 ≤ k ∧ k < 2 ^ 62 ∧ z.length * k.toNat ≤ sizeLine ∧ Q (.str (repS z k)) H
theorem op_strMul {X : Cx} : OpR X (binaryOp .Mult) rStrMul := by
  intro pins s σ H x y v u Q I rx ry h
  obtain ⟨z, k, rfl, rfl, h0, h1, hz, q⟩ := h
  obtain ⟨t, rfl⟩ := rx
  obtain ⟨t', rfl⟩ := ry
  rw [sizeLine_eq] at hz
  refine PySem.P.mul_str (by rw [decide_eq_false (by omega), decide_eq_false (by omega)]; rfl) (fun h2 _ => ?_) (fun h2 _ => ?_) ?_
  · intro hc
    have hk : 0 < k := by omega
    have := (Int.ediv_lt_iff_lt_mul hk).mp hc
    have e : (z.length : Int) * k = ((z.length * k.toNat : Nat) : Int) := by rw [Int.natCast_mul, Int.toNat_of_nonneg h0]
    rw [e] at this
    omega
  · unfold Builtin.Str.tooLong
    rw [sizeLine_eq]
    exact decide_eq_false (by omega)
  · by_cases hk : k < 1
    · rw [if_pos hk]
      have : k = 0 := by omega
      subst this
      exact ⟨by decide, .str (repS z 0), H, I.tok _, ⟨_, rfl⟩, q⟩
    · rw [if_neg hk]
      by_cases hb : (k == 1 || z.length == 0) = true
      · rw [if_pos hb]
        have e : repS z k = z := by
          unfold repS
          rcases Bool.or_eq_true_iff.mp hb with e | e
          · have : k = 1 := by simpa using e
            subst this
            show (⟨([z.cps.toList].flatten).toArray⟩ : Str) = z
            simp
          · have e2 : z.length = 0 := by simpa using e
            have e3 : z.cps.toList = [] := List.eq_nil_of_length_eq_zero (by rw [Array.length_toList]; exact e2)
            rw [e3]
            have e4 : z = ⟨#[]⟩ := by
              cases z with
              | mk c =>
                have : c = #[] := by
                  apply Array.ext'
                  simpa using e3
                rw [this]
            rw [e4]
            simp
        exact ⟨.str (repS z k), H, I, ⟨t, by rw [e]⟩, q⟩
      · rw [if_neg hb]
        have e : (⟨(List.replicate k.toNat z.cps).foldl (· ++ ·) #[]⟩ : Str) = repS z k := by
          have := foldl_repN z.cps.toList k.toNat []
          rw [List.nil_append, Array.toArray_toList] at this
          unfold repS
          rw [← this]
        rw [e]
        exact ⟨by rw [repS_len, sizeLine_eq]; exact hz, .str (repS z k), H, I.tok _, ⟨_, rfl⟩, q⟩
def gMulS : D → D → Option D := fun a b => match a, b with
  | .int i, .int j => if MulOk i j then some (.int (i * j)) else none
  | .str z, .int k => if 0 ≤ k ∧ k < 2 ^ 62 ∧ z.length * k.toNat ≤ 16777216 then some (.str (repS z k)) else none
  | .lst _ xs, .int k => if D.frzL xs = true ∧ 0 ≤ k ∧ k < 2 ^ 62 ∧ xs.length * k.toNat ≤ 16777216 then some (.lst true (List.replicate k.toNat xs).flatten) else none
  | _, _ => none
def rMulS : R2 := rOr rMul (rOr rStrMul rRep)
theorem op_mulSA {X : Cx} : OpR X (binaryOp .Mult) rMulS := OpR.or op_mulA (OpR.or op_strMul op_rep)
theorem frz_all {xs : List D} (h : D.frzL xs = true) : ∀ d ∈ xs, d.frz = true := by
  rw [D.frzL_all] at h
  exact List.all_eq_true.mp h
theorem Items.again {K : Frg} {H : Hp} : ∀ {us : List V} {xs : List D} {l : List Itm}, us.length = xs.length → D.frzL xs = true → (∀ i ∈ prs us xs, i ∈ l) → Items K [] H l → Items K [] H (prs us xs ++ l)
  | [], [], _, _, _, _, h => h
  | u :: us, d :: xs, l, hl, hz, hm, h => by
    have h1 : Items K [] H (prs us xs ++ l) := Items.again (by simpa using hl) (by rw [D.frzL] at hz; exact (Bool.and_eq_true_iff.mp hz).2) (fun i hi => hm i (List.mem_cons_of_mem _ hi)) h
    exact h1.dup (v := u) (d := d) (List.mem_append_right _ (hm (some u, d) (List.mem_cons_self ..))) (frz_all hz d (by simp))
theorem Items.reps0 {K : Frg} {H : Hp} {us : List V} {xs : List D} {l : List Itm} (hl : us.length = xs.length) (hz : D.frzL xs = true) (hm : ∀ i ∈ prs us xs, i ∈ l) (h : Items K [] H l) : ∀ k : Nat, Items K [] H (prs (List.replicate k us).flatten (List.replicate k xs).flatten ++ l)
  | 0 => h
  | k + 1 => by
    rw [List.replicate_succ, List.replicate_succ, List.flatten_cons, List.flatten_cons, prs_app hl, List.append_assoc]
    exact Items.again hl hz (fun i hi => List.mem_append_right _ (hm i hi)) (Items.reps0 hl hz hm h k)
theorem Items.reps {K : Frg} {H : Hp} {us : List V} {xs : List D} {l : List Itm} (hl : us.length = xs.length) (hz : D.frzL xs = true) (h : Items K [] H (prs us xs ++ l)) (k : Nat) : Items K [] H (prs (List.replicate k us).flatten (List.replicate k xs).flatten ++ l) := by
  have h1 := Items.reps0 hl hz (fun i hi => List.mem_append_left _ hi) h k
  refine h1.sub ⟨prs us xs, ?_⟩
  rw [← List.append_assoc, ← List.append_assoc]
  exact List.Perm.append_right l List.perm_append_comm
theorem o2_mulS {K : Frg} : Op2 K rMulS gMulS := by
  intro x y H dx dy l Q d hi mx my hg q
  unfold gMulS at hg
  split at hg
  · rename_i i j
    exact .inl (o2_mul x y H _ _ l Q d hi mx my hg q)
  · rename_i z k
    split at hg
    · rename_i c
      cases hg
      exact .inr (.inl ⟨z, k, hi.view mx, hi.view my, c.1, c.2.1, by rw [sizeLine_eq]; exact c.2.2, q _ H (hi.add rfl fun _ _ => rfl)⟩)
    · cases hg
  · rename_i o xs k
    split at hg
    · rename_i c
      cases hg
      obtain ⟨a, us, rfl, ha, la, i1⟩ := hi.listAll mx c.1
      refine .inr (.inr ⟨a, k, us, rfl, hi.view my, ha, by omega, by omega, by rw [sizeLine_eq, la]; exact c.2.2.2, fun p np => q _ _ (Items.new np ?_ (Items.reps la c.1 i1 k.toNat) (fun b hb => by cases hb))⟩)
      simp [la]
    · cases hg
  · cases hg
end Mv
end
section
set_option Elab.async false
set_option linter.all false
set_option maxRecDepth 100000
set_option maxHeartbeats 4000000
/-! A sign in a text, str.index, list(range(..)). -/
namespace Mv
open PySem PySem.Spec PyProof.Rows L2
/-! ### a sign in a text -/
def gInS (neg : Bool) : D → D → Option D := fun a b => match b with
  | .str z => match a with
    | .str ⟨⟨[c]⟩⟩ => some (.bl (if neg = true then !decide (c ∈ z.cps.toList) else decide (c ∈ z.cps.toList)))
    | _ => none
  | b => gIn neg a b
def rInS (K : Frg) : R2 := rOr (rInD K) (fun x y H Q => ∃ (c : Nat) (z : Str), x = .str ⟨#[c]⟩ ∧ y = .str z ∧ Q (.bl (decide (c ∈ z.cps.toList))) H)
def rNotInS (K : Frg) : R2 := rOr (rNotInD K) (fun x y H Q => ∃ (c : Nat) (z : Str), x = .str ⟨#[c]⟩ ∧ y = .str z ∧ Q (.bl (!decide (c ∈ z.cps.toList))) H)
theorem op_inSA {X : Cx} (hu : X.A.units + 65 < cLine) : OpR X (compareOp .In) (rInS X.K) := OpR.or (op_inD hu) op_in_sign
theorem op_notInSA {X : Cx} (hu : X.A.units + 65 < cLine) : OpR X (compareOp .NotIn) (rNotInS X.K) := OpR.or (op_notInD hu) op_notIn_sign
theorem o2_inS {K : Frg} : Op2 K (rInS K) (gInS false) := by
  intro x y H dx dy l Q d hi mx my hg q
  unfold gInS at hg
  split at hg
  · rename_i z
    split at hg
    · rename_i c
      cases hg
      exact .inr ⟨c, z, hi.view mx, hi.view my, q _ H (hi.add rfl fun _ _ => rfl)⟩
    · cases hg
  · exact .inl (o2_in x y H _ _ l Q d hi mx my hg q)
theorem o2_notInS {K : Frg} : Op2 K (rNotInS K) (gInS true) := by
  intro x y H dx dy l Q d hi mx my hg q
  unfold gInS at hg
  split at hg
  · rename_i z
    split at hg
    · rename_i c
      cases hg
      exact .inr ⟨c, z, hi.view mx, hi.view my, q _ H (hi.add rfl fun _ _ => rfl)⟩
    · cases hg
  · exact .inl (o2_notIn x y H _ _ l Q d hi mx my hg q)
theorem gInS_s {c : Nat} {l : List Nat} : gInS false (.str (mkS [c])) (.str (mkS l)) = some (.bl (decide (c ∈ l))) := rfl
theorem gInS_sT {c : Nat} {l : List Nat} : gInS true (.str (mkS [c])) (.str (mkS l)) = some (.bl (!decide (c ∈ l))) := rfl
theorem gInS_l {neg : Bool} {a : D} {o : Bool} {xs : List D} : gInS neg a (.lst o xs) = gIn neg a (.lst o xs) := rfl
/-! ### str.index, list.index -/
def gIndexS : List D → Option D := fun ds => match ds with
  | [.str a, .str b] => (Txt.index0 a b).map fun k => .int (k : Nat)
  | _ => none
theorem mt_indexS {X : Cx} : MtR X "str.index" (fun x xs H Q => ∃ a b k, x = .str a ∧ xs = [.str b] ∧ Txt.index0 a b = some k ∧ Q (.int (k : Nat)) H) := by
  intro pins s σ H x xs v us Q I rx rs h
  obtain ⟨a, b, k, rfl, rfl, e, q⟩ := h
  obtain ⟨t, rfl⟩ := rx
  cases rs with
  | cons r1 rs =>
    cases rs
    obtain ⟨u, rfl⟩ := r1
    unfold Txt.index0 at e
    cases e2 : Builtin.Str.occurrences a b 0 a.length 1 with
    | nil => rw [e2] at e; cases e
    | cons k' rest =>
      rw [e2] at e
      have : k' = k := by simpa using e
      subst this
      exact call_gives PySem.F.slot_str_index (typeIs_str _ _ _) PySem.F.entry_str_index (PySem.F.args_str_index_2 _ _) (gives_str_index a b t u k' rest e2) ⟨.int (k' : Nat), H, I.tok _, ⟨_, rfl⟩, q⟩
theorem on_indexS {K : Frg} : OpN K (fun xs H Q => ∃ x r', xs = x :: r' ∧ ∃ a b k, x = V.str a ∧ r' = [V.str b] ∧ Txt.index0 a b = some k ∧ Q (.int (k : Nat)) H) gIndexS := by
  intro xs H ds l Q d hi hm hg q
  unfold gIndexS at hg
  split at hg
  · obtain ⟨x, y, rfl, m1, m2⟩ := two_of (K := K) hm
    obtain ⟨k, e, hg⟩ := Option.map_eq_some_iff.mp hg
    subst hg
    exact ⟨x, _, rfl, _, _, k, hi.view m1, by rw [show y = _ from hi.view m2], e, q _ H (hi.add rfl fun _ _ => rfl)⟩
  · cases hg
/-! ### list(range(..)) -/
section
variable {X : Cx}
theorem cr_range1 : CallR X (.type "range") (fun vs H Q => ∃ j, vs = [V.int j] ∧ ∀ p, H p = none → Q (.ref p) (upd H p (.rng 0 j))) := by
  intro pins s σ H vs us Q I r h
  obtain ⟨j, rfl, q⟩ := h
  obtain ⟨u1, rfl, rj⟩ := vals1 r
  obtain ⟨u, rfl⟩ := rj
  refine call_range_1 ⟨.ref s.heap.objs.size, upd H s.heap.objs.size (.rng 0 j), I.laid (t' := _) (fun b o e => Heap.get?_push_of_some _ e) (Nat.le_refl _) ?_, rfl, q _ (I.hok.fresh (Nat.le_refl _))⟩
  exact ⟨_, _, _, Heap.get?_push_size _ rfl⟩
def gRange1 : List D → Option D := fun ds => match ds with
  | [.int j] => some (.rng 0 j)
  | _ => none
theorem on_range1 {K : Frg} : OpN K (fun vs H Q => ∃ j, vs = [V.int j] ∧ ∀ p, H p = none → Q (.ref p) (upd H p (.rng 0 j))) gRange1 := by
  intro xs H ds l Q d hi hm hg q
  unfold gRange1 at hg
  split at hg
  · rename_i j
    cases hg
    obtain ⟨x, rfl, m⟩ := one_of (K := K) hm
    exact ⟨j, by rw [show x = _ from hi.view m], fun p np => q _ _ (hi.newR np)⟩
  · cases hg
def RgB (a b : Int) : Prop := -(2 ^ 62) ≤ a ∧ a < 2 ^ 62 ∧ -(2 ^ 62) ≤ b ∧ b < 2 ^ 62 ∧ (b - a).toNat ≤ 2 ^ 24
instance (a b : Int) : Decidable (RgB a b) := by unfold RgB; infer_instance
theorem cr_listRg (hc : X.calm = true) : CallR X (.type "list") (fun vs H Q => ∃ p a b, vs = [V.ref p] ∧ H p = some (.rng a b) ∧ RgOk a b ∧ ∀ q, H q = none → Q (.ref q) (upd H q (.lst (rgV a b)))) := by
  intro pins s σ H vs us Q I r h
  obtain ⟨p, a, b, rfl, hp, ok, q⟩ := h
  obtain ⟨u1, rfl, rx⟩ := vals1 r
  cases rx
  obtain ⟨t, u, v, e⟩ := I.hok p _ hp
  obtain ⟨b1, b2, b3, b4, b5⟩ := ok
  refine call_list_range (n := (b - a).toNat) (I.ok.hd hc) (t := t) (u := u) (v := v) e (small_one b1 b2 b3 b4) (rangeSize_nat a b) b5 fun h' tk acc c' hk e' hi => ?_
  refine ⟨.ref s.heap.objs.size, upd H s.heap.objs.size (.lst (rgV a b)), I.laid hk (Nat.le_refl _) (show ObjOk X.prog X.w _ _ _ (.lst (rgV a b)) from ⟨?_, acc.toList, c', vals_rg hi, ?_⟩), rfl, q _ (I.hok.fresh (Nat.le_refl _))⟩
  · rw [rgV_length, sizeLine_eq]; omega
  · rw [Array.toArray_toList]; exact e'
def rListR (K : Frg) : List V → Hp → VK → Prop := fun xs H Q => (∃ p ys, xs = [.ref p] ∧ (SqL K H p ys ∨ SqT K H p ys) ∧ ∀ l, H l = none → Q (.ref l) (upd H l (.lst ys))) ∨
  (∃ p a b, xs = [V.ref p] ∧ H p = some (.rng a b) ∧ RgOk a b ∧ ∀ q, H q = none → Q (.ref q) (upd H q (.lst (rgV a b))))
theorem cr_listR (hc : X.calm = true) : CallR X (.type "list") (rListR X.K) := CallR.or call_list_of (cr_listRg hc)
def gListR : List D → Option D := fun ds => match ds with
  | [.rng a b] => if RgB a b then some (.lst true ((ilist a (b - a).toNat).map D.int)) else none
  | ds => gList ds
theorem prs_ints {H : Hp} {K : Frg} {l : List Itm} (h : Items K [] H l) : ∀ (ns : List Int), Items K [] H (prs (ns.map V.int) (ns.map D.int) ++ l)
  | [] => h
  | n :: ns => (prs_ints h ns).add (v := .int n) (d := .int n) rfl fun _ _ => rfl
theorem rgV_ilist (a b : Int) : rgV a b = (ilist a (b - a).toNat).map V.int := by
  unfold rgV ilist
  rw [List.map_map]
  rfl
theorem on_listR {K : Frg} : OpN K (rListR K) gListR := by
  intro xs H ds l Q d hi hm hg q
  unfold gListR at hg
  split at hg
  · rename_i a b
    split at hg
    · rename_i c
      cases hg
      obtain ⟨x, rfl, m⟩ := one_of (K := K) hm
      obtain ⟨p, rfl, hp⟩ := hi.range m
      refine .inr ⟨p, a, b, rfl, hp, c, fun z nz => ?_⟩
      rw [rgV_ilist]
      exact q _ _ (Items.new nz (by rw [List.length_map, List.length_map]) (prs_ints hi _) (fun b hb => by cases hb))
    · cases hg
  · exact .inl (on_list xs H _ l Q d hi hm hg q)
end
theorem vv_listR1 {j : Int} : gListR [.rng 0 j] = if RgB 0 j then some (.lst true ((ilist 0 (j - 0).toNat).map D.int)) else none := rfl
theorem vv_listR {a b : Int} : gListR [.rng a b] = if RgB a b then some (.lst true ((ilist a (b - a).toNat).map D.int)) else none := rfl
theorem vv_listRL {o : Bool} {xs : List D} : gListR [.lst o xs] = if D.frzL xs = true then some (.lst true xs) else none := rfl
theorem vv_listRT {xs : List D} : gListR [.tup xs] = if D.frzL xs = true then some (.lst true xs) else none := rfl
theorem vv_range1 {j : Int} : gRange1 [.int j] = some (.rng 0 j) := rfl
/-! reckoning -/
section
variable {i j : Int} {z x y : Str} {xs : List D} {o : Bool} {lo hi : Option Int}
theorem vv_mulS : gMulS (.int i) (.int j) = if MulOk i j then some (.int (i * j)) else none := rfl
theorem vv_mulSS : gMulS (.str z) (.int j) = if 0 ≤ j ∧ j < 2 ^ 62 ∧ z.length * j.toNat ≤ 16777216 then some (.str (repS z j)) else none := rfl
theorem vv_mulSL : gMulS (.lst o xs) (.int j) = if D.frzL xs = true ∧ 0 ≤ j ∧ j < 2 ^ 62 ∧ xs.length * j.toNat ≤ 16777216 then some (.lst true (List.replicate j.toNat xs).flatten) else none := rfl
theorem vv_slAL : gSlA (.lst o xs) lo hi = if D.frzL xs = true then some (.lst true (cutD xs lo hi)) else none := rfl
theorem vv_slAT : gSlA (.tup xs) lo hi = if D.frzL xs = true then some (.tup (cutD xs lo hi)) else none := rfl
theorem vv_slAS : gSlA (.str z) lo hi = if z.length ≤ 16777216 then some (.str (cutS z lo hi)) else none := rfl
theorem vv_revL : gRevD (.lst o xs) = if D.frzL xs = true then some (.lst true xs.reverse) else none := rfl
theorem vv_revT : gRevD (.tup xs) = if D.frzL xs = true then some (.tup xs.reverse) else none := rfl
theorem vv_revS : gRevD (.str z) = if z.length ≤ 16777216 then some (.str (revS z)) else none := rfl
theorem vv_indexS : gIndexS [.str x, .str y] = (Txt.index0 x y).map fun k => .int (k : Nat) := rfl
theorem revS_mkS (l : List Nat) : revS (mkS l) = mkS l.reverse := rfl
theorem repS_mkS (l : List Nat) (k : Int) : repS (mkS l) k = mkS (List.replicate k.toNat l).flatten := rfl
theorem W_eSlA {fe : Ev → Option (Hd × Ev)} {fl fh : Ev → Option (Option Int × Ev)} {x0 : D} {ρ : Ev} {Q : D × Ev → Prop} : W (eSlA fe fl fh (x0 :: ρ)) Q = W (fe (x0 :: ρ)) fun p => W (fl p.2) fun q => W (fh q.2) fun r => W (gSlA (p.1.get r.2) q.1 r.1) fun d => Q (d, r.2) := by
  unfold eSlA
  rw [W_bind]
  congr 1
  funext p
  rw [W_bind]
  congr 1
  funext q
  rw [W_bind]
  congr 1
  funext r
  rw [W_map]
end
end Mv
end
section
set_option Elab.async false
set_option linter.all false
set_option maxRecDepth 100000
set_option maxHeartbeats 4000000
/-! Tiles: tuples of texts of one length, as functions of row and column. -/
namespace Mv
open PySem PySem.Spec PyProof.Rows L2 Mv.PreA
/-- signs -/
abbrev Sg := Fin 128
def mkF (l : List Sg) : Str := mkS (l.map Fin.val)
abbrev sD (l : List Sg) : D := .str (mkF l)
theorem mkF_len (l : List Sg) : (mkF l).length = l.length := by unfold mkF; rw [mkS_len, List.length_map]
theorem mkF_app (a b : List Sg) : mkF a ++ mkF b = mkF (a ++ b) := by unfold mkF; rw [mkS_app, List.map_append]
theorem mkF_inj {a b : List Sg} : mkF a = mkF b ↔ a = b := by
  unfold mkF
  rw [mkS_inj]
  exact List.map_inj_right fun x y h => Fin.ext h
theorem ok_sD {n : Nat} (l : List Sg) : D.ok n (sD l) := ⟨rfl, by
  show (PyData.str (mkF l)).canLay0 = true
  rw [PyData.canLay0]
  show (mkF l).cps.all _ = true
  rw [Array.all_eq_true_iff_forall_mem]
  intro c hc
  have : c ∈ l.map Fin.val := by simpa [mkF] using hc
  obtain ⟨x, _, rfl⟩ := List.mem_map.mp this
  have := x.isLt
  simp only [decide_eq_true_eq]
  omega, by show (PyData.str (mkF l)).depth ≤ n; simp [PyData.depth]⟩
theorem emb_sD : Emb sD := ⟨fun l => ok_sD l, fun x y => by
  show PyData.eqv (PyData.str (mkF x)) (PyData.str (mkF y)) = _
  rw [PyData.eqv]
  show decide (mkF x = mkF y) = _
  exact decide_eq_decide.mpr mkF_inj⟩
theorem gIdx_mkF {l : List Sg} {k : Nat} (h : k < l.length) (h2 : l.length ≤ 16777216) : gIdx (sD l) (.int (k : Int)) = some (sD [l[k]]) := by
  unfold sD mkF
  rw [gIdx_mkS (by rw [List.length_map]; exact h) (by rw [List.length_map]; exact h2)]
  simp
theorem revS_mkF (l : List Sg) : revS (mkF l) = mkF l.reverse := by unfold mkF; rw [revS_mkS, List.map_reverse]
theorem repS_mkF (l : List Sg) (k : Int) : repS (mkF l) k = mkF (List.replicate k.toNat l).flatten := by
  unfold mkF
  rw [repS_mkS, List.map_flatten, List.map_replicate]
theorem gIn_sg {c : Sg} {l : List Sg} : gInS false (sD [c]) (sD l) = some (.bl (decide (c ∈ l))) := by
  show some (D.bl (decide (c.val ∈ l.map Fin.val))) = _
  congr 2
  rw [decide_eq_decide, List.mem_map]
  exact ⟨fun ⟨x, hx, e⟩ => (Fin.ext e) ▸ hx, fun h => ⟨c, h, rfl⟩⟩
theorem itS_mkF {h : Hd} {ρ : Ev} {l : List Sg} (e : h.get ρ = sD l) (k : Nat) : itK isS h k ρ = some ((l.map fun c => sD [c])[k]?) := by
  rw [itS_mkS (l := l.map Fin.val) e k, List.map_map]
  rfl
theorem sm_mkF {n : Nat} {l : List Sg} (h2 : l.length ≤ 1000000) : Sm (n + 1) (sD l) (sD l) := sm_mkS (fun c hc => by
  obtain ⟨x, _, rfl⟩ := List.mem_map.mp hc
  have := x.isLt
  omega) (by rw [List.length_map]; exact h2)
/-- "".join -/
theorem joinL_nil : ∀ ps : List (List Nat), TL.joinL [] ps = ps.flatten
  | [] => rfl
  | [p] => by simp [TL.joinL]
  | p :: q :: r => by
    rw [TL.joinL, joinL_nil (q :: r)]
    simp
theorem join_mkF (ls : List (List Sg)) : Txt.join Str.empty (ls.map mkF) = mkF ls.flatten := by
  rw [TL.join_eq]
  have h := TL.tl_join Str.empty (ls.map mkF)
  rw [show TL.tl Str.empty = [] from rfl, joinL_nil, List.map_map] at h
  have e : (ls.map (TL.tl ∘ mkF)).flatten = ls.flatten.map Fin.val := by
    rw [List.map_flatten]
    rfl
  rw [e] at h
  exact congrArg mkS h
theorem join_one (l : List Sg) : Txt.join Str.empty (l.map fun c => mkF [c]) = mkF l := by
  have := join_mkF (l.map fun c => [c])
  rw [List.map_map] at this
  rw [show (l.map fun c => mkF [c]) = l.map (mkF ∘ fun c => [c]) from rfl, this]
  congr 1
  induction l with
  | nil => rfl
  | cons c l ih => rw [List.map_cons, List.flatten_cons, ih (by
      have := join_mkF (l.map fun c => [c])
      rw [List.map_map] at this
      exact this)]; rfl
theorem gJoin_one {o : Bool} (l : List Sg) (h : l.length ≤ 16777216) : gJoin [.str Str.empty, .lst o (l.map fun c => sD [c])] = some (sD l) := by
  rw [vv_joinL, show (l.map fun c => sD [c]) = (l.map fun c => mkF [c]).map D.str by rw [List.map_map]; rfl, strs_map, Option.bind_some, join_one]
  refine if_pos ?_
  rw [List.map_map, show (l.map ((·.length) ∘ fun c => mkF [c])) = l.map fun _ => 1 from List.map_congr_left fun c _ => mkF_len [c], List.length_map]
  show _ + l.length * 0 ≤ _
  have : (l.map fun _ => 1).sum = l.length := by
    induction l with
    | nil => rfl
    | cons c l ih => rw [List.map_cons, List.sum_cons, ih (by simp at h; omega), List.length_cons]; omega
  rw [this]
  omega
section
variable {α : Type} [DecidableEq α] {f : α → D} (E : Emb f)
include E
theorem emb_tupL (h : ∀ x, D.ok 59 (f x)) : Emb fun l : List α => D.tup (l.map f) := ⟨fun l => ok_tup fun d hd => by
    obtain ⟨x, _, rfl⟩ := List.mem_map.mp hd
    exact h x, fun l m => by
  show PyData.eqv (D.tup _).pd (D.tup _).pd = _
  rw [D.pd, D.pd, PyData.eqv, eqvAll_map E]⟩
theorem gEq_tupE (h : ∀ x, D.ok 59 (f x)) (xs ys : List α) : gEq (.tup (xs.map f)) (.tup (ys.map f)) = some (.bl (decide (xs = ys))) := by
  have ok : ∀ l : List α, D.ok 64 (.tup (l.map f)) := fun l => ok_mono ((emb_tupL E h).ok l) (by decide)
  rw [gEq_data rfl (ok xs) (ok ys)]
  rw [D.pd, D.pd, PyData.eqv, eqvAll_map E]
end
/-! ### slices of texts -/
theorem cutS_mkS (l : List Nat) (lo hi : Option Int) : cutS (mkS l) lo hi = mkS ((l.drop (HT.sIx l.length 0 lo)).take (HT.sIx l.length l.length hi - HT.sIx l.length 0 lo)) := rfl
theorem cutS_mkF (l : List Sg) (lo hi : Option Int) : cutS (mkF l) lo hi = mkF ((l.drop (HT.sIx l.length 0 lo)).take (HT.sIx l.length l.length hi - HT.sIx l.length 0 lo)) := by
  unfold mkF
  rw [cutS_mkS, List.length_map, List.map_take, List.map_drop]
theorem cutS_from {l : List Sg} {k : Nat} (h : k ≤ l.length) : cutS (mkF l) (some (k : Int)) none = mkF (l.drop k) := by
  rw [cutS_mkF, HT.sIx_nat, HT.sIx_none, Nat.min_eq_left h, List.take_of_length_le (by rw [List.length_drop]; omega)]
theorem cutS_to {l : List Sg} {k : Nat} (h : k ≤ l.length) : cutS (mkF l) none (some (k : Int)) = mkF (l.take k) := by
  rw [cutS_mkF, HT.sIx_nat, HT.sIx_none, Nat.min_eq_left h, List.drop_zero, Nat.sub_zero]
theorem cutS_mid {l : List Sg} {a b : Nat} (h : a ≤ b) (hb : b ≤ l.length) : cutS (mkF l) (some (a : Int)) (some (b : Int)) = mkF ((l.drop a).take (b - a)) := by
  rw [cutS_mkF, HT.sIx_nat, HT.sIx_nat, Nat.min_eq_left hb, Nat.min_eq_left (by omega)]
/-! ### rows -/
theorem ilist_get {lo : Int} {n k : Nat} (h : k < (ilist lo n).length) : (ilist lo n)[k] = lo + (k : Int) := by
  simp [ilist]
theorem ilist_map_inj {α : Type} {n : Nat} {f g : Int → α} : (ilist 0 n).map f = (ilist 0 n).map g ↔ ∀ x : Int, 0 ≤ x → x < n → f x = g x := by
  rw [List.map_inj_left]
  refine ⟨fun h x h0 h1 => h x (mem_ilist.mpr ⟨h0, by omega⟩), fun h x hx => ?_⟩
  obtain ⟨h0, h1⟩ := mem_ilist.mp hx
  exact h x h0 (by omega)
theorem ilist_rev {α : Type} {n : Nat} (f : Int → α) : ((ilist 0 n).map f).reverse = (ilist 0 n).map fun x => f (n - 1 - x) := by
  apply List.ext_getElem
  · simp [ilist_len]
  · intro i h1 h2
    rw [List.getElem_reverse, List.getElem_map, List.getElem_map, ilist_get, ilist_get]
    simp only [List.length_map, ilist_len, List.length_reverse] at *
    congr 1
    omega
theorem ilist_rot {α : Type} {n s : Nat} (f : Int → α) (hs : s < n) {r : Int} (hr : r % n = s) : ((ilist 0 n).map f).drop s ++ ((ilist 0 n).map f).take s = (ilist 0 n).map fun x => f ((x + r) % n) := by
  apply List.ext_getElem
  · simp [ilist_len]
    omega
  · intro i h1 h2
    have hi : i < n := by simpa [ilist_len] using h2
    have e : ∀ x : Int, (x + r) % n = (x + s) % n := fun x => by rw [← hr, Int.add_emod_emod]
    rw [List.getElem_append, List.getElem_map, ilist_get, e]
    split
    · rename_i hlt
      have hlt' : i < n - s := by simpa [ilist_len] using hlt
      rw [List.getElem_drop, List.getElem_map, ilist_get]
      congr 1
      rw [Int.emod_eq_of_lt (by omega) (by omega)]
      omega
    · rename_i hlt
      have hlt' : ¬ i < n - s := by simpa [ilist_len] using hlt
      rw [List.getElem_take, List.getElem_map, ilist_get]
      congr 1
      simp only [List.length_drop, List.length_map, ilist_len]
      rw [show (0 : Int) + (i : Int) + s = (i + s - n) + n by omega, Int.add_emod_right, Int.emod_eq_of_lt (by omega) (by omega)]
      omega
theorem ilist_twice {α : Type} {n s : Nat} (f : Int → α) (hs : s < n) : ((((ilist 0 n).map f) ++ ((ilist 0 n).map f)).drop s).take n = ((ilist 0 n).map f).drop s ++ ((ilist 0 n).map f).take s := by
  have hl : ((ilist 0 n).map f).length = n := by rw [List.length_map, ilist_len]
  rw [List.drop_append_of_le_length (by omega), List.take_append]
  rw [List.take_of_length_le (by rw [List.length_drop]; omega), List.length_drop, hl]
  rw [show n - (n - s) = s by omega]
theorem frzL_sD (l : List (List Sg)) : D.frzL (l.map sD) = true := frzL_of fun d hd => by obtain ⟨x, _, rfl⟩ := List.mem_map.mp hd; rfl
theorem fzL_sD (l : List (List Sg)) : D.fzL (l.map sD) = l.map sD := PreA.fzL_frz (fun _ => rfl) l
structure Ti where
  h : Nat
  w : Nat
  f : Int → Int → Sg
namespace Ti
def row (t : Ti) (y : Int) : List Sg := (ilist 0 t.w).map (t.f y)
def rows (t : Ti) : List (List Sg) := (ilist 0 t.h).map t.row
abbrev d (t : Ti) : D := .tup (t.rows.map sD)
def mv (t : Ti) (a b : Int) : Ti := ⟨t.h, t.w, fun y x => t.f ((y + a) % t.h) ((x + b) % t.w)⟩
def tn (t : Ti) : Ti := ⟨t.w, t.h, fun y x => t.f (t.h - 1 - x) y⟩
def mr (t : Ti) : Ti := ⟨t.h, t.w, fun y x => t.f y (t.w - 1 - x)⟩
def tp (t : Ti) : Ti := ⟨t.w, t.h, fun y x => t.f x y⟩
def up (t : Ti) : Ti := ⟨t.h, t.w, fun y x => t.f (t.h - 1 - y) x⟩
theorem row_len {t : Ti} {y : Int} : (t.row y).length = t.w := by unfold row; rw [List.length_map, ilist_len]
theorem rows_len {t : Ti} : t.rows.length = t.h := by unfold rows; rw [List.length_map, ilist_len]
theorem frz {t : Ti} : t.d.frz = true := frzL_of fun d hd => by obtain ⟨x, _, rfl⟩ := List.mem_map.mp hd; rfl
theorem frzL {t : Ti} : D.frzL (t.rows.map sD) = true := frz (t := t)
theorem d_eq {t : Ti} : t.d = .tup ((ilist 0 t.h).map fun y => sD (t.row y)) := by show D.tup (List.map sD (List.map _ _)) = _; rw [List.map_map]; rfl
theorem rows_sD {t : Ti} : t.rows.map sD = (ilist 0 t.h).map fun y => sD (t.row y) := by unfold rows; rw [List.map_map]; rfl
theorem rows_get {t : Ti} {k : Nat} (h : k < t.h) : t.rows[k]? = some (t.row k) := by
  unfold rows
  rw [List.getElem?_map, List.getElem?_eq_getElem (by rw [ilist_len]; exact h), ilist_get]
  simp
theorem rows_eq {t u : Ti} (h : t.h = u.h) (w : t.w = u.w) : t.rows = u.rows ↔ ∀ y : Int, 0 ≤ y → y < t.h → ∀ x : Int, 0 ≤ x → x < t.w → t.f y x = u.f y x := by
  unfold rows row
  rw [← h, ← w, ilist_map_inj]
  exact forall_congr' fun y => forall_congr' fun _ => forall_congr' fun _ => ilist_map_inj
theorem len {t : Ti} : gLen [t.d] = some (.int t.h) := by

  rw [vv_lenT, List.length_map, rows_len]
theorem at_ {t : Ti} {y : Int} (h0 : 0 ≤ y) (h1 : y < t.h) : atF (t.rows.map sD) y = some (sD (t.row y)) := by
  obtain ⟨k, rfl⟩ := Int.eq_ofNat_of_zero_le h0


  have hk : k < t.rows.length := by rw [rows_len]; omega
  rw [atF_map (f := sD) (fun _ => rfl) hk]
  have := rows_get (t := t) (k := k) (by omega)
  rw [List.getElem?_eq_getElem hk] at this
  exact congrArg (fun r => some (sD r)) (Option.some.inj this)
theorem at_row {t : Ti} {y x : Int} (h0 : 0 ≤ x) (h1 : x < t.w) (hw : t.w ≤ 16777216) : gIdx (sD (t.row y)) (.int x) = some (sD [t.f y x]) := by
  obtain ⟨k, rfl⟩ := Int.eq_ofNat_of_zero_le h0
  have hk : k < (t.row y).length := by rw [row_len]; omega
  rw [gIdx_mkF hk (by rw [row_len]; exact hw)]
  have e : (t.row y)[k] = t.f y k := by
    have : (t.row y)[k]? = some (t.f y k) := by
      unfold row
      rw [List.getElem?_map, List.getElem?_eq_getElem (by rw [ilist_len]; omega), ilist_get]
      simp
    rw [List.getElem?_eq_getElem hk] at this
    exact Option.some.inj this
  rw [e]
theorem rot {t : Ti} {y : Int} {s : Nat} (hs : s < t.w) {r : Int} (hr : r % t.w = s) : (t.row y).drop s ++ (t.row y).take s = (ilist 0 t.w).map fun x => t.f y ((x + r) % t.w) := ilist_rot _ hs hr
theorem mv_row {t : Ti} {a b y : Int} : (t.mv a b).row y = (ilist 0 t.w).map fun x => t.f ((y + a) % t.h) ((x + b) % t.w) := rfl
theorem rev_row {t : Ti} {y : Int} : (t.row y).reverse = t.mr.row y := ilist_rev _
theorem rev_rows {t : Ti} : t.rows.reverse = t.up.rows := ilist_rev _
theorem gEq_d (t u : Ti) : gEq t.d u.d = some (.bl (decide (t.rows = u.rows))) := gEq_tupE emb_sD (fun _ => ok_sD _) _ _
theorem emb : Emb fun l : List (List Sg) => D.tup (l.map sD) := emb_tupL emb_sD fun _ => ok_sD _
theorem sm {t : Ti} {n : Nat} (hh : t.h < 1000) (hw : t.w ≤ 1000) : Sm (n + 2) t.d t.d := sm_tup t.rows sD (by rw [rows_len]; omega) fun r hr => by
  unfold rows at hr
  obtain ⟨y, _, rfl⟩ := List.mem_map.mp hr
  exact ⟨sm_mkF (by rw [row_len]; omega), rfl⟩
end Ti
end Mv
end
section
set_option Elab.async false
set_option linter.all false
set_option maxRecDepth 100000
set_option maxHeartbeats 1000000
/-! tuple(reversed(a tuple)). -/
namespace RT
open PySem PySem.Spec PyProof.Rows
theorem nolen_rt : typeLookup (.type "reversed") "__len__" = pure none := by rw [typeLookup_type, builtinLookup_eq_fast]; kernel_rfl
theorem hint_rt : typeLookup (.type "reversed") "__length_hint__" = pure (some (.builtin "reversed.__length_hint__")) := by rw [typeLookup_type, builtinLookup_eq_fast]; kernel_rfl
theorem slot_rt_hint : Slot "reversed" "__length_hint__" "reversed.__length_hint__" :=
  .of (owner := "reversed") (n := "__length_hint__") (by rw [typeLookup_type, builtinLookup_eq_fast]; kernel_rfl) (by decide +kernel) (by decide +kernel) (by decide +kernel)
    (by first | exact .inl (by decide +kernel) | exact .inr (by decide +kernel)) (by rw [isSubtype_type]; kernel_rfl)
theorem entry_rt_hint : entryFor table "reversed.__length_hint__" = some Builtin.«reversed.__length_hint__» := entryFor_of_tree (by kernel_rfl)
theorem args_rt_hint (a : Value) : argsOk "reversed.__length_hint__" ⟨[a], []⟩ := by
  unfold argsOk; rw [signature?_of (id := "reversed.__length_hint__") (n := ['_', '_', 't', 'n', 'i', 'h', '_', 'h', 't', 'g', 'n', 'e', 'l', '_', '_']) (o := ['d', 'e', 's', 'r', 'e', 'v', 'e', 'r']) (by kernel_rfl) owner_rt]; kernel_rfl
theorem type_rt_hint : typeOf (.builtin "reversed.__length_hint__") = pure (.type "method_descriptor") := by show builtinType _ = _; rw [builtinType_eq_fast]; kernel_rfl
section
variable {prog : Program} {w : World} {A : Around} {E : Value → Shared → Prop} {s : Shared}
theorem call_rt_hint {it t : Addr} {items : Array Value} {Q : Value → Shared → Prop} (hit : IsRt s.heap it t ((items.size : Int) - 1)) (ht : IsTup s.heap t items) (hsz : items.size ≤ sizeLine)
    (h : ∀ k tk, Q (.int items.size k) { s with toks := tk }) : wpAny (model prog w) A (call (.builtin "reversed.__length_hint__") [.ref it]) Q E s := by
  obtain ⟨o, ho, hc, hd⟩ := id hit
  refine wpAny_call_entry slot_rt_hint hit.typeIs entry_rt_hint ?_ (args_rt_hint _)
  unfold Builtin.«reversed.__length_hint__»
  refine wpAny_bind (wpAny_of_eq (a := Value.ref it) rfl ?_)
  try dsimp only
  refine wpAny_bind (wpAny_field ho hd (x := .ref t) rfl ?_)
  try dsimp only
  rw [if_neg (show ¬ ((Value.ref t == Value.none) = true) from Bool.false_ne_true)]
  refine wpAny_bind (len_tuple ht (by rw [sizeLine_eq] at hsz; omega) ?_)
  refine wpAny_bind (wpAny_of_eq (a := some ((items.size : Nat) : Int)) rfl ?_)
  try dsimp only
  refine wpAny_bind (wpAny_field (s := { s with toks := _ }) ho hd (x := rawInt ((items.size : Int) - 1)) rfl ?_)
  try dsimp only
  show wpAny _ _ (if ((items.size : Nat) : Int) < (items.size : Int) - 1 + 1 then _ else retInt ((items.size : Int) - 1 + 1)) _ _ _
  rw [if_neg (by omega), show (items.size : Int) - 1 + 1 = items.size by omega]
  refine wpAny_bind (wpAny_mkInt ?_)
  exact wpAny_pure ⟨_, rfl, h _ _⟩
theorem rt_room {it t : Addr} {items : Array Value} {Q : Bool → Shared → Prop} (hit : IsRt s.heap it t ((items.size : Int) - 1)) (ht : IsTup s.heap t items) (hsz : items.size ≤ sizeLine) (hne : items.size ≠ 0)
    (h : ∀ tk, Q true { s with toks := tk }) : wpAny (model prog w) A (Builtin.List.listLengthHint (.ref it)) Q E s := by
  have hT := hit.typeIs
  unfold Builtin.List.listLengthHint
  refine wpAny_bind (wpAny_specialOf hT nolen_rt ?_)
  show wpAny _ A (specialOf (Value.ref it) (Str.ofString "__length_hint__") >>= _) _ _ _
  refine wpAny_bind (wpAny_specialOf hT hint_rt ?_)
  generalize hid : ("reversed.__length_hint__" : String) = id0
  wp_delta
  rw [show splitId id0 = some ("reversed", "__length_hint__") from by subst hid; decide +kernel]
  subst hid
  refine wpAny_bind (wpAny_isInstance (b := true) hT (by rw [isSubtype_type]; kernel_rfl) ?_)
  rw [if_neg (by decide)]
  have hs : ∀ (a b : Sem Bool) (Q : Bool → Shared → Prop) (s : Shared) (c : Prop) [Decidable c], ¬ c → wpAny (model prog w) A b Q E s → wpAny (model prog w) A (if c then a else b) Q E s := fun a b Q s c _ hc h => by rw [if_neg hc]; exact h
  try dsimp only
  refine hs _ _ _ _ _ (by decide +kernel) ?_
  refine wpAny_bind (wpAny_rule ?_)
  refine wpAny_bind ?_
  unfold bindSpecial
  refine wpAny_bind (wpAny_of_eq type_rt_hint ?_)
  try dsimp only
  rw [if_pos (by decide +kernel)]
  refine wpAny_pure ?_
  try dsimp only
  refine wpAny_bind (wpAny_attempt (call_rt_hint hit ht hsz fun k tk => ?_))
  try dsimp only
  refine wpAny_bind (α := Option Int) ?_
  show wpAny (model prog w) A (pure (some ((items.size : Nat) : Int))) _ E { s with toks := tk }
  refine wpAny_pure ?_
  try dsimp only
  have f1 : ¬ (!Builtin.List.listFitsIndex ((items.size : Nat) : Int)) = true := by
    rw [sizeLine_eq] at hsz
    unfold Builtin.List.listFitsIndex
    simp
    omega
  rw [if_neg f1, if_neg (by omega)]
  have f2 : ¬ Builtin.List.listTooLong ((items.size : Nat) : Int).toNat = true := by
    rw [Int.toNat_natCast, L2.notLongL hsz]
    exact Bool.false_ne_true
  rw [if_neg f2]
  refine wpAny_pure ?_
  rw [show (((items.size : Nat) : Int) != 0) = true by simpa using hne]
  exact h tk
theorem tup_at {h h' : Heap} {t : Addr} {items : Array Value} (x : IsTup h t items) (e : ∀ o, h.get? t = some o → h'.get? t = some o) : IsTup h' t items := let ⟨o, ho, r⟩ := x; ⟨o, e _ ho, r⟩
theorem Walks.tupRev (hh : A.handled = none) (I t : Addr) (hne : t ≠ I) (items : Array Value) (hsz : items.size ≤ sizeLine) :
    Walks prog w A I [I, t] [I] items.size (fun i v => items[items.size - 1 - i]? = some v) (fun i h => i ≤ items.size ∧ IsRt h I t ((items.size : Int) - 1 - (i : Int)) ∧ IsTup h t items) where
  sub := fun b hb => by simp at hb; simp [hb]
  frame := fun _ _ _ x hk => ⟨x.1, x.2.1.at fun o e => hk I (by simp) o e, tup_at x.2.2 fun o e => hk t (by simp) o e⟩
  item := fun i s Q E hi x hQ => by
    have e : (items.size : Int) - 1 - (i : Int) = ((items.size - 1 - i : Nat) : Int) := by omega
    have hit := x.2.1
    rw [e] at hit
    have hx : items[items.size - 1 - i]? = some (items[items.size - 1 - i]'(by omega)) := Array.getElem?_eq_getElem (by omega)
    refine next_rt_item hit x.2.2 hx hsz fun h' hit' hs' => ?_
    have e2 : ((items.size - 1 - i : Nat) : Int) - 1 = (items.size : Int) - 1 - ((i + 1 : Nat) : Int) := by omega
    rw [e2] at hit'
    exact hQ _ h' (s.toks + 1) hx ⟨hi, hit', tup_at x.2.2 fun o eo => (hs'.2 t hne).trans eo⟩ fun b o hb eo => hs'.extBut b o (fun h => hb (by simp [h])) eo
  done := fun s Q E x hQ => by
    have e : (items.size : Int) - 1 - (items.size : Int) = -1 := by omega
    have hit := x.2.1
    rw [e] at hit
    exact next_rt_end hh hit fun h' he' => hQ h' s.toks fun b o hb eo => he' b o (fun h => hb (by simp [h])) eo
  self := fun _ _ _ _ x hQ => iter_rt x.2.1 hQ
theorem collect_rt {it t : Addr} {items : Array Value} {Q : List Value → Shared → Prop} (hh : A.handled = none) (hit : IsRt s.heap it t ((items.size : Int) - 1)) (ht : IsTup s.heap t items) (hne : t ≠ it) (hn : items.size ≤ sizeLine) (hz : items.size ≠ 0)
    (hQ : ∀ (h' : Heap) (tk : Nat) (acc : Array Value), (∀ b o, b ≠ it → s.heap.get? b = some o → h'.get? b = some o) → ItemsOf (fun i v => items[items.size - 1 - i]? = some v) acc items.size → Q acc.toList { s with heap := h', toks := tk }) :
    wpAny (model prog w) A (collect (.ref it)) Q E s := by
  have W := (Walks.tupRev (prog := prog) (w := w) (A := A.in1) hh it t hne items hn).toS
  obtain ⟨oi, hoi, _⟩ := id hit
  obtain ⟨ol, hol, _⟩ := id ht
  have hSi : s.heap.objs.size ≠ it := Nat.ne_of_gt (Heap.lt_size hoi)
  have hSl : s.heap.objs.size ≠ t := Nat.ne_of_gt (Heap.lt_size hol)
  have hSf : s.heap.objs.size ∉ [it, t] := by simp only [List.mem_cons, List.not_mem_nil, or_false, not_or]; exact ⟨hSi, hSl⟩
  unfold collect
  refine wpAny_bind (wpAny_runValue (codeAny_builtin F.entry_proto_collect ?_))
  rw [Around.under_plainId F.plain_proto_collect _]
  show wpAny _ A.in1 (newList [] >>= fun l' => again (.builtin "list.__iadd__" ⟨[l', .ref it], []⟩)) _ _ s
  refine wpAny_bind (wpAny_newObj_type ?_)
  refine wpAny_pure ⟨plainId_quiet F.plain_list_iadd _, codeAny_builtin F.entry_list_iadd ?_⟩
  rw [Around.under_plainId F.plain_list_iadd _]
  have hS₁ : (s.heap.push { cls := .type "list", data := .seq ([] : List Value).toArray }).get? s.heap.objs.size = some { cls := .type "list", data := .seq ([] : List Value).toArray } := Heap.get?_push_size _ rfl
  have hit1 : IsRt (s.heap.push { cls := .type "list", data := .seq ([] : List Value).toArray }) it t ((items.size : Int) - 1) := hit.at fun o e => Heap.get?_push_of_some _ e
  have ht1 : IsTup (s.heap.push { cls := .type "list", data := .seq ([] : List Value).toArray }) t items := tup_at ht fun o e => Heap.get?_push_of_some _ e
  have hT : ({ s with heap := s.heap.push { cls := .type "list", data := .seq ([] : List Value).toArray } } : Shared).TypeIs (.ref it) "reversed" := IsRt.typeIs (s := { s with heap := s.heap.push { cls := .type "list", data := .seq ([] : List Value).toArray } }) hit1
  have h1 : Builtin.List.listSameRef (.ref s.heap.objs.size) (.ref it) = false := by simp [Builtin.List.listSameRef, hSi]
  show wpAny _ A.in1 (Builtin.List.listExtendWith (.ref s.heap.objs.size) (.ref it) (.ref s.heap.objs.size)) _ _ _
  unfold Builtin.List.listExtendWith
  refine wpAny_bind (wpAny_typeOf hT ?_)
  have h2 : (Value.type "reversed" == Value.type "list") = false := by decide
  have h3 : (Value.type "reversed" == Value.type "tuple") = false := by decide
  simp only [h1, h2, h3, Bool.or_false, Bool.false_eq_true, if_false]
  refine wpAny_bind (iter_rt (s := { s with heap := s.heap.push { cls := .type "list", data := .seq ([] : List Value).toArray } }) hit1 ?_)
  refine wpAny_bind (wpAny_holding ?_)
  refine rt_room (s := { s with heap := s.heap.push { cls := .type "list", data := .seq ([] : List Value).toArray } }) hit1 ht1 hn hz fun tk => ?_
  show wpAny _ A.in1 (rule "list.extend.makes-room" >>= fun _ => Builtin.List.listTouch (.ref s.heap.objs.size) >>= fun _ =>
    again (.builtin "list.extend.loop" ⟨[.ref s.heap.objs.size, .ref it, .ref s.heap.objs.size], []⟩)) _ _ _
  refine wpAny_bind (wpAny_rule ?_)
  refine wpAny_bind ?_
  show wpAny _ A.in1 (updateSeq s.heap.objs.size (·.push .none) >>= fun _ => updateSeq s.heap.objs.size (·.pop)) _ _ _
  refine wpAny_bind (wpAny_updateSeq hS₁ rfl ?_)
  have hS₂ := Heap.get?_update_self (Obj.mapSeq (·.push Value.none)) hS₁ rfl
  refine wpAny_updateSeq hS₂ rfl ?_
  have hS₃ := Heap.get?_update_self (Obj.mapSeq (·.pop)) hS₂ rfl
  have oth : ∀ b o, b ≠ s.heap.objs.size → (s.heap.push { cls := .type "list", data := .seq ([] : List Value).toArray }).get? b = some o →
      (((s.heap.push { cls := .type "list", data := .seq ([] : List Value).toArray }).update s.heap.objs.size (Obj.mapSeq (·.push Value.none))).update s.heap.objs.size (Obj.mapSeq (·.pop))).get? b = some o :=
    fun b o hb e => (Heap.get?_update_other _ _ (Ne.symm hb)).trans ((Heap.get?_update_other _ _ (Ne.symm hb)).trans e)
  have e0 : ((items.size : Nat) : Int) - 1 - ((0 : Nat) : Int) = (items.size : Int) - 1 := by omega
  refine wpAny_pure ⟨plainId_quiet F.plain_extend_loop _, codeAny_extend_loopS W hn _ hSf _ items.size 0 _ _ _ rfl (Nat.zero_le _) ⟨Nat.zero_le _, by rw [e0]; exact hit1.at fun o e => oth it o (Ne.symm hSi) e, tup_at ht1 fun o e => oth t o (Ne.symm hSl) e⟩ hS₃ (ItemsOf.nil _) fun s' acc' c' hm hS' hacc => ?_⟩
  show wpAny _ A (load s.heap.objs.size >>= _) _ _ s'
  refine wpAny_bind (wpAny_load hS' ?_)
  refine wpAny_pure ?_
  rw [Moved.eq_with hm]
  refine hQ s'.heap s'.toks acc' (fun b o hb e => hm.heap b o (fun hmem => ?_) (oth b o (fun h => absurd (Heap.lt_size e) (by rw [h]; exact Nat.lt_irrefl _)) (Heap.get?_push_of_some _ e))) hacc
  rcases List.mem_cons.mp hmem with e' | hmem
  · exact absurd (Heap.lt_size e) (by rw [e']; exact Nat.lt_irrefl _)
  · exact hb (List.mem_singleton.mp hmem)
theorem code_tuple_new_rt {it t : Addr} {items : Array Value} {Q₁ : Value → Shared → Prop} (hh : A.handled = none) (hit : IsRt s.heap it t ((items.size : Int) - 1)) (ht : IsTup s.heap t items) (hne : t ≠ it) (hn : items.size ≤ sizeLine) (hz : items.size ≠ 0)
    (h : ∀ (h' : Heap) (tk : Nat) (acc : Array Value), (∀ b o, b ≠ it → s.heap.get? b = some o → h'.get? b = some o) → ItemsOf (fun i v => items[items.size - 1 - i]? = some v) acc items.size →
      Q₁ (.ref h'.objs.size) { s with heap := h'.push { cls := .type "tuple", data := .seq acc }, toks := tk }) :
    codeAny (model prog w) A (.call (.builtin "tuple.__new__") ⟨[.type "tuple", .ref it], []⟩) (wants Q₁ E) s := by
  refine codeAny_of_tree ?_
  show wpAny _ A.in1 (do checkBuiltinCall "tuple.__new__" ⟨[.type "tuple", .ref it], []⟩; again (.builtin "tuple.__new__" ⟨[.type "tuple", .ref it], []⟩)) _ _ s
  refine wpAny_bind (wpAny_of_eq (F.newCall_tuple_1 _) (wpAny_pure ⟨plainId_quiet F.plain_tuple_new _, codeAny_builtin F.entry_tuple_new ?_⟩))
  rw [Around.under_plainId F.plain_tuple_new _]
  have hsub := sub_tuple_self
  have hinit := init_tuple_lookup
  have hmh := madeHere_tuple
  have hTI : s.TypeIs (.ref it) "reversed" := hit.typeIs
  have hh1 : A.in1.handled = none := hh
  wp_walk using wpAny_typeOf hTI, collect_rt (A := A.in1) hh1 hit ht hne hn hz
  intro h' tk acc hk hacc
  show wpAny _ _ (Builtin.Tuple.tupleExact acc.toList.toArray >>= fun v => ret v) _ _ _
  unfold Builtin.Tuple.tupleExact
  refine wpAny_bind (wpAny_newObj_type ?_ (by show acc.toList.toArray.size ≤ sizeLine; simp only [Array.toArray_toList]; rw [hacc.1]; exact hn))
  refine wpAny_pure ?_
  have e : acc.toList.toArray = acc := by simp
  rw [e]
  exact h h' tk acc hk hacc
theorem call_tuple_rt {it t : Addr} {items : Array Value} {Q : Value → Shared → Prop} (hh : A.handled = none) (hit : IsRt s.heap it t ((items.size : Int) - 1)) (ht : IsTup s.heap t items) (hne : t ≠ it) (hn : items.size ≤ sizeLine) (hz : items.size ≠ 0)
    (hQ : ∀ (h' : Heap) (tk : Nat) (acc : Array Value), (∀ b o, b ≠ it → s.heap.get? b = some o → h'.get? b = some o) → ItemsOf (fun i v => items[items.size - 1 - i]? = some v) acc items.size →
      Q (.ref h'.objs.size) { s with heap := h'.push { cls := .type "tuple", data := .seq acc }, toks := tk }) :
    wpAny (model prog w) A (call (.type "tuple") [.ref it]) Q E s := by
  refine callType_codes (Q₁ := fun obj s₁ => s₁.TypeIs obj "tuple" ∧ Q obj s₁) F.called_tuple (F.typeCall_tuple_1 _) F.entry_object_init
    (code_tuple_new_rt (A := A.in1) hh hit ht hne hn hz fun h' tk acc hk hacc => ⟨⟨_, Heap.get?_push_size _ rfl, rfl⟩, hQ h' tk acc hk hacc⟩) fun obj s₁ h₁ => ?_
  exact ⟨h₁.1, F.args_object_init_2 obj _, object_init_meets F.called_tuple.init.lookup F.called_tuple.made (by decide) prog w A.in1 _ s₁ ⟨h₁.1, rfl, h₁.2⟩⟩
end
end RT
namespace L2
open PySem PySem.Spec PyProof.Rows RT
section
variable {X : Cx}
/-- tuple(reversed(x)), x a list, or a tuple that is not empty -/
def tTupRevA (K : PySem.W.Frag) (te : TE) : TE := fun σ H Q => te σ H fun v H1 => ∃ (a : Addr) (xs : List V), v = .ref a ∧ ((SqL K H1 a xs ∧ ∀ q, H1 q = none → Q (.ref q) (upd H1 q (.tup xs.reverse))) ∨ (SqT K H1 a xs ∧ xs ≠ [] ∧ ∀ q, H1 q = none → Q (.ref q) (upd H1 q (.tup xs.reverse))))
theorem pe_tupRevA {e : Expr} {te : TE} {p p2 pos pos2 : Pos} (hc : X.calm = true) (hg : Gl X "tuple") (hm : X.mg "tuple" = none) (hg2 : Gl X "reversed") (hm2 : X.mg "reversed" = none) (he : PE X e te)
    (hs : starEach [e] X.env = (false, eval e X.env) :: starEach [] X.env := by rfl)
    (hs2 : starEach [.Call (.Name "reversed" p2) [e] [] pos2] X.env = (false, eval (.Call (.Name "reversed" p2) [e] [] pos2) X.env) :: starEach [] X.env := by rfl) :
    PE X (.Call (.Name "tuple" p) [.Call (.Name "reversed" p2) [e] [] pos2] [] pos) (tTupRevA X.K te) := by
  refine ⟨fun pins s σ H Q I h => ?_⟩
  refine Call_ (ld_blt I hg hm boot_tuple (PyProof.Rows.callWith_type1 (args_cons (Call_ (ld_blt I hg2 hm2 PyProof.Rows.boot_reversed (PyProof.Rows.callWith_type1 (args_cons (thn (he.run pins s σ H _ I h) fun u s1 ⟨v, H1, I1, r1, q1⟩ => args_nil ?_) hs) hs rfl))) hs2) hs2 rfl))
  obtain ⟨a, xs, ev, q⟩ := q1
  subst ev
  obtain rfl : u = Value.ref a := r1
  rcases q with ⟨hq, q⟩ | ⟨hq, hx, q⟩
  · obtain ⟨its, rv, p', hz⟩ := I1.list hq
    refine call_reversed_list p'.isList (args_nil ?_)
    have k0 : ∀ b o, s1.heap.get? b = some o → (s1.heap.push (revObj a ((its.toArray.size : Int) - 1))).get? b = some o := fun b o e => Heap.get?_push_of_some _ e
    have I2 : Inv X pins σ H1 { s1 with heap := s1.heap.push (revObj a ((its.toArray.size : Int) - 1)) } := I1.kept (t' := s1.toks) k0
    obtain ⟨f0, f1, f2, f3, f4, f5⟩ := I1.fpOk (H' := H1) (b := s1.heap.objs.size) (Nat.le_refl _) (I1.hok.fresh (Nat.le_refl _))
    have hl := p'.isList
    obtain ⟨ol, hol, _⟩ := id hl
    have hne : a ≠ s1.heap.objs.size := Nat.ne_of_lt (Heap.lt_size hol)
    have hn : its.toArray.size ≤ sizeLine := by rw [List.size_toArray, ← rv.length]; exact hz
    refine call_tuple_rev (s := { s1 with heap := s1.heap.push (revObj a ((its.toArray.size : Int) - 1)) }) (I1.ok.hd hc) ⟨_, Heap.get?_push_size _ rfl, rfl, rfl⟩ (hl.push _) hne hn fun h' tk acc hk hi => ?_
    have I3 : Inv X pins σ H1 { s1 with heap := h', toks := tk } := I2.turned (t' := tk) (fun b o hb e => hk b o hb e) f0 f1 f3 f4 f5
    refine ⟨.ref h'.objs.size, upd H1 h'.objs.size (.tup xs.reverse), I3.laid (t' := tk) (fun c o e => Heap.get?_push_of_some _ e) (Nat.le_refl _) (show ObjOk X.prog X.w _ _ _ (.tup xs.reverse) from ⟨by rw [List.length_reverse]; exact hz, acc.toList, vals_rev rv hi, ?_⟩), rfl, q _ (I3.hok.fresh (Nat.le_refl _))⟩
    rw [Array.toArray_toList]
    exact IsTup.new _ _
  · obtain ⟨its, rv, p', hz⟩ := I1.tuple hq
    have hl := rv.length
    have hn63 := line63
    refine call_reversed_tup p' (fun A E Q k => len_tuple p' (by simp only [List.size_toArray] <;> omega) k) (args_nil ?_)
    have k0 : ∀ b o, s1.heap.get? b = some o → (s1.heap.push (rtObj a ((its.toArray.size : Int) - 1))).get? b = some o := fun b o e => Heap.get?_push_of_some _ e
    have I2 : Inv X pins σ H1 { s1 with heap := s1.heap.push (rtObj a ((its.toArray.size : Int) - 1)), toks := s1.toks + 1 + 1 } := I1.kept (t' := s1.toks + 1 + 1) k0
    obtain ⟨f0, f1, f2, f3, f4, f5⟩ := I1.fpOk (H' := H1) (b := s1.heap.objs.size) (Nat.le_refl _) (I1.hok.fresh (Nat.le_refl _))
    obtain ⟨ol, hol, _⟩ := id p'
    have hne : a ≠ s1.heap.objs.size := Nat.ne_of_lt (Heap.lt_size hol)
    have hn : its.toArray.size ≤ sizeLine := by rw [List.size_toArray, ← rv.length]; exact hz
    have hz0 : its.toArray.size ≠ 0 := by
      rw [List.size_toArray, ← hl]
      exact fun h => hx (List.eq_nil_of_length_eq_zero h)
    refine call_tuple_rt (s := { s1 with heap := s1.heap.push (rtObj a ((its.toArray.size : Int) - 1)), toks := s1.toks + 1 + 1 }) (I1.ok.hd hc) ⟨_, Heap.get?_push_size _ rfl, rfl, rfl⟩ (tup_at p' (k0 a)) hne hn hz0 fun h' tk acc hk hi => ?_
    have I3 : Inv X pins σ H1 { s1 with heap := h', toks := tk } := I2.turned (t' := tk) (fun b o hb e => hk b o hb e) f0 f1 f3 f4 f5
    refine ⟨.ref h'.objs.size, upd H1 h'.objs.size (.tup xs.reverse), I3.laid (t' := tk) (fun c o e => Heap.get?_push_of_some _ e) (Nat.le_refl _) (show ObjOk X.prog X.w _ _ _ (.tup xs.reverse) from ⟨by rw [List.length_reverse]; exact hz, acc.toList, vals_rev rv hi, ?_⟩), rfl, q _ (I3.hok.fresh (Nat.le_refl _))⟩
    rw [Array.toArray_toList]
    exact IsTup.new _ _
end
end L2
namespace Mv
open PySem PySem.Spec PyProof.Rows L2
def gTRev : D → Option D := fun d => match d with
  | .lst _ xs => if D.frzL xs = true then some (.tup xs.reverse) else none
  | .tup xs => if D.frzL xs = true ∧ xs ≠ [] then some (.tup xs.reverse) else none
  | _ => none
section
variable {X : Cx}
theorem de_tupRev {e : Expr} {p p2 pos pos2 : Pos} {fe : Ev → Option (Hd × Ev)} (hc : X.calm = true) (hg : Gl X "tuple") (hm : X.mg "tuple" = none) (hg2 : Gl X "reversed") (hm2 : X.mg "reversed" = none) (he : DH X e fe)
    (hs : starEach [e] X.env = (false, eval e X.env) :: starEach [] X.env := by rfl)
    (hs2 : starEach [.Call (.Name "reversed" p2) [e] [] pos2] X.env = (false, eval (.Call (.Name "reversed" p2) [e] [] pos2) X.env) :: starEach [] X.env := by rfl) :
    DE X (.Call (.Name "tuple" p) [.Call (.Name "reversed" p2) [e] [] pos2] [] pos) (e1 gTRev fe) := by
  obtain ⟨te, pe, ke⟩ := he.ex
  refine ⟨_, pe_tupRevA hc hg hm hg2 hm2 pe hs hs2, fun σ H ρ l Q d ρ' hl hi hf q => ?_⟩
  obtain ⟨⟨hd, ρ1⟩, e1, hf⟩ := Option.bind_eq_some_iff.mp hf
  obtain ⟨b, e2, hf⟩ := Option.map_eq_some_iff.mp hf
  obtain ⟨eb, eρ⟩ : b = d ∧ ρ1 = ρ' := by cases hf; exact ⟨rfl, rfl⟩
  subst eb eρ
  refine ke σ H ρ l _ hd ρ1 hl hi e1 fun v H' hl' ha hi' => ?_
  have m := mem_hd (X := X) (hl := by omega) ha hi'
  replace e2 : gTRev (hd.get ρ1) = some b := e2
  have fin : ∀ v' H'', Items X.K [] H'' ((some v', b) :: (hd.its v ++ (σ.zip ρ1 ++ l))) → Q v' H'' := fun v' H'' i => q v' H'' hl' (i.sub ⟨hd.its v, List.perm_middle.symm⟩)
  unfold gTRev at e2
  split at e2
  · rename_i o xs e
    rw [e] at m
    split at e2
    · rename_i c
      cases e2
      obtain ⟨a, us, rfl, hs, hl2, i1⟩ := hi'.listAll m c
      exact ⟨a, us, rfl, .inl ⟨SqL.of hs, fun p np => fin _ _ (Items.newT np (by rw [List.length_reverse, List.length_reverse, hl2]) (i1.perm (List.Perm.append_right _ (by rw [prs_rev hl2]; exact (List.reverse_perm _).symm))))⟩⟩
    · cases e2
  · rename_i xs e
    rw [e] at m
    split at e2
    · rename_i c
      cases e2
      obtain ⟨a, us, rfl, hs, hl2, i1⟩ := hi'.tupleAll m c.1
      refine ⟨a, us, rfl, .inr ⟨hs, fun h => ?_, fun p np => fin _ _ (Items.newT np (by rw [List.length_reverse, List.length_reverse, hl2]) (i1.perm (List.Perm.append_right _ (by rw [prs_rev hl2]; exact (List.reverse_perm _).symm))))⟩⟩
      rw [h, List.length_nil] at hl2
      exact c.2 (List.eq_nil_of_length_eq_zero hl2.symm)
    · cases e2
  · cases e2
end
section
variable {xs : List D} {o : Bool}
theorem vv_tRevL : gTRev (.lst o xs) = if D.frzL xs = true then some (.tup xs.reverse) else none := rfl
theorem vv_tRevT : gTRev (.tup xs) = if D.frzL xs = true ∧ xs ≠ [] then some (.tup xs.reverse) else none := rfl
end
end Mv
end
section
set_option Elab.async false
set_option linter.all false
set_option maxRecDepth 100000
/-! x *= n. -/
namespace Mv
open PySem PySem.Spec PyProof.Rows L2
theorem ip_mulA {X : Cx} : PIp X .Mult (rI CMul fun i j => .int (i * j)) := iop_mul
def gMulI : D → D → Option D := fun a b => match a, b with
  | .int i, .int j => if i.natAbs < 2 ^ 64 ∨ j.natAbs < 2 ^ 64 then some (.int (i * j)) else none
  | _, _ => none
theorem o2_mulI {K : Frg} : Op2 K (rI CMul fun i j => .int (i * j)) gMulI := by
  intro x y H dx dy l Q d hi mx my hg q
  unfold gMulI at hg
  split at hg
  · rename_i i j
    split at hg
    · rename_i c
      cases hg
      have fin := q (.int (i * j)) H (hi.add rfl fun _ _ => rfl)
      rcases c with c | c
      · exact ⟨i, j, hi.view mx, hi.view my, .inl (by omega), fin⟩
      · exact ⟨i, j, hi.view mx, hi.view my, .inr (by omega), fin⟩
    · cases hg
  · cases hg
theorem vv_mulI {i j : Int} : gMulI (.int i) (.int j) = if i.natAbs < 2 ^ 64 ∨ j.natAbs < 2 ^ 64 then some (.int (i * j)) else none := rfl
end Mv
end
section
set_option Elab.async false
set_option linter.all false
set_option maxRecDepth 100000
/-! A statement, behind which a slot's data are frozen. -/
namespace Mv
open PySem PySem.Spec PyProof.Rows L2
def fzAt (i : Nat) (ρ : Ev) : Ev := match ρ[i]? with
  | some d => ρ.set i d.fz
  | none => ρ
def fzO (i : Nat) : Out → Out
  | .nx ρ => .nx (fzAt i ρ)
  | o => o
def bFzS (i : Nat) (f : Ev → Option Out) : Ev → Option Out := fun ρ => (f ρ).map (fzO i)
theorem fzAt_len (i : Nat) (ρ : Ev) : (fzAt i ρ).length = ρ.length := by
  unfold fzAt
  split
  · rw [List.length_set]
  · rfl
theorem Items.fzAt {K : Frg} {H : Hp} {σ : Sl} {ρ : Ev} {l : List Itm} (i : Nat) (hl : ρ.length = σ.length) (h : Items K [] H (σ.zip ρ ++ l)) : Items K [] H (σ.zip (fzAt i ρ) ++ l) := by
  unfold Mv.fzAt
  split
  · rename_i d e
    have hi : i < σ.length := by have := (List.getElem?_eq_some_iff.mp e).1; omega
    obtain ⟨A, B, i1, back⟩ := h.slot (List.getElem?_eq_getElem hi) e
    exact back [] H l d.fz i1.freeze
  · exact h
theorem ds_fzS {X : Cx} {C : List Nat} {st : Stmt} {f : Ev → Option Out} (i : Nat) (h : DS X C st f) : DS X C st (bFzS i f) := by
  obtain ⟨t, pt, k⟩ := h.ex
  refine ⟨t, pt, fun D' σ H ρ l o hl hi hf q => ?_⟩
  obtain ⟨o1, e1, e2⟩ := Option.map_eq_some_iff.mp hf
  subst e2
  refine k D' σ H ρ l o1 hl hi e1 ?_
  cases o1 with
  | nx ρ' => exact fun σ' H' h1 h2 ag i1 => q σ' H' h1 (by rw [fzAt_len]; exact h2) ag (Items.fzAt i (by omega) i1)
  | bk ρ' => exact q
  | ct ρ' => exact q
  | rt d ρ' => exact q
theorem W_bFzS {i : Nat} {f : Ev → Option Out} {ρ : Ev} {Q : Out → Prop} : W (bFzS i f ρ) Q = W (f ρ) fun o => Q (fzO i o) := W_map
end Mv
end
section
set_option Elab.async false
set_option linter.all false
set_option maxRecDepth 100000
/-! Rules for any, all, lists of ones, x[i].append. -/
namespace Mv
open PySem PySem.Spec PyProof.Rows L2
theorem bls_map {α : Type} (f : α → Bool) (l : List α) : bls? (l.map fun b => D.bl (f b)) = some (l.map f) := by
  induction l with
  | nil => rfl
  | cons a l ih => show (bls? (l.map fun b => D.bl (f b))).map (f a :: ·) = _; rw [ih]; rfl
theorem gAny_map {α : Type} {o : Bool} (f : α → Bool) (l : List α) : gAny [.lst o (l.map fun b => D.bl (f b))] = some (.bl (l.any f)) := by
  unfold gAny
  simp only [bls_map, Option.map_some, List.any_map]
  rfl
theorem gAll_map {α : Type} {o : Bool} (f : α → Bool) (l : List α) : gAll [.lst o (l.map fun b => D.bl (f b))] = some (.bl (l.all f)) := by
  unfold gAll
  simp only [bls_map, Option.map_some, List.all_map]
  rfl
theorem ones_is {α : Type} (c : Int) (l : List α) : (l.map fun _ => D.int c) = (l.map fun _ => c).map D.int := by rw [List.map_map]; rfl
theorem gNe_ones {α : Type} {o o' : Bool} {c : Int} {p : α → Bool} {l : List α} : gNe (.lst o ((l.filter p).map fun _ => D.int c)) (.lst o' []) = some (.bl (l.any p)) := by
  rw [ones_is, gNe_in]
  congr 2
  rw [← decide_not, Bool.eq_iff_iff, decide_eq_true_eq, List.any_eq_true]
  constructor
  · intro h
    by_cases e : ∃ x ∈ l, p x = true
    · exact e
    · exact absurd (by rw [List.filter_eq_nil_iff.mpr (fun a ha hp => e ⟨a, ha, hp⟩)]; rfl) h
  · rintro ⟨x, hx, hp⟩ h
    have : x ∈ l.filter p := List.mem_filter.mpr ⟨hx, hp⟩
    rw [List.map_eq_nil_iff.mp h] at this
    exact absurd this List.not_mem_nil
theorem gEq_ones {α : Type} {o o' : Bool} {c : Int} {p : α → Bool} {l : List α} : gEq (.lst o ((l.filter p).map fun _ => D.int c)) (.lst o' []) = some (.bl (!l.any p)) := by
  rw [ones_is, gEq_in]
  congr 2
  rw [Bool.eq_iff_iff, decide_eq_true_eq, Bool.not_eq_true', ← Bool.not_eq_true, List.any_eq_true]
  constructor
  · rintro h ⟨x, hx, hp⟩
    have : x ∈ l.filter p := List.mem_filter.mpr ⟨hx, hp⟩
    rw [List.map_eq_nil_iff.mp h] at this
    exact absurd this List.not_mem_nil
  · intro e
    rw [List.filter_eq_nil_iff.mpr (fun a ha hp => e ⟨a, ha, hp⟩)]; rfl
theorem W_eApp2 {j i : Nat} {fi : Ev → Option (Hd × Ev)} {x0 : D} {ρ : Ev} {Q : D × Ev → Prop} {ds : List D} {k : Nat} {xs : List D} {e : D} {hd : Hd} (hj : (x0 :: ρ)[j]? = some (.lst true ds)) (hi : fi (x0 :: ρ) = some (hd, x0 :: ρ)) (hh : hd.get (x0 :: ρ) = .int (k : Nat)) (hk : ds[k]? = some (.lst true xs))
    (he : (x0 :: ρ)[i]? = some e) (hz : e.frz = true ∧ D.dat e = true) (hl : xs.length < 16777216) (q : Q (.non, (x0 :: ρ).set j (.lst true (ds.set k (.lst true (xs ++ [e])))))) : W (eApp2 j fi i (x0 :: ρ)) Q := by
  have hkl : k < ds.length := (List.getElem?_eq_some_iff.mp hk).1
  unfold eApp2
  simp only [hj, hi, Option.bind_some, hh, he]
  rw [if_pos hz]
  have e1 : ixN ds.length (k : Int) = some k := by
    unfold ixN
    rw [if_pos (by omega), if_pos (by omega)]
    simp
  simp only [e1, Option.bind_some, hk]
  rw [if_pos hl, W_some]
  exact q
/-! ### in for a tuple -/
def rInT (K : Frg) : R2 := fun x y H Q => ∃ d ds, Dp K H x d ∧ Dp K H y (.tuple ds) ∧ SeqAt.shaped d = true ∧ SeqAt.shaped (.tuple ds) = true ∧ Q (.bl (ds.any fun z => PyData.eqv z d)) H
def rNotInT (K : Frg) : R2 := fun x y H Q => ∃ d ds, Dp K H x d ∧ Dp K H y (.tuple ds) ∧ SeqAt.shaped d = true ∧ SeqAt.shaped (.tuple ds) = true ∧ Q (.bl (!ds.any fun z => PyData.eqv z d)) H
theorem op_inT {X : Cx} (hu : X.A.units + 65 < cLine) : OpR X (compareOp .In) (rInT X.K) := by
  intro pins s σ H x y v u Q I rx ry h
  obtain ⟨d, ds, hd, he, sd, se, q⟩ := h
  obtain ⟨as, r1⟩ := Dp.reads I d x v hd rx
  obtain ⟨bs, r2⟩ := Dp.reads I (.tuple ds) y u he ry
  exact SeqAt.in_tuple_reads r2 r1 (SeqAt.canLay_of_shaped se) (SeqAt.canLay_of_shaped sd) (room_in_shaped sd hu) ⟨.bl _, H, I, rfl, q⟩
theorem op_notInT {X : Cx} (hu : X.A.units + 65 < cLine) : OpR X (compareOp .NotIn) (rNotInT X.K) := by
  intro pins s σ H x y v u Q I rx ry h
  obtain ⟨d, ds, hd, he, sd, se, q⟩ := h
  obtain ⟨as, r1⟩ := Dp.reads I d x v hd rx
  obtain ⟨bs, r2⟩ := Dp.reads I (.tuple ds) y u he ry
  exact SeqAt.notIn_tuple_reads r2 r1 (SeqAt.canLay_of_shaped se) (SeqAt.canLay_of_shaped sd) (room_in_shaped sd hu) ⟨.bl _, H, I, rfl, q⟩
def gInX (neg : Bool) : D → D → Option D := fun a b => match b with
  | .tup xs => if a.dat = true ∧ D.datL xs = true ∧ SeqAt.shaped a.pd = true ∧ SeqAt.shaped (.tuple (D.pdL xs)) = true then some (.bl (if neg = true then !inD a xs else inD a xs)) else none
  | b => gInS neg a b
def rInX (K : Frg) : R2 := rOr (rInT K) (rInS K)
def rNotInX (K : Frg) : R2 := rOr (rNotInT K) (rNotInS K)
theorem op_inXA {X : Cx} (hu : X.A.units + 65 < cLine) : OpR X (compareOp .In) (rInX X.K) := OpR.or (op_inT hu) (op_inSA hu)
theorem op_notInXA {X : Cx} (hu : X.A.units + 65 < cLine) : OpR X (compareOp .NotIn) (rNotInX X.K) := OpR.or (op_notInT hu) (op_notInSA hu)
theorem o2_inX {K : Frg} : Op2 K (rInX K) (gInX false) := by
  intro x y H dx dy l Q d hi mx my hg q
  unfold gInX at hg
  split at hg
  · rename_i xs
    split at hg
    · rename_i c
      cases hg
      have hy := Fz.dp (.tup xs) _ (by rw [D.dat]; exact c.2.1) (hi.view my)
      rw [D.pd] at hy
      exact .inl ⟨_, _, Fz.dp _ _ c.1 (hi.view mx), hy, c.2.2.1, c.2.2.2, q _ H (hi.add rfl fun _ _ => rfl)⟩
    · cases hg
  · exact .inr (o2_inS x y H _ _ l Q d hi mx my hg q)
theorem o2_notInX {K : Frg} : Op2 K (rNotInX K) (gInX true) := by
  intro x y H dx dy l Q d hi mx my hg q
  unfold gInX at hg
  split at hg
  · rename_i xs
    split at hg
    · rename_i c
      cases hg
      have hy := Fz.dp (.tup xs) _ (by rw [D.dat]; exact c.2.1) (hi.view my)
      rw [D.pd] at hy
      exact .inl ⟨_, _, Fz.dp _ _ c.1 (hi.view mx), hy, c.2.2.1, c.2.2.2, q _ H (hi.add rfl fun _ _ => rfl)⟩
    · cases hg
  · exact .inr (o2_notInS x y H _ _ l Q d hi mx my hg q)
section
variable {α : Type} [DecidableEq α] {f : α → D} (E : Emb f)
include E
theorem inX_map {neg o : Bool} (x : α) (l : List α) : gInX neg (f x) (.lst o (l.map f)) = some (.bl (if neg = true then !decide (x ∈ l) else decide (x ∈ l))) := by
  show gIn neg (f x) (.lst o (l.map f)) = _
  rw [gIn_map E]
theorem inX_mapT {neg : Bool} (x : α) (l : List α) : gInX neg (f x) (.tup (l.map f)) = some (.bl (if neg = true then !decide (x ∈ l) else decide (x ∈ l))) := by
  have h1 := ok_mono (E.ok x) (show 60 ≤ 64 by decide)
  have h2 := ok_mono (ok_tup (n := 60) (xs := l.map f) fun d hd => by
    obtain ⟨x, _, rfl⟩ := List.mem_map.mp hd
    exact E.ok x) (show 60 + 1 ≤ 64 by decide)
  have h3 := ok_shaped h2
  obtain ⟨h4, _, _⟩ := h2
  rw [D.dat] at h4
  rw [D.pd] at h3
  unfold gInX
  show (if _ then _ else _) = _
  rw [inD_map E]
  exact if_pos ⟨h1.1, h4, ok_shaped h1, h3⟩
end
/-- a tuple of numbers -/
abbrev tI (l : List Int) : D := .tup (l.map D.int)
theorem tI_frz (l : List Int) : (tI l).frz = true := frzL_int l
theorem tI_fz (l : List Int) : (tI l).fz = tI l := by show D.tup (D.fzL _) = _; rw [fzL_int]
theorem emb_tI : Emb tI := emb_tupL emb_int fun _ => ok_int
theorem inX_iT {neg : Bool} {x : Int} {l : List Int} : gInX neg (.int x) (tI l) = some (.bl (if neg = true then !decide (x ∈ l) else decide (x ∈ l))) := inX_mapT emb_int x l
theorem inX_iL {neg o : Bool} {x : Int} {l : List Int} : gInX neg (.int x) (.lst o (l.map D.int)) = some (.bl (if neg = true then !decide (x ∈ l) else decide (x ∈ l))) := inX_map emb_int x l
theorem inX_tL {neg o : Bool} {x : List Int} {l : List (List Int)} : gInX neg (tI x) (.lst o (l.map tI)) = some (.bl (if neg = true then !decide (x ∈ l) else decide (x ∈ l))) := by
  have h := inX_map emb_tI (neg := neg) (o := o) x l
  rw [h]
  exact congrArg (fun b => some (D.bl b)) (by cases neg <;> simp)
theorem inX_s {neg : Bool} {a : D} {z : Str} : gInX neg a (.str z) = gInS neg a (.str z) := rfl
theorem inX_l {neg : Bool} {a : D} {o : Bool} {xs : List D} : gInX neg a (.lst o xs) = gIn neg a (.lst o xs) := rfl
theorem gEq_tI {l m : List Int} : gEq (tI l) (tI m) = some (.bl (decide (l = m))) := gEq_tupE emb_int (fun _ => ok_int) l m
end Mv
end
section
set_option Elab.async false
set_option linter.all false
set_option maxRecDepth 100000
/-! <, >, <=, >= of data (tuples of numbers ..); sorted, min of tuples of numbers. -/
namespace Mv
open PySem PySem.Spec PyProof.Rows L2
def Alk (a b : D) : Prop := a.dat = true ∧ b.dat = true ∧ PySem.W.alike a.pd b.pd = true ∧ a.pd ≠ .none ∧ a.pd.depth ≤ 60
def rLtD (K : Frg) : R2 := fun x y H Q => ∃ d e, Dp K H x d ∧ Dp K H y e ∧ PySem.W.alike d e = true ∧ d ≠ .none ∧ d.depth ≤ 60 ∧ Q (.bl (PySem.W.dataLt d e)) H
theorem op_ltD {X : Cx} (hu : X.A.units + 65 < cLine) : OpR X (compareOp .Lt) (rLtD X.K) := by
  intro pins s σ H x y v u Q I rx ry h
  obtain ⟨d, e, hd, he, hal, hn, hdep, q⟩ := h
  obtain ⟨as, r1⟩ := Dp.reads I d x v hd rx
  obtain ⟨bs, r2⟩ := Dp.reads I e y u he ry
  exact PySem.W.lt_data r1 r2 hal hn (by have := Nat.min_le_left d.depth e.depth; omega) ⟨.bl _, H, I, rfl, q⟩
open Classical in
noncomputable def gLtX : D → D → Option D := fun a b => match a, b with
  | .int i, .int j => some (.bl (decide (i < j)))
  | a, b => if Alk a b then some (.bl (PySem.W.dataLt a.pd b.pd)) else none
def rLtX (K : Frg) : R2 := rOr (rI0 fun i j => .bl (decide (i < j))) (rLtD K)
theorem op_ltXA {X : Cx} (hu : X.A.units + 65 < cLine) : OpR X (compareOp .Lt) (rLtX X.K) := OpR.or op_lt (op_ltD hu)
theorem o2_ltX {K : Frg} : Op2 K (rLtX K) gLtX := by
  intro x y H dx dy l Q d hi mx my hg q
  unfold gLtX at hg
  split at hg
  · exact .inl (o2_lt x y H _ _ l Q d hi mx my hg q)
  · split at hg
    · rename_i c
      cases hg
      exact .inr ⟨_, _, Fz.dp _ _ c.1 (hi.view mx), Fz.dp _ _ c.2.1 (hi.view my), c.2.2.1, c.2.2.2.1, c.2.2.2.2, q _ H (hi.add rfl fun _ _ => rfl)⟩
    · cases hg
theorem vv_ltX {i j : Int} : gLtX (.int i) (.int j) = some (.bl (decide (i < j))) := rfl
def rGtD (K : Frg) : R2 := fun x y H Q => ∃ d e, Dp K H x d ∧ Dp K H y e ∧ PySem.W.alike d e = true ∧ d ≠ .none ∧ d.depth ≤ 60 ∧ Q (.bl (PySem.W.dataLt e d)) H
theorem op_gtD {X : Cx} (hu : X.A.units + 65 < cLine) : OpR X (compareOp .Gt) (rGtD X.K) := by
  intro pins s σ H x y v u Q I rx ry h
  obtain ⟨d, e, hd, he, hal, hn, hdep, q⟩ := h
  obtain ⟨as, r1⟩ := Dp.reads I d x v hd rx
  obtain ⟨bs, r2⟩ := Dp.reads I e y u he ry
  exact PySem.W.gt_data r1 r2 hal hn (by have := Nat.min_le_left d.depth e.depth; omega) ⟨.bl _, H, I, rfl, q⟩
open Classical in
noncomputable def gGtX : D → D → Option D := fun a b => match a, b with
  | .int i, .int j => some (.bl (decide (j < i)))
  | a, b => if Alk a b then some (.bl (PySem.W.dataLt b.pd a.pd)) else none
def rGtX (K : Frg) : R2 := rOr (rI0 fun i j => .bl (decide (j < i))) (rGtD K)
theorem op_gtXA {X : Cx} (hu : X.A.units + 65 < cLine) : OpR X (compareOp .Gt) (rGtX X.K) := OpR.or op_gt (op_gtD hu)
theorem o2_gtX {K : Frg} : Op2 K (rGtX K) gGtX := by
  intro x y H dx dy l Q d hi mx my hg q
  unfold gGtX at hg
  split at hg
  · exact .inl (o2_gt x y H _ _ l Q d hi mx my hg q)
  · split at hg
    · rename_i c
      cases hg
      exact .inr ⟨_, _, Fz.dp _ _ c.1 (hi.view mx), Fz.dp _ _ c.2.1 (hi.view my), c.2.2.1, c.2.2.2.1, c.2.2.2.2, q _ H (hi.add rfl fun _ _ => rfl)⟩
    · cases hg
theorem vv_gtX {i j : Int} : gGtX (.int i) (.int j) = some (.bl (decide (j < i))) := rfl
def rLeD (K : Frg) : R2 := fun x y H Q => ∃ d e, Dp K H x d ∧ Dp K H y e ∧ PySem.W.alike d e = true ∧ d ≠ .none ∧ d.depth ≤ 60 ∧ Q (.bl (!PySem.W.dataLt e d)) H
theorem op_leD {X : Cx} (hu : X.A.units + 65 < cLine) : OpR X (compareOp .LtE) (rLeD X.K) := by
  intro pins s σ H x y v u Q I rx ry h
  obtain ⟨d, e, hd, he, hal, hn, hdep, q⟩ := h
  obtain ⟨as, r1⟩ := Dp.reads I d x v hd rx
  obtain ⟨bs, r2⟩ := Dp.reads I e y u he ry
  exact PySem.W.le_data r1 r2 hal hn (by have := Nat.min_le_left d.depth e.depth; omega) ⟨.bl _, H, I, rfl, q⟩
open Classical in
noncomputable def gLeX : D → D → Option D := fun a b => match a, b with
  | .int i, .int j => some (.bl (decide (i ≤ j)))
  | a, b => if Alk a b then some (.bl (!PySem.W.dataLt b.pd a.pd)) else none
def rLeX (K : Frg) : R2 := rOr (rI0 fun i j => .bl (decide (i ≤ j))) (rLeD K)
theorem op_leXA {X : Cx} (hu : X.A.units + 65 < cLine) : OpR X (compareOp .LtE) (rLeX X.K) := OpR.or op_le (op_leD hu)
theorem o2_leX {K : Frg} : Op2 K (rLeX K) gLeX := by
  intro x y H dx dy l Q d hi mx my hg q
  unfold gLeX at hg
  split at hg
  · exact .inl (o2_le x y H _ _ l Q d hi mx my hg q)
  · split at hg
    · rename_i c
      cases hg
      exact .inr ⟨_, _, Fz.dp _ _ c.1 (hi.view mx), Fz.dp _ _ c.2.1 (hi.view my), c.2.2.1, c.2.2.2.1, c.2.2.2.2, q _ H (hi.add rfl fun _ _ => rfl)⟩
    · cases hg
theorem vv_leX {i j : Int} : gLeX (.int i) (.int j) = some (.bl (decide (i ≤ j))) := rfl
def rGeD (K : Frg) : R2 := fun x y H Q => ∃ d e, Dp K H x d ∧ Dp K H y e ∧ PySem.W.alike d e = true ∧ d ≠ .none ∧ d.depth ≤ 60 ∧ Q (.bl (!PySem.W.dataLt d e)) H
theorem op_geD {X : Cx} (hu : X.A.units + 65 < cLine) : OpR X (compareOp .GtE) (rGeD X.K) := by
  intro pins s σ H x y v u Q I rx ry h
  obtain ⟨d, e, hd, he, hal, hn, hdep, q⟩ := h
  obtain ⟨as, r1⟩ := Dp.reads I d x v hd rx
  obtain ⟨bs, r2⟩ := Dp.reads I e y u he ry
  exact PySem.W.ge_data r1 r2 hal hn (by have := Nat.min_le_left d.depth e.depth; omega) ⟨.bl _, H, I, rfl, q⟩
open Classical in
noncomputable def gGeX : D → D → Option D := fun a b => match a, b with
  | .int i, .int j => some (.bl (decide (j ≤ i)))
  | a, b => if Alk a b then some (.bl (!PySem.W.dataLt a.pd b.pd)) else none
def rGeX (K : Frg) : R2 := rOr (rI0 fun i j => .bl (decide (j ≤ i))) (rGeD K)
theorem op_geXA {X : Cx} (hu : X.A.units + 65 < cLine) : OpR X (compareOp .GtE) (rGeX X.K) := OpR.or op_ge (op_geD hu)
theorem o2_geX {K : Frg} : Op2 K (rGeX K) gGeX := by
  intro x y H dx dy l Q d hi mx my hg q
  unfold gGeX at hg
  split at hg
  · exact .inl (o2_ge x y H _ _ l Q d hi mx my hg q)
  · split at hg
    · rename_i c
      cases hg
      exact .inr ⟨_, _, Fz.dp _ _ c.1 (hi.view mx), Fz.dp _ _ c.2.1 (hi.view my), c.2.2.1, c.2.2.2.1, c.2.2.2.2, q _ H (hi.add rfl fun _ _ => rfl)⟩
    · cases hg
theorem vv_geX {i j : Int} : gGeX (.int i) (.int j) = some (.bl (decide (j ≤ i))) := rfl
theorem pdL_ints : ∀ l : List Int, D.pdL (l.map D.int) = l.map PyData.int
  | [] => by simp [D.pdL]
  | x :: l => by rw [List.map_cons, D.pdL, pdL_ints l, List.map_cons, D.pd]
theorem pd_tI (l : List Int) : (tI l).pd = .tuple (l.map PyData.int) := by rw [D.pd, pdL_ints]
theorem lt_tI (l m : List Int) : PySem.W.dataLt (tI l).pd (tI m).pd = decide (l < m) := by
  rw [pd_tI, pd_tI, PySem.W.dataLt_tuple, ← PySem.W.dataLt_ints]
  rfl
theorem alike_tI (l m : List Int) : PySem.W.alike (tI l).pd (tI m).pd = true := by
  rw [pd_tI, pd_tI]
  simp only [PySem.W.alike]
  exact PySem.W.alikeAll_map (α := Int) l m
theorem dep_tI (l : List Int) : (tI l).pd.depth ≤ 60 := by
  obtain ⟨_, h2, h3⟩ := emb_tI.ok l
  first | exact h2 | exact h3 | omega
theorem dat_tI (l : List Int) : (tI l).dat = true := (emb_tI.ok l).1
theorem alk_tI (l m : List Int) : Alk (tI l) (tI m) := ⟨dat_tI l, dat_tI m, alike_tI l m, (fun h => by rw [pd_tI] at h; cases h), dep_tI l⟩
open Classical in
theorem ltX_tI {l m : List Int} : gLtX (tI l) (tI m) = some (.bl (decide (l < m))) := by
  show (if Alk (tI l) (tI m) then some (D.bl _) else none) = _
  rw [if_pos (alk_tI l m), lt_tI]
open Classical in
theorem gtX_tI {l m : List Int} : gGtX (tI l) (tI m) = some (.bl (decide (m < l))) := by
  show (if Alk (tI l) (tI m) then some (D.bl _) else none) = _
  rw [if_pos (alk_tI l m), lt_tI]
theorem datL_tI : ∀ ls : List (List Int), D.datL (ls.map tI) = true
  | [] => rfl
  | l :: ls => by
    show (D.dat (tI l) && D.datL (ls.map tI)) = true
    rw [dat_tI, datL_tI ls]
    rfl
theorem mem_tI {ls : List (List Int)} {d : PyData} (hd : d ∈ (ls.map tI).map D.pd) : ∃ l ∈ ls, d = (tI l).pd := by
  rw [List.map_map] at hd
  obtain ⟨x, hx, e⟩ := List.mem_map.mp hd
  exact ⟨x, hx, e.symm⟩
theorem ordL_tI (ls : List (List Int)) (h : ∀ l ∈ ls, l ≠ []) : OrdL (ls.map tI) := by
  refine ⟨frz_map tI_frz _, datL_tI ls, ?_, ?_, fun d hd => ?_⟩
  · intro d hd e he
    obtain ⟨x, _, rfl⟩ := mem_tI hd
    obtain ⟨y, _, rfl⟩ := mem_tI he
    exact alike_tI x y
  · refine .inl fun d hd => ?_
    obtain ⟨x, hx, rfl⟩ := mem_tI hd
    rw [pd_tI]
    cases x with
    | nil => exact absurd rfl (h _ hx)
    | cons a x => exact ⟨_, _, rfl⟩
  · obtain ⟨x, _, rfl⟩ := List.mem_map.mp hd
    exact dep_tI x
open Classical in
theorem sorted_tI (o : Bool) (ls : List (List Int)) (h : ∀ l ∈ ls, l ≠ []) : gSorted [.lst o (ls.map tI)] = some (.lst true ((ls.mergeSort fun a b => !decide (b < a)).map tI)) := by
  show (if OrdL (ls.map tI) then some (D.lst true ((ls.map tI).mergeSort leD)) else none) = _
  rw [if_pos (ordL_tI ls h), ← List.map_mergeSort (s := leD) (f := tI) (r := fun a b => !decide (b < a)) (fun a _ b _ => ?_)]
  unfold leD
  rw [PySem.W.dataLe_eq]
  show (!decide (b < a)) = !PySem.W.dataLt (tI b).pd (tI a).pd
  rw [lt_tI]
theorem oneL_tI (ls : List (List Int)) : OneL (ls.map tI) := by
  refine ⟨frz_map tI_frz _, datL_tI ls, ⟨fun d hd e he => ?_, fun d hd => ?_⟩, fun d hd => ?_, fun d hd e he q => ?_⟩
  · obtain ⟨x, _, rfl⟩ := mem_tI hd
    obtain ⟨y, _, rfl⟩ := mem_tI he
    exact alike_tI x y
  · obtain ⟨x, _, rfl⟩ := mem_tI hd
    rw [pd_tI]
    intro h; cases h
  · obtain ⟨x, _, rfl⟩ := List.mem_map.mp hd
    refine ⟨dep_tI x, ?_⟩
    rw [pd_tI]
    exact PySem.W.Datum.plain (PySem.W.Tup.mk x)
  · obtain ⟨x, _, rfl⟩ := List.mem_map.mp hd
    obtain ⟨y, _, rfl⟩ := List.mem_map.mp he
    have h1 := emb_tI.eq x y
    rw [q, emb_tI.eq] at h1
    have : x = y := by simpa using h1.symm
    rw [this]
def minL (a : List Int) (ls : List (List Int)) : List Int := ls.foldl (fun a y => if y < a then y else a) a
open Classical in
theorem minA_tI (o : Bool) (a : List Int) (ls : List (List Int)) : gMinA [.lst o ((a :: ls).map tI)] = some (tI (minL a ls)) := by
  have hp : ∀ (l : List (List Int)) (x : List Int), pickMin (tI x) (l.map tI) = tI (minL x l) := fun l => by
    induction l with
    | nil => intro x; rfl
    | cons y l ih =>
      intro x
      have e : pickMin (tI x) ((y :: l).map tI) = pickMin (if PySem.W.dataLt (tI y).pd (tI x).pd = true then tI y else tI x) (l.map tI) := rfl
      have e2 : minL x (y :: l) = minL (if y < x then y else x) l := rfl
      rw [e, e2, lt_tI, ← ih]
      congr 1
      by_cases c : y < x
      · rw [if_pos c, if_pos (decide_eq_true c)]
      · rw [if_neg c, if_neg (by simpa using c)]
  rw [vv_minA, ints_tups (by simp) (fun d hd => by obtain ⟨x, _, rfl⟩ := List.mem_map.mp hd; exact ⟨_, rfl⟩)]
  show (if OneL ((a :: ls).map tI) then some (pickMin (tI a) (ls.map tI)) else none) = _
  rw [if_pos (oneL_tI _), hp]
theorem gNe_tI (l m : List Int) : gNe (tI l) (tI m) = some (.bl (!decide (l = m))) := by
  rw [gNe_data rfl (ok_mono (emb_tI.ok l) (by decide)) (ok_mono (emb_tI.ok m) (by decide)), emb_tI.eq]
end Mv
end
section
set_option Elab.async false
set_option linter.all false
set_option maxRecDepth 100000
set_option maxHeartbeats 4000000
/-! Sets: a comprehension of a set, sorted at once. -/
namespace Mv
open PySem PySem.Spec PyProof.Rows L2 PpSet
section
variable {X : Cx}
/-- a set by a comprehension, D the new set: what is fresh is F0, what add does is r -/
def tSg (F0 : Addr → HO) (r : V → List V → Hp → VK → Prop) (wi : TI) (g : TG) (tt : TT) (te : TE) (vs : List Nat) : TE := fun σ H Q => wi σ H fun J H1 => ∀ A0, H1 A0 = none →
  ∃ Wv : Nat → Nat → Hp → Prop, (∃ m, Wv 0 m (upd H1 A0 (F0 A0))) ∧ ∀ i m H, Wv i m H →
    (J.stop i H ∧ Q (.ref A0) H) ∨ (J.go i H ∧ ∃ Nz : Hp → Prop, (∀ H', Nz H' → ∃ m', m' < m ∧ Wv (i + 1) m' H') ∧ ∀ x H', J.yld i H x H' → g x (wipe σ vs) H' fun σ2 H2 => wipe σ2 vs = wipe σ vs ∧ tt σ2 H2 fun b H3 =>
      if b = true then te σ2 H3 fun y H4 => r (.ref A0) [y] H4 (fun _ H5 => Nz H5) else Nz H3)
theorem scG_core {F0 : Addr → HO} {r : V → List V → Hp → VK → Prop} (hF0 : ∀ (H : Hp) (h : Heap), ObjOk X.prog X.w H (h.push { cls := .type "set", dict := none, data := .set #[] 0 (.fresh 0 0 (!X.w.params.followText "set-order")) }) h.objs.size (F0 h.objs.size))
    (mt : ∀ (s : Shared) (H : Hp) (sc : Scope) (ce : Env) (fp : List Addr), MtR (X.blk s H sc ce fp) "set.add" r)
    {pins : List (Addr × Obj)} {s : Shared} {σ : L2.St} {H : Hp} {Q : VK} {elt tg iter : Expr} {ifs : List Expr} {scope : Scope} {own : List (PySem.Str × Nat)} {pos pos' : Pos} {wi : TI} {g : TG} {tt : TT} {te : TE} {use : Option (Value → Sem Unit)} {Qf : Value → Shared → Prop}
    (hc : X.calm = true) (hN : X.N.Nodup) (I : Inv X pins σ H s) (hi : PI X tg iter wi) (ok : BlkOk X.N X.env.scope scope own)
    (hg : ∀ (s : Shared) (H : Hp) (C : Addr) (cl : List (PySem.Str × Addr)) (fp : List Addr), PG (X.blk s H scope (compEnvC scope cl C X.env) fp) tg g) (ht : ∀ (s : Shared) (H : Hp) (C : Addr) (cl : List (PySem.Str × Addr)) (fp : List Addr), PTs (X.blk s H scope (compEnvC scope cl C X.env) fp) ifs tt)
    (he : ∀ (s : Shared) (H : Hp) (C : Addr) (cl : List (PySem.Str × Addr)) (fp : List Addr), PE (X.blk s H scope (compEnvC scope cl C X.env) fp) elt te) (hs : ∀ x, foldedSetIterable iter X.env x = pure x)
    (h : tSg F0 r wi g tt te (own.map (·.2)) σ H Q)
    (fin0 : ∀ A0 C s' m H', Inv X pins σ H' s' → Q (.ref A0) H' → s'.heap.Ns C m → FpOk X pins H' C → compPost (model X.prog X.w) X.A X.xe use Qf (.ref A0) C (.ok .next) s') :
    wpAny (model X.prog X.w) X.A (comprehension (.SetComp elt [⟨tg, iter, ifs, 0⟩] scope pos) scope X.env pos' (newSet (.type "set")) false (eval iter X.env) use) Qf X.xe s := by
  have clf : ∀ y ∈ scope.names, y.2 = .free → ∃ c, X.env.cells.lookup y.1 = some c := fun y hy e => by
    rcases ok.free y hy e with k | k
    · exact I.ok.has _ (.inl k)
    · exact I.ok.has _ (.inr k)
  refine wpAny_comprehension_free (use := use) rfl hs (closure_ok clf) ok.kind (fun y hy e => by rw [ok.uniq y hy, e])
    (thn (hi.run pins s σ H _ I h) fun xv t1 hx => thn hx fun iv t2 h2 => ?_)
  obtain ⟨it, fp, tn, J, G2, e, J2, Tk, z2, fo2, q⟩ := h2
  subst e
  refine newSet_ok (newEnv_comp ?_)
  generalize hE : t2.heap.objs.size = A0
  have hEn : G2 A0 = none := J2.hok.fresh (Nat.le_of_eq hE)
  obtain ⟨Wv, ⟨mm, ww⟩, tr⟩ := q A0 hEn
  -- the new list
  generalize es3 : ({ t2 with heap := t2.heap.push { cls := .type "set", dict := none, data := .set #[] 0 (.fresh 0 0 (!X.w.params.followText "set-order")) } } : Shared) = t3
  have J3 : Inv X pins σ (upd G2 A0 (F0 A0)) t3 := by
    rw [← es3]
    refine J2.laid (t' := t2.toks) (fun b o e => Heap.get?_push_of_some _ e) (Nat.le_of_eq hE) ?_
    rw [← hE]
    exact hF0 _ _
  have eh3 : t3.heap = t2.heap.push { cls := .type "set", dict := none, data := .set #[] 0 (.fresh 0 0 (!X.w.params.followText "set-order")) } := by rw [← es3]
  have szb : ∀ b ∈ fp, b < t2.heap.objs.size := fun b hb => by
    obtain ⟨o, e, _⟩ := Tk.obj _ _ z2 b hb
    exact Heap.lt_size e
  have fo3 : ∀ b ∈ fp, FpOk X pins (upd G2 A0 (F0 A0)) b ∧ b < t3.heap.objs.size := fun b hb => by
    have hlt := szb b hb
    refine ⟨⟨?_, (fo2 b hb).2⟩, by rw [eh3, Heap.size_push]; exact Nat.lt_succ_of_lt hlt⟩
    rw [upd_ne (by rw [← hE]; exact Nat.ne_of_lt hlt)]
    exact (fo2 b hb).1
  have z3 : tn 0 t3.heap := Tk.keep _ _ _ z2 fun b _ o e => by rw [eh3]; exact Heap.get?_push_of_some _ e
  have J4 := block_start J3 ok hN fo3
  have pgg := hg t3 (upd G2 A0 (F0 A0)) t3.heap.objs.size (cellsFrom (t3.heap.objs.size + 1) scope.names (cloFrom X.env.cells scope.names [])) fp
  have ptt := ht t3 (upd G2 A0 (F0 A0)) t3.heap.objs.size (cellsFrom (t3.heap.objs.size + 1) scope.names (cloFrom X.env.cells scope.names [])) fp
  have pee := he t3 (upd G2 A0 (F0 A0)) t3.heap.objs.size (cellsFrom (t3.heap.objs.size + 1) scope.names (cloFrom X.env.cells scope.names [])) fp
  show codeAny _ _ (.compStart (.SetComp elt [⟨tg, iter, ifs, 0⟩] scope pos) 0 (.ref it) (.ref A0) (compEnvC scope (cellsFrom (t3.heap.objs.size + 1) scope.names (cloFrom X.env.cells scope.names [])) t3.heap.objs.size X.env)) (compPost (model X.prog X.w) X.A X.xe use Qf (.ref A0) t3.heap.objs.size) { t3 with heap := pushCells (t3.heap.push { cls := .type "dict", data := .dict #[] }) scope.names }
  have nof : ∀ b ∈ fp, (upd G2 A0 (F0 A0)) b = none := fun b hb => (fo3 b hb).1.1
  generalize ece : compEnvC scope (cellsFrom (t3.heap.objs.size + 1) scope.names (cloFrom X.env.cells scope.names [])) t3.heap.objs.size X.env = ce at J4 pgg ptt pee ⊢
  have cl0 : ce.locals = t3.heap.objs.size := by subst ece; rfl
  generalize eG3 : upd G2 A0 (F0 A0) = G3 at J3 J4 pgg ptt pee ww nof fo3
  generalize es4 : ({ t3 with heap := pushCells (t3.heap.push { cls := .type "dict", data := .dict #[] }) scope.names } : Shared) = t4 at J4 ⊢
  have z4 : tn 0 t4.heap := Tk.keep _ _ _ z3 fun b _ o e => by rw [← es4]; exact pushCells_keeps _ _ _ _ (Heap.get?_push_of_some _ e)
  have sta : ∀ {σ' : L2.St} {H' : Hp} {s' : Shared}, Inv (X.blk t3 G3 scope ce fp) [] σ' H' s' → (∀ b ∈ fp, H' b = none) → ∀ b ∈ fp, FpOk (X.blk t3 G3 scope ce fp) [] H' b := fun {σ' H' s'} I' hn b hb =>
    ⟨hn b hb, (I'.ok.exf b hb).1, I'.ok.exfs b hb, .inl hb, fun x c e => (I'.ok.exf b hb).2 x c e, fun p hp => absurd (show p ∈ ([] : List (Addr × Obj)) ++ [] from hp) (by simp)⟩
  have lo0 : codeAny (model X.prog X.w) X.A (.compLoop (.SetComp elt [⟨tg, iter, ifs, 0⟩] scope pos) 0 (.ref it) (.ref A0) ce) (compPost (model X.prog X.w) X.A X.xe use Qf (.ref A0) t3.heap.objs.size) t4 := by
    refine compLoopS_any (fun n s' => ∃ i H', Inv (X.blk t3 G3 scope ce fp) [] (wipe σ (own.map (·.2))) H' s' ∧ tn i s'.heap ∧ (∀ b ∈ fp, H' b = none) ∧ Wv i n H') ?_ mm ⟨0, G3, J4, z4, nof, ww⟩
    rintro n t5 ⟨i, G5, J5, z5, n6, w6⟩
    rcases tr i n G5 w6 with ⟨sp, qq⟩ | ⟨gg, Nz, hnx, sq⟩
    · have tdn := Tk.done (X.blk t3 G3 scope ce fp) rfl rfl rfl hc i [] t5 _ G5 (fun _ _ => False) J5 (sta J5 n6) z5 sp
      refine thnF tdn fun r t6 ⟨hr, J6⟩ => ?_
      subst hr
      -- back in the def's context
      have J7 : Inv X pins σ G5 t6 := J3.call' (ch := fp) J6.os J6.base J6.hok J6.bare fun b hb => ⟨(fo3 b hb).1.2.2.2.1, (fo3 b hb).1.2.1, (fo3 b hb).1.2.2.2.2.1, (fo3 b hb).1.2.2.2.2.2⟩
      have nC : G5 t3.heap.objs.size = none := by
        have z : G5 ce.locals = none := J6.free
        rw [cl0] at z
        exact z
      obtain ⟨m, hn, _⟩ := J6.loc
      have hn : t6.heap.Ns ce.locals m := hn
      rw [cl0] at hn
      exact fin0 A0 t3.heap.objs.size t6 m G5 J7 qq hn (J3.fpOk (Nat.le_refl _) nC)
    · have tit := Tk.item (X.blk t3 G3 scope ce fp) rfl rfl rfl hc i [] t5 _ G5 (fun _ _ => False) J5 (sta J5 n6) z5 gg
      refine thnF tit fun r t6 ⟨u, hr, h6⟩ => ?_
      subst hr
      refine thnF h6 fun _ t7 ⟨x, G7, J7, r8, y8, z7, n8⟩ => ?_
      have J7' := J7.pinned (sta J7 n8) (Tk.obj _ _ z7)
      refine thnF (pgg.run _ t7 _ G7 x u _ J7' r8 (sq x G7 y8)) fun _ t8 ⟨σ8, G8, J8, hw9, k8⟩ => ?_
      refine thnF (ptt.run _ t8 σ8 G8 _ J8 k8) fun b t9 ⟨G9, J9, k9⟩ => ?_
      -- the turn's end
      have fn0 : ∀ {s' : Shared} {H' : Hp}, Inv (X.blk t3 G3 scope ce fp) ([] ++ pinsAt fp t7.heap) σ8 H' s' → Nz H' → ∃ m, m < n ∧ ∃ i H', Inv (X.blk t3 G3 scope ce fp) [] (wipe σ (own.map (·.2))) H' s' ∧ tn i s'.heap ∧ (∀ b ∈ fp, H' b = none) ∧ Wv i m H' := fun {s' H'} I' nz => by
        obtain ⟨m', hm, w'⟩ := hnx H' nz
        have pin' : ∀ b ∈ fp, ∀ o, t7.heap.get? b = some o → s'.heap.get? b = some o ∧ H' b = none := fun b hb o e =>
          let z := I'.pin (b, o) (List.mem_append_right _ (List.mem_append_right _ (mem_pinsAt hb e)))
          ⟨z.1, z.2.1⟩
        have hq : (wipe σ (own.map (·.2))).length = σ8.length := by rw [← hw9, wipe_length]
        refine ⟨m', hm, i + 1, H', (I'.unpinned (pins := [])).weak hq (fun j v e => ?_), Tk.keep _ _ _ z7 fun b hb o e => (pin' b hb o e).1, fun b hb => ?_, w'⟩
        · rw [← hw9] at e
          exact (wipe_some e).1
        · obtain ⟨o, e, _⟩ := Tk.obj _ _ z7 b hb
          exact (pin' b hb o e).2
      cases b with
      | false =>
        simp only [Bool.false_eq_true, if_false] at k9 ⊢
        exact fn0 J9 k9
      | true =>
        simp only [if_true] at k9 ⊢
        refine thnF (pee.run _ t9 σ8 G9 _ J9 k9) fun z t10 ⟨yv, G10, J10, r10, kk⟩ => ?_
        exact thnF (mt t3 G3 scope ce fp _ t10 σ8 G10 (.ref A0) [yv] (.ref A0) [z] _ J10 rfl (.cons r10 .nil) kk) fun _ t11 ⟨_, G11, J11, _, nz⟩ => fn0 J11 nz
  exact codeAny_compStart_set lo0 (Tk.self X.A 0 _ _ _ z4 lo0)
theorem pe_sg {F0 : Addr → HO} {r : V → List V → Hp → VK → Prop} (hF0 : ∀ (H : Hp) (h : Heap), ObjOk X.prog X.w H (h.push { cls := .type "set", dict := none, data := .set #[] 0 (.fresh 0 0 (!X.w.params.followText "set-order")) }) h.objs.size (F0 h.objs.size))
    (mt : ∀ (s : Shared) (H : Hp) (sc : Scope) (ce : Env) (fp : List Addr), MtR (X.blk s H sc ce fp) "set.add" r)
    {elt tg iter : Expr} {ifs : List Expr} {scope : Scope} {own : List (Str × Nat)} {pos : Pos} {wi : TI} {g : TG} {tt : TT} {te : TE} (hc : X.calm = true) (hN : X.N.Nodup) (hi : PI X tg iter wi) (ok : BlkOk X.N X.env.scope scope own)
    (hg : ∀ (s : Shared) (H : Hp) (A : Addr) (cl : List (Str × Addr)) (fp : List Addr), PG (X.blk s H scope (compEnvC scope cl A X.env) fp) tg g) (ht : ∀ (s : Shared) (H : Hp) (A : Addr) (cl : List (Str × Addr)) (fp : List Addr), PTs (X.blk s H scope (compEnvC scope cl A X.env) fp) ifs tt)
    (he : ∀ (s : Shared) (H : Hp) (A : Addr) (cl : List (Str × Addr)) (fp : List Addr), PE (X.blk s H scope (compEnvC scope cl A X.env) fp) elt te) (hs : ∀ x, foldedSetIterable iter X.env x = pure x) :
    PE X (.SetComp elt [⟨tg, iter, ifs, 0⟩] scope pos) (tSg F0 r wi g tt te (own.map (·.2))) := ⟨fun pins s σ H Q I h => by
  rw [eval_SetComp]
  exact scG_core hF0 mt hc hN I hi ok hg ht he hs h fun A0 C s' m H' I' q hn ⟨f0, f1, f2, f3, f4, f5⟩ => ⟨m, hn, fun h'' sb => ⟨.ref A0, H', I'.turned (t' := s'.toks) (fun b o hb e => (sb.2 b hb).trans e) f0 f1 f3 f4 f5, rfl, q⟩⟩⟩
end
/-! ### a thing of its own, held -/
section
variable {K : Frg} {H : Hp} {l : List Itm} {v : V} {a : Addr} {f g : Addr → HO}
theorem Items.obj_at {E : List Addr} (h : Items K E H ((some v, .obj f) :: l)) : ∃ a, v = .ref a ∧ H a = some (f a) := by
  obtain ⟨G, fp, e, ⟨f1, f2, ⟨a, ev, ha, _⟩, _, _⟩, _, _⟩ := h
  exact ⟨a, ev, ha⟩
theorem Items.obj_set (h : Items K [] H ((some (.ref a), .obj f) :: l)) : Items K [] (upd H a (g a)) ((some (.ref a), .obj g) :: l) := by
  obtain ⟨G, fp, e, ⟨f1, f2, ⟨a', ev, ha, ef⟩, h2, ef2⟩, nd, hn⟩ := h
  cases ev
  subst ef ef2
  have ga : G a = none := hn a (by simp)
  have hnd : a ∉ f2 := fun z => by
    have : (a :: f2).Nodup := nd
    exact (List.nodup_cons.mp this).1 z
  refine ⟨G, [a] ++ f2, fun b o hb => ?_, ⟨[a], f2, ⟨a, rfl, upd_same, rfl⟩, h2.mono (Same.refl G) (fun b hb => upd_ne fun z => hnd (z ▸ hb)), rfl⟩, nd, hn⟩
  rw [upd_ne (ne_of_none hb ga)]
  exact e b o hb
theorem Items.obj_new (h : Items K [] H l) (ha : H a = none) : Items K [] (upd H a (f a)) ((some (.ref a), .obj f) :: l) := by
  obtain ⟨G, fp, e, ho, nd, hn⟩ := h
  have ga : G a = none := e.free ha
  have hnd : a ∉ fp := fun z => by
    obtain ⟨o, q⟩ := ho.there a z
    rw [ha] at q; cases q
  refine ⟨G, [a] ++ fp, fun b o hb => ?_, ⟨[a], fp, ⟨a, rfl, upd_same, rfl⟩, ho.mono (Same.refl G) (fun b hb => upd_ne fun z => hnd (z ▸ hb)), rfl⟩, ?_, ?_⟩
  · rw [upd_ne (ne_of_none hb ga)]
    exact e b o hb
  · exact List.nodup_cons.mpr ⟨hnd, nd⟩
  · intro b hb
    rcases List.mem_cons.mp (show b ∈ a :: fp from hb) with rfl | hb
    · exact ga
    · exact hn b hb
end
/-! ### sorted({..}) of numbers -/
def dd (ns : List Int) : List Int := ns.foldl (fun a x => if x ∈ a then a else a ++ [x]) []
theorem dd_snoc (ns : List Int) (x : Int) : dd (ns ++ [x]) = if x ∈ dd ns then dd ns else dd ns ++ [x] := by
  unfold dd
  rw [List.foldl_append]
  rfl
theorem mem_ddf : ∀ (l a : List Int) (y : Int), y ∈ l.foldl (fun a x => if x ∈ a then a else a ++ [x]) a ↔ y ∈ a ∨ y ∈ l
  | [], a, y => by simp
  | x :: l, a, y => by
    rw [List.foldl_cons, mem_ddf l]
    split
    · rename_i h
      rw [List.mem_cons]
      exact ⟨fun z => z.elim .inl fun z => .inr (.inr z), fun z => z.elim .inl fun z => z.elim (fun z => .inl (z ▸ h)) .inr⟩
    · rw [List.mem_append, List.mem_singleton, List.mem_cons, or_assoc]
theorem mem_dd (ns : List Int) (y : Int) : y ∈ dd ns ↔ y ∈ ns := by
  unfold dd
  rw [mem_ddf]
  simp
theorem dd_ndf : ∀ (l a : List Int), a.Nodup → (l.foldl (fun a x => if x ∈ a then a else a ++ [x]) a).Nodup ∧ a.length ≤ (l.foldl (fun a x => if x ∈ a then a else a ++ [x]) a).length
  | [], a, h => ⟨h, Nat.le_refl _⟩
  | x :: l, a, h => by
    rw [List.foldl_cons]
    split
    · exact dd_ndf l a h
    · rename_i hx
      obtain ⟨h1, h2⟩ := dd_ndf l (a ++ [x]) (List.nodup_append.mpr ⟨h, by simp, fun y hy z hz e => by rw [List.mem_singleton.mp hz] at e; exact hx (e ▸ hy)⟩)
      rw [List.length_append] at h2
      exact ⟨h1, by show a.length ≤ _; simp only [List.length_singleton] at h2; omega⟩
theorem dd_nd (ns : List Int) : (dd ns).Nodup := (dd_ndf ns [] .nil).1
theorem dd_le (ns ms : List Int) : (dd ns).length ≤ (dd (ns ++ ms)).length := by
  unfold dd
  rw [List.foldl_append]
  exact (dd_ndf ms _ (dd_ndf ns [] .nil).1).2
/-- the numbers, each once, ascending -/
def sdd (ns : List Int) : List Int := (dd ns).mergeSort fun x y => !decide (y < x)
theorem sdd_pw (ns : List Int) : (sdd ns).Pairwise (· < ·) := by
  have hp := List.mergeSort_perm (dd ns) fun x y : Int => !decide (y < x)
  have h1 : (sdd ns).Pairwise fun x y => (!decide (y < x)) = true := List.pairwise_mergeSort (fun a b c h1 h2 => by simp at *; omega) (fun a b => by simp; omega) _
  have h2 : (sdd ns).Nodup := hp.nodup_iff.mpr (dd_nd ns)
  exact (List.Pairwise.and h1 h2).imp fun {a b} h => by
    have h4 := h.1
    have h5 := h.2
    simp at h4
    omega
theorem mem_sdd {ns : List Int} {x : Int} : x ∈ sdd ns ↔ x ∈ ns := by
  unfold sdd
  rw [(List.mergeSort_perm _ _).mem_iff, mem_dd]
theorem sdd_len (ns : List Int) : (sdd ns).length = (dd ns).length := List.length_mergeSort _
def gSortSet : D → Option D := fun d => match d with
  | .lst _ xs => (ints? xs).bind fun ns => if (dd ns).length < 64 then some (.lst true ((sdd ns).map D.int)) else none
  | _ => none
noncomputable def eSortSet (vs : List Nat) (fi : Ev → Option (Src × Ev)) (g : D → Ev → Option Ev) (test : Ev → Option (Bool × Ev)) (elt : Ev → Option (D × Ev)) : Ev → Option (D × Ev) := fun ρ => (eLc vs fi g test elt ρ).bind fun p => (gSortSet p.1).map fun d => (d, p.2)
theorem ints_app : ∀ {xs ys : List D} {ns : List Int}, ints? (xs ++ ys) = some ns → ∃ n1 n2, ints? xs = some n1 ∧ ints? ys = some n2 ∧ ns = n1 ++ n2
  | [], ys, ns, h => ⟨[], ns, rfl, h, rfl⟩
  | x :: xs, ys, ns, h => by
    cases x with
    | int i =>
      have h : (ints? (xs ++ ys)).map (i :: ·) = some ns := h
      obtain ⟨m, e, rfl⟩ := Option.map_eq_some_iff.mp h
      obtain ⟨n1, n2, h1, h2, rfl⟩ := ints_app e
      exact ⟨i :: n1, n2, by show (ints? xs).map (i :: ·) = _; rw [h1]; rfl, h2, rfl⟩
    | _ => cases h
theorem lp_grow {vs : List Nat} {it : Src} {g : D → Ev → Option Ev} {test : Ev → Option (Bool × Ev)} {fe : Ev → Option (D × Ev)} : ∀ {m k : Nat} {acc : List D} {ρ ρ' : Ev} {r : D}, lp (cStep vs it g test fe) m k (acc, ρ) = some (r, ρ') → ∃ t, r = .lst true (acc ++ t)
  | 0, _, _, _, _, _, h => by cases h
  | m + 1, k, acc, ρ, ρ', r, h => by
    obtain ⟨s, e3, e4⟩ := Option.bind_eq_some_iff.mp h
    obtain ⟨x, e5, e6⟩ := Option.bind_eq_some_iff.mp e3
    cases x with
    | none =>
      cases e6
      cases e4
      exact ⟨[], by rw [List.append_nil]⟩
    | some d =>
      obtain ⟨ρ2, e7, e8⟩ := Option.bind_eq_some_iff.mp e6
      obtain ⟨⟨b, ρ3⟩, e9, e10⟩ := Option.bind_eq_some_iff.mp e8
      cases b with
      | false =>
        rw [if_neg Bool.false_ne_true] at e10
        cases e10
        exact lp_grow e4
      | true =>
        rw [if_pos rfl] at e10
        obtain ⟨⟨y, ρ4⟩, e11, e12⟩ := Option.bind_eq_some_iff.mp e10
        replace e12 : (if acc.length < 16777216 then some (Sum.inl (acc ++ [y], unw ρ vs ρ4)) else none) = some s := e12
        split at e12
        · cases e12
          obtain ⟨t, e⟩ := lp_grow e4
          exact ⟨[y] ++ t, by rw [e, List.append_assoc]⟩
        · cases e12
def setS (w : World) (ns : List Int) : Addr → HO := fun a => SetO w a (fun j => decide (j ∈ ns)) (dd ns).length
theorem setS_snoc (w : World) (ns : List Int) (k : Int) (a : Addr) : SetO w a (fun j => decide (j ∈ ns) || decide (j = k)) (if decide (k ∈ ns) = true then (dd ns).length else (dd ns).length + 1) = setS w (ns ++ [k]) a := by
  unfold setS
  have e1 : (fun j => decide (j ∈ ns) || decide (j = k)) = fun j => decide (j ∈ ns ++ [k]) := by
    funext j
    rw [Bool.eq_iff_iff, Bool.or_eq_true, decide_eq_true_eq, decide_eq_true_eq, decide_eq_true_eq, List.mem_append, List.mem_singleton]
  have e2 : (if decide (k ∈ ns) = true then (dd ns).length else (dd ns).length + 1) = (dd (ns ++ [k])).length := by
    rw [dd_snoc]
    by_cases h : k ∈ ns
    · rw [if_pos (decide_eq_true h), if_pos ((mem_dd ns k).mpr h)]
    · rw [if_neg (by simpa using h), if_neg (fun z => h ((mem_dd ns k).mp z)), List.length_append]
      rfl
  rw [e1, e2]
section
variable {X : Cx} {C : List Nat}
theorem scl_ok {fi : Ev → Option (Src × Ev)} {g : D → Ev → Option Ev} {test : Ev → Option (Bool × Ev)} {fe : Ev → Option (D × Ev)} {Cb : List Nat} {vs : List Nat} {n : Nat} {wi : TI}
    (hn : X.N.length = n) (nd : vs.Nodup) (hv : ∀ v ∈ vs, v < n) (hCb : ∀ i, i < n → i ∉ vs → i ∈ Cb)
    (ki : ∀ (σ : Sl) (H : Hp) (ρ : Ev) (l : List Itm) (R : It → Hp → Prop) (it : Src) (ρ' : Ev), σ.length = ρ.length → Items X.K [] H (σ.zip ρ ++ l) → fi ρ = some (it, ρ') →
      (∀ J H' held, ρ'.length = ρ.length → Items X.K [] H' (σ.zip ρ' ++ (held ++ l)) → ItOk X C σ held J it → R J H') → wi σ H R)
    (σ : Sl) (H : Hp) (ρ : Ev) (l : List Itm) (Q : VK) (o : Bool) (ds : List D) (ns : List Int) (ρ' : Ev) (hσ : σ.length = n) (hl : σ.length = ρ.length) (hI : Items X.K [] H (σ.zip ρ ++ l)) (hf : eLc vs fi g test fe ρ = some (.lst o ds, ρ')) (hns : ints? ds = some ns) (h64 : (dd ns).length < 64)
    (q : ∀ A H', ρ'.length = ρ.length → Items X.K [] H' ((some (.ref A), .obj (setS X.w ns)) :: (σ.zip ρ' ++ l)) → Q (.ref A) H') : tSg (setS X.w []) (rSAdd X.w) wi (canG X.K Cb g) (canT X.K test) (canE X.K fe) vs σ H Q := by
  obtain ⟨⟨it, ρ0⟩, e1, hf⟩ := Option.bind_eq_some_iff.mp hf
  obtain ⟨n0, hf⟩ := lrun_iff.mp hf
  refine ki σ H ρ l _ it ρ0 hl hI e1 fun J H1 held l1 i1 ok A hA => ?_
  refine ⟨fun k m H2 => ∃ acc na ρ1, ρ1.length = σ.length ∧ ints? acc = some na ∧ Items X.K [] H2 ((some (.ref A), .obj (setS X.w na)) :: (σ.zip ρ1 ++ (held ++ l))) ∧ lp (cStep vs it g test fe) m k (acc, ρ1) = some (.lst o ds, ρ'), ⟨n0, [], [], ρ0, by omega, rfl, i1.obj_new hA, hf⟩, ?_⟩
  rintro k m H2 ⟨acc, na, ρ1, h2, hna, i2, e2⟩
  have i2' : Items X.K [] H2 (σ.zip ρ1 ++ (held ++ ((some (.ref A), .obj (setS X.w na)) :: l))) := i2.perm (by
    refine List.Perm.trans List.perm_middle.symm ?_
    exact List.Perm.append_left _ List.perm_middle.symm)
  obtain ⟨ks, kn⟩ := ok k σ ρ1 H2 _ Agr.refl rfl h2 i2'
  have e2w := e2
  cases m with
  | zero => cases e2
  | succ m =>
    obtain ⟨s, e3, e4⟩ := Option.bind_eq_some_iff.mp e2
    obtain ⟨x, e5, e6⟩ := Option.bind_eq_some_iff.mp e3
    cases x with
    | none =>
      cases e6
      cases e4
      rw [hns] at hna
      cases hna
      exact .inl ⟨ks e5, q A H2 (by show ρ1.length = _; omega) (i2.sub ⟨held, (List.Perm.cons _ perm_mid).trans List.perm_middle.symm⟩)⟩
    | some d =>
      obtain ⟨kg1, ky⟩ := kn d e5
      obtain ⟨ρ2, e7, e8⟩ := Option.bind_eq_some_iff.mp e6
      obtain ⟨⟨b, ρ3⟩, e9, e10⟩ := Option.bind_eq_some_iff.mp e8
      refine .inr ⟨kg1, fun H' => ∃ acc' na' ρ4, s = .inl (acc', ρ4) ∧ ints? acc' = some na' ∧ ρ4.length = σ.length ∧ Items X.K [] H' ((some (.ref A), .obj (setS X.w na')) :: (σ.zip ρ4 ++ (held ++ l))), ?_, ?_⟩
      · rintro H' ⟨acc', na', ρ4, es, hna', b1, i3⟩
        subst es
        exact ⟨m, Nat.lt_succ_self m, acc', na', ρ4, b1, hna', i3, e4⟩
      · intro x H3 hy
        have i3 := ky x H3 hy
        have i4 : Items X.K [] H3 (σ.zip ρ1 ++ ((some x, d) :: (held ++ ((some (.ref A), .obj (setS X.w na)) :: l)))) := i3.perm List.perm_middle.symm
        have i5 := wipe_items (vs := vs) (by omega) nd (fun v hv' => by rw [hσ]; exact hv v hv') i4
        have i6 : Items X.K [] H3 ((some x, d) :: ((wipe σ vs).zip (wipeD ρ1 vs) ++ (hold σ ρ1 vs ++ (held ++ ((some (.ref A), .obj (setS X.w na)) :: l))))) := i5.perm (by
          refine List.Perm.trans (List.Perm.append_left _ List.perm_middle) ?_
          exact List.perm_middle)
        refine ⟨d, _, _, ρ2, by rw [wipe_length, wipeD_len]; omega, i6, e7, fun σ3 H4 m1 m2 ag i7 => ?_⟩
        rw [wipe_length] at m1 m2
        have same : ∀ i, i ∉ vs → σ3[i]? = σ[i]? := fun i hi => by
          by_cases hin : i < n
          · rw [ag i (hCb i hin hi), wipe_get σ hi]
          · rw [List.getElem?_eq_none (by omega), List.getElem?_eq_none (by omega)]
        refine ⟨wipe_same (by omega) same |>.trans ?_, ?_⟩
        · rfl
        · have back : ∀ (ρ5 : Ev) (H5 : Hp) (l' : List Itm), ρ5.length = σ.length → Items X.K [] H5 (σ3.zip ρ5 ++ (hold σ ρ1 vs ++ l')) → Items X.K [] H5 (σ.zip (unw ρ1 vs ρ5) ++ l') := fun ρ5 H5 l' hl5 hi5 => by
            have := unwipe_items (σ := σ) (ρ := ρ1) (vs := vs) (by omega) (fun v hv' => by rw [m1, hσ]; exact hv v hv') hi5
            rw [unwS_eq (by omega) same] at this
            exact this
          refine ⟨ρ2, _, b, ρ3, by omega, i7, e9, fun H5 m3 i8 => ?_⟩
          cases b with
          | false =>
            rw [if_neg Bool.false_ne_true] at e10
            rw [if_neg Bool.false_ne_true]
            cases e10
            refine ⟨acc, na, _, rfl, hna, by rw [unw_len]; show ρ3.length = _; omega, ?_⟩
            have i9 := back ρ3 H5 _ (by omega) i8
            exact i9.perm (by
              refine List.Perm.trans (List.Perm.append_left _ List.perm_middle) ?_
              exact List.perm_middle)
          | true =>
            rw [if_pos rfl] at e10
            rw [if_pos rfl]
            obtain ⟨⟨y, ρ4⟩, e11, e12⟩ := Option.bind_eq_some_iff.mp e10
            replace e12 : (if acc.length < 16777216 then some (Sum.inl (acc ++ [y], unw ρ1 vs ρ4)) else none) = some s := e12
            split at e12
            · rename_i hz
              cases e12
              obtain ⟨tl, et⟩ := lp_grow e4
              cases et
              obtain ⟨n1, n2, hn1, hn2, en⟩ := ints_app hns
              obtain ⟨n3, n4, hn3, hn4, en1⟩ := ints_app hn1
              rw [hna] at hn3
              cases hn3
              have hy4 : ∃ kk, y = .int kk ∧ n4 = [kk] := by
                cases y with
                | int kk => cases hn4; exact ⟨kk, rfl, rfl⟩
                | _ => cases hn4
              obtain ⟨kk, rfl, rfl⟩ := hy4
              refine ⟨ρ3, _, .int kk, ρ4, by omega, i8, e11, fun v H6 m4 i9 => ?_⟩
              have hvi : v = .int kk := i9.view List.mem_cons_self
              subst hvi
              have i10 : Items X.K [] H6 (σ3.zip ρ4 ++ (hold σ ρ1 vs ++ (held ++ ((some (.ref A), .obj (setS X.w na)) :: l)))) := i9.tail
              have i11 := back ρ4 H6 _ (by omega) i10
              have i12 : Items X.K [] H6 ((some (.ref A), .obj (setS X.w na)) :: (σ.zip (unw ρ1 vs ρ4) ++ (held ++ l))) := i11.perm (by
                refine List.Perm.trans (List.Perm.append_left _ List.perm_middle) ?_
                exact List.perm_middle)
              obtain ⟨A', eA, hA'⟩ := i12.obj_at
              cases eA
              have hroom : (dd na).length ≤ (dd ns).length := by
                rw [en, en1, List.append_assoc]
                exact dd_le na _
              refine ⟨A, kk, _, _, rfl, rfl, hA', by show (dd na).length + 1 < 4096; omega, acc ++ [.int kk], na ++ [kk], _, rfl, by rw [← en1]; exact hn1, by rw [unw_len]; omega, ?_⟩
              rw [setS_snoc]
              exact i12.obj_set (g := setS X.w (na ++ [kk]))
            · cases e12
theorem setS_fresh (w : World) (P : Program) (H : Hp) (h : Heap) : ObjOk P w H (h.push { cls := .type "set", dict := none, data := .set #[] 0 (.fresh 0 0 (!w.params.followText "set-order")) }) h.objs.size (setS w [] h.objs.size) := by
  have e : setS w [] h.objs.size = SetO w h.objs.size (fun _ => false) 0 := by
    unfold setS
    congr 1
  rw [e]
  exact setO_new (setR_fresh w)
theorem de_sortSet {x : Str} {p pos2 : Pos} {elt tg iter : Expr} {ifs : List Expr} {scope : Scope} {own : List (Str × Nat)} {pos : Pos} {fi : Ev → Option (Src × Ev)} {g : D → Ev → Option Ev} {test : Ev → Option (Bool × Ev)} {fe : Ev → Option (D × Ev)} (C Cb : List Nat) (n : Nat)
    (hc : X.calm = true) (hN : X.N.Nodup) (hn : X.N.length = n) (hi : DI X C tg iter fi) (ok : BlkOk X.N X.env.scope scope own)
    (hg : ∀ (s : Shared) (H : Hp) (A : Addr) (cl : List (Str × Addr)) (fp : List Addr), DG (X.blk s H scope (compEnvC scope cl A X.env) fp) Cb tg g)
    (ht : ∀ (s : Shared) (H : Hp) (A : Addr) (cl : List (Str × Addr)) (fp : List Addr), DTs (X.blk s H scope (compEnvC scope cl A X.env) fp) ifs test)
    (he : ∀ (s : Shared) (H : Hp) (A : Addr) (cl : List (Str × Addr)) (fp : List Addr), DE (X.blk s H scope (compEnvC scope cl A X.env) fp) elt fe)
    (hgl : Gl X x) (hm : X.mg x = none) (hvb : bootBuiltins x = some (.builtin "sorted"))
    (nd : (own.map (·.2)).Nodup := by decide) (hv : ∀ v ∈ own.map (·.2), v < n := by decide) (hCb : ∀ i, i < n → i ∉ own.map (·.2) → i ∈ Cb := by decide)
    (hs : ∀ x, foldedSetIterable iter X.env x = pure x := by intro _; rfl)
    (hnn : x ≠ "__name__" := by decide) (hdb : (x == ("__debug__" : Str)) = false := by decide)
    (hst : starEach [.SetComp elt [⟨tg, iter, ifs, 0⟩] scope pos] X.env = (false, eval (.SetComp elt [⟨tg, iter, ifs, 0⟩] scope pos) X.env) :: starEach [] X.env := by rfl) (hpl : (backTo pos2 (starEach [] X.env)).any (·.1) = false := by rfl) :
    DE X (.Call (.Name x p) [.SetComp elt [⟨tg, iter, ifs, 0⟩] scope pos] [] pos2) (eSortSet (own.map (·.2)) fi g test fe) := by
  obtain ⟨ti, pi, ki⟩ := hi.ex
  have h0 := pe_sg (F0 := setS X.w []) (r := rSAdd X.w) (fun H h => setS_fresh X.w X.prog H h) (fun s H sc ce fp => mt_sadd (X := X.blk s H sc ce fp)) (te := canE X.K fe) (tt := canT X.K test) (g := canG X.K Cb g) hc hN pi ok (fun s H A cl fp => (hg s H A cl fp).can) (fun s H A cl fp => (ht s H A cl fp).can) (fun s H A cl fp => (he s H A cl fp).can) (pos := pos) hs
  refine ⟨_, pe_callB (cr_sortedSet hc) hgl hm hvb (pa_cons (PE.len h0) pa_nil) hnn hdb hst hpl, fun σ H ρ l Q r ρ' h2 h3 h4 h5 h1 => ?_⟩
  obtain ⟨⟨d, ρ1⟩, e1, h4⟩ := Option.bind_eq_some_iff.mp h4
  obtain ⟨d2, e2, h4⟩ := Option.map_eq_some_iff.mp h4
  cases h4
  cases d with
  | lst o ds =>
    have e2 : ((ints? ds).bind fun ns => if (dd ns).length < 64 then some (D.lst true ((sdd ns).map D.int)) else none) = some r := e2
    obtain ⟨ns, e3, e2⟩ := Option.bind_eq_some_iff.mp e2
    split at e2
    · rename_i h64
      cases e2
      refine scl_ok hn nd hv hCb ki σ H ρ l _ o ds ns ρ1 (by omega) h2 h3 e1 e3 h64 fun A H' l1 i1 => ?_
      obtain ⟨A', eA, hA⟩ := i1.obj_at
      cases eA
      refine ⟨A, _, _, rfl, hA, h64, fun ms p pw hm hl hp => ?_⟩
      have em : ms = sdd ns := pw_ext (R := fun a b : Int => a < b) (fun a b h1 h2 => by omega) pw (sdd_pw ns) fun z => by
        rw [hm z, decide_eq_true_eq, mem_sdd]
      subst em
      exact h5 _ _ l1 (Items.new hp (by rw [List.length_map, List.length_map]) (prs_ints i1.tail _) (fun b hb => by cases hb))
    · cases e2
  | _ => cases e2
theorem W_eSortSet {vs : List Nat} {fi : Ev → Option (Src × Ev)} {g : D → Ev → Option Ev} {test : Ev → Option (Bool × Ev)} {elt : Ev → Option (D × Ev)} {x0 : D} {ρ : Ev} {Q : D × Ev → Prop} : W (eSortSet vs fi g test elt (x0 :: ρ)) Q = W (eLc vs fi g test elt (x0 :: ρ)) fun p => W (gSortSet p.1) fun d => Q (d, p.2) := by
  unfold eSortSet
  rw [W_bind]
  congr 1
  funext p
  rw [W_map]
theorem vv_sortSet {o : Bool} {ns : List Int} (h : (dd ns).length < 64) : gSortSet (.lst o (ns.map D.int)) = some (.lst true ((sdd ns).map D.int)) := by
  show ((ints? (ns.map D.int)).bind fun ns => if (dd ns).length < 64 then some (D.lst true ((sdd ns).map D.int)) else none) = _
  rw [intsD_map, Option.bind_some, if_pos h]
theorem dd_lt {ns : List Int} {n : Nat} (h : ns.length < n) : (dd ns).length < n := by
  have hs : ∀ l R : List Int, l.Nodup → (∀ x ∈ l, x ∈ R) → l.length ≤ R.length := by
    intro l
    induction l with
    | nil => intro R _ _; exact Nat.zero_le _
    | cons a l ih =>
      intro R hn hs
      have ha := hs a List.mem_cons_self
      have h1 := List.nodup_cons.mp hn
      have := ih (R.erase a) h1.2 fun x hx => (List.mem_erase_of_ne fun (e : x = a) => h1.1 (e ▸ hx)).mpr (hs x (List.mem_cons_of_mem _ hx))
      rw [List.length_erase_of_mem ha] at this
      have hp := List.length_pos_of_mem ha
      rw [List.length_cons]
      omega
  have := hs (dd ns) ns (dd_nd ns) fun x hx => (mem_dd ns x).mp hx
  omega
end
end Mv
end
section
set_option Elab.async false
set_option linter.all false
set_option maxRecDepth 100000
set_option maxHeartbeats 4000000
namespace Lk60
open PySem PySem.Spec PyProof.Rows L2 Mv
def topS (i : Nat) : Stmt := PySem.Challenge.pw_museumlands_k60_whole_questions.main.body.getD i (.Pass ⟨0, 0, 0, 0⟩)
abbrev s_found_by : Stmt := topS 1
theorem sc_found_by : FnScope ["things", "question", "thing", "words", "first", "second"] ["things", "question"] (defScope s_found_by) := ⟨rfl, rfl, rfl, by decide +kernel, rfl, by decide +kernel, by decide +kernel⟩
abbrev s_text_of : Stmt := topS 2
theorem sc_text_of : FnScope ["question"] ["question"] (defScope s_text_of) := ⟨rfl, rfl, rfl, by decide +kernel, rfl, by decide +kernel, by decide +kernel⟩
abbrev s_same_answers : Stmt := topS 3
theorem sc_same_answers : FnScope ["things", "one", "other"] ["things", "one", "other"] (defScope s_same_answers) := ⟨rfl, rfl, rfl, by decide +kernel, rfl, by decide +kernel, by decide +kernel⟩
abbrev s_turned_in : Stmt := topS 4
theorem sc_turned_in : FnScope ["question", "inner", "sign"] ["question"] (defScope s_turned_in) := ⟨rfl, rfl, rfl, by decide +kernel, rfl, by decide +kernel, by decide +kernel⟩
abbrev s_law_cell : Stmt := topS 6
theorem sc_law_cell : FnScope ["script", "k"] ["script", "k"] (defScope s_law_cell) := ⟨rfl, rfl, rfl, by decide +kernel, rfl, by decide +kernel, by decide +kernel⟩
abbrev s_law_digits : Stmt := topS 7
theorem sc_law_digits : FnScope ["script", "first", "last", "digits", "k", "cell", "lap", "seed"] ["script", "first", "last"] (defScope s_law_digits) := ⟨rfl, rfl, rfl, by decide +kernel, rfl, by decide +kernel, by decide +kernel⟩
abbrev s_law_draw : Stmt := topS 8
theorem sc_law_draw : FnScope ["box", "many"] ["box", "many"] (defScope s_law_draw) := ⟨rfl, rfl, rfl, by decide +kernel, rfl, by decide +kernel, by decide +kernel⟩
abbrev s_law_pick : Stmt := topS 9
theorem sc_law_pick : FnScope ["box", "lot"] ["box", "lot"] (defScope s_law_pick) := ⟨rfl, rfl, rfl, by decide +kernel, rfl, by decide +kernel, by decide +kernel⟩
abbrev s_law_same : Stmt := topS 10
theorem sc_law_same : FnScope ["told", "due", "k"] ["told", "due"] (defScope s_law_same) := ⟨rfl, rfl, rfl, by decide +kernel, rfl, by decide +kernel, by decide +kernel⟩
abbrev s_law_mixed : Stmt := topS 11
theorem sc_law_mixed : FnScope ["box", "lot", "left", "found", "lap"] ["box", "lot"] (defScope s_law_mixed) := ⟨rfl, rfl, rfl, by decide +kernel, rfl, by decide +kernel, by decide +kernel⟩
abbrev s_law_words : Stmt := topS 12
theorem sc_law_words : FnScope ["box", "many", "signs", "found", "lap", "word", "k", "again"] ["box", "many", "signs"] (defScope s_law_words) := ⟨rfl, rfl, rfl, by decide +kernel, rfl, by decide +kernel, by decide +kernel⟩
abbrev s_law_question : Stmt := topS 13
theorem sc_law_question : FnScope ["box", "texts", "deep", "how"] ["box", "texts", "deep"] (defScope s_law_question) := ⟨rfl, rfl, rfl, by decide +kernel, rfl, by decide +kernel, by decide +kernel⟩
abbrev s_law_fits : Stmt := topS 14
theorem sc_law_fits : FnScope ["words_there", "question"] ["words_there", "question"] (defScope s_law_fits) := ⟨rfl, rfl, rfl, by decide +kernel, rfl, by decide +kernel, by decide +kernel⟩
abbrev s_law_found : Stmt := topS 15
theorem sc_law_found : FnScope ["stock", "question", "k"] ["stock", "question"] (defScope s_law_found) := ⟨rfl, rfl, rfl, by decide +kernel, rfl, by decide +kernel, by decide +kernel⟩
abbrev s_law_text : Stmt := topS 16
theorem sc_law_text : FnScope ["question"] ["question"] (defScope s_law_text) := ⟨rfl, rfl, rfl, by decide +kernel, rfl, by decide +kernel, by decide +kernel⟩
abbrev s_law_turned : Stmt := topS 17
theorem sc_law_turned : FnScope ["question", "right", "sign"] ["question", "right"] (defScope s_law_turned) := ⟨rfl, rfl, rfl, by decide +kernel, rfl, by decide +kernel, by decide +kernel⟩
abbrev s_law_bent : Stmt := topS 18
theorem sc_law_bent : FnScope ["box", "question", "texts", "how"] ["box", "question", "texts"] (defScope s_law_bent) := ⟨rfl, rfl, rfl, by decide +kernel, rfl, by decide +kernel, by decide +kernel⟩
abbrev s_law : Stmt := topS 19
theorem sc_law : FnScope ["script", "box", "lap", "texts", "text", "own", "stock", "thing", "rare", "handed", "words_there", "strange", "deep", "question", "due", "told", "inner", "bent", "other"] ["script"] (defScope s_law) := ⟨rfl, rfl, rfl, by decide +kernel, rfl, by decide +kernel, by decide +kernel⟩
structure Top (K : Frg) (mg : Str → Option Value) : Prop where
  bool_ : mg "bool" = none
  enumerate_ : mg "enumerate" = none
  int_ : mg "int" = none
  isinstance_ : mg "isinstance" = none
  len_ : mg "len" = none
  list_ : mg "list" = none
  range_ : mg "range" = none
  repr_ : mg "repr" = none
  sorted_ : mg "sorted" = none
  str_ : mg "str" = none
  tuple_ : mg "tuple" = none
  f_found_by : ∃ f fd, Fun K "found_by" "found_by" s_found_by f fd ∧ Binds K fd ["things", "question"] [] ∧ mg "found_by" = some (.ref f)
  f_text_of : ∃ f fd, Fun K "text_of" "text_of" s_text_of f fd ∧ Binds K fd ["question"] [] ∧ mg "text_of" = some (.ref f)
  f_same_answers : ∃ f fd, Fun K "same_answers" "same_answers" s_same_answers f fd ∧ Binds K fd ["things", "one", "other"] [] ∧ mg "same_answers" = some (.ref f)
  f_turned_in : ∃ f fd, Fun K "turned_in" "turned_in" s_turned_in f fd ∧ Binds K fd ["question"] [] ∧ mg "turned_in" = some (.ref f)
  f_law_cell : ∃ f fd, Fun K "_law_cell" "_law_cell" s_law_cell f fd ∧ Binds K fd ["script", "k"] [] ∧ mg "_law_cell" = some (.ref f)
  f_law_digits : ∃ f fd, Fun K "_law_digits" "_law_digits" s_law_digits f fd ∧ Binds K fd ["script", "first", "last"] [] ∧ mg "_law_digits" = some (.ref f)
  f_law_draw : ∃ f fd, Fun K "_law_draw" "_law_draw" s_law_draw f fd ∧ Binds K fd ["box", "many"] [] ∧ mg "_law_draw" = some (.ref f)
  f_law_pick : ∃ f fd, Fun K "_law_pick" "_law_pick" s_law_pick f fd ∧ Binds K fd ["box", "lot"] [] ∧ mg "_law_pick" = some (.ref f)
  f_law_same : ∃ f fd, Fun K "_law_same" "_law_same" s_law_same f fd ∧ Binds K fd ["told", "due"] [] ∧ mg "_law_same" = some (.ref f)
  f_law_mixed : ∃ f fd, Fun K "_law_mixed" "_law_mixed" s_law_mixed f fd ∧ Binds K fd ["box", "lot"] [] ∧ mg "_law_mixed" = some (.ref f)
  f_law_words : ∃ f fd, Fun K "_law_words" "_law_words" s_law_words f fd ∧ Binds K fd ["box", "many", "signs"] [] ∧ mg "_law_words" = some (.ref f)
  f_law_question : ∃ f fd, Fun K "_law_question" "_law_question" s_law_question f fd ∧ Binds K fd ["box", "texts", "deep"] [] ∧ mg "_law_question" = some (.ref f)
  f_law_fits : ∃ f fd, Fun K "_law_fits" "_law_fits" s_law_fits f fd ∧ Binds K fd ["words_there", "question"] [] ∧ mg "_law_fits" = some (.ref f)
  f_law_found : ∃ f fd, Fun K "_law_found" "_law_found" s_law_found f fd ∧ Binds K fd ["stock", "question"] [] ∧ mg "_law_found" = some (.ref f)
  f_law_text : ∃ f fd, Fun K "_law_text" "_law_text" s_law_text f fd ∧ Binds K fd ["question"] [] ∧ mg "_law_text" = some (.ref f)
  f_law_turned : ∃ f fd, Fun K "_law_turned" "_law_turned" s_law_turned f fd ∧ Binds K fd ["question", "right"] [] ∧ mg "_law_turned" = some (.ref f)
  f_law_bent : ∃ f fd, Fun K "_law_bent" "_law_bent" s_law_bent f fd ∧ Binds K fd ["box", "question", "texts"] [] ∧ mg "_law_bent" = some (.ref f)
  f_law : ∃ f fd, Fun K "law" "law" s_law f fd ∧ Binds K fd ["script"] [] ∧ mg "law" = some (.ref f)
section
variable {P : Program} {w : World} {K : Frg} {mg : Str → Option Value} {base : Heap}
noncomputable def d_law_cell : Ev → Option Out := bCons (bIf (tB' (e2 gLt (hV 1) (hE (eN gLen (aCons (hV 0) aNil))))) (bRet (e2 gIdx (hV 0) (hV 1))) (bNil)) (bRet (eC (.int 0)))
noncomputable def F_law_cell : List D → Option (D × List D) := fnD [true, true] 2 d_law_cell
theorem w_law_cell (T : Top K mg) : FOk P w K mg base 1 "_law_cell" ["script", "k"] F_law_cell := by
  obtain ⟨f, fd, FF, fb, fm⟩ := T.f_law_cell
  have nd := sc_law_cell.nd
  exact def_ok FF sc_law_cell fb fm [0, 1] [true, true] 2 d_law_cell rfl rfl (by decide) (by decide) fun cdv A outer s H E hr => dss_cons (ds_if (dt_cmp op_lt o2_lt (dh_var 1) (dh_of (de_bi call_len on_len rfl T.len_ boot_len (da_cons (dh_var 0) da_nil))) (nomark _)) (dss_one (ds_ret (de_ix ix_seq o2_idx (dh_var 0) (dh_var 1) (fun _ _ => rfl)))) (dss_nil)) (dss_one (ds_ret (de_int)))
noncomputable def d_law_draw : Ev → Option Out := bCons (bAsg (e2 gAdd (hE (e2 gIdx (hV 0) (hE (eC (.int 1))))) (hE (eC (.int 1)))) (gIx 0 (hE (eC (.int 1))))) (bCons (bIf (tB' (e2 gGt (hE (e2 gIdx (hV 0) (hE (eC (.int 1))))) (hE (eN gLen (aCons (hE (e2 gIdx (hV 0) (hE (eC (.int 0))))) aNil))))) (bRet (e2 gMod (hE (eN gInt (aCons (hE (e2 gAdd (hE (e2 gAdd (hE (e2 gIdx (hE (e2 gIdx (hV 0) (hE (eC (.int 0))))) (hE (e2 gMod (hE (eN gInt (aCons (hE (e2 gMul (hE (e2 gIdx (hV 0) (hE (eC (.int 1))))) (hE (eC (.int 31))))) aNil))) (hE (eN gLen (aCons (hE (e2 gIdx (hV 0) (hE (eC (.int 0))))) aNil))))))) (hE (e2 gMul (hE (e2 gIdx (hV 0) (hE (eC (.int 1))))) (hE (eC (.int 7))))))) (hE (eC (.int 3))))) aNil))) (hV 1))) (bNil)) (bRet (e2 gMod (hE (eN gInt (aCons (hE (e2 gIdx (hE (e2 gIdx (hV 0) (hE (eC (.int 0))))) (hE (e2 gSubt (hE (e2 gIdx (hV 0) (hE (eC (.int 1))))) (hE (eC (.int 1))))))) aNil))) (hV 1))))
noncomputable def F_law_draw : List D → Option (D × List D) := fnD [true, true] 2 d_law_draw
theorem w_law_draw (T : Top K mg) : FOk P w K mg base 1 "_law_draw" ["box", "many"] F_law_draw := by
  obtain ⟨f, fd, FF, fb, fm⟩ := T.f_law_draw
  have nd := sc_law_draw.nd
  exact def_ok FF sc_law_draw fb fm [0, 1] [true, true] 2 d_law_draw rfl rfl (by decide) (by decide) fun cdv A outer s H E hr => dss_cons (ds_asg (de_op op_addA o2_add (dh_of (de_ix ix_seq o2_idx (dh_var 0) (dh_of (de_int)) (fun _ _ => rfl))) (dh_of (de_int))) (dg_ix 0 (dh_of (de_int)))) (dss_cons (ds_if (dt_cmp op_gt o2_gt (dh_of (de_ix ix_seq o2_idx (dh_var 0) (dh_of (de_int)) (fun _ _ => rfl))) (dh_of (de_bi call_len on_len rfl T.len_ boot_len (da_cons (dh_of (de_ix ix_seq o2_idx (dh_var 0) (dh_of (de_int)) (fun _ _ => rfl))) da_nil))) (nomark _)) (dss_one (ds_ret (de_op op_mod o2_mod (dh_of (de_ty call_intA on_int rfl T.int_ boot_int (da_cons (dh_of (de_op op_addA o2_add (dh_of (de_op op_addA o2_add (dh_of (de_ix ix_seq o2_idx (dh_of (de_ix ix_seq o2_idx (dh_var 0) (dh_of (de_int)) (fun _ _ => rfl))) (dh_of (de_op op_mod o2_mod (dh_of (de_ty call_intA on_int rfl T.int_ boot_int (da_cons (dh_of (de_op op_mulA o2_mul (dh_of (de_ix ix_seq o2_idx (dh_var 0) (dh_of (de_int)) (fun _ _ => rfl))) (dh_of (de_int)))) da_nil))) (dh_of (de_bi call_len on_len rfl T.len_ boot_len (da_cons (dh_of (de_ix ix_seq o2_idx (dh_var 0) (dh_of (de_int)) (fun _ _ => rfl))) da_nil))))) (fun _ _ => rfl))) (dh_of (de_op op_mulA o2_mul (dh_of (de_ix ix_seq o2_idx (dh_var 0) (dh_of (de_int)) (fun _ _ => rfl))) (dh_of (de_int)))))) (dh_of (de_int)))) da_nil))) (dh_var 1)))) (dss_nil)) (dss_one (ds_ret (de_op op_mod o2_mod (dh_of (de_ty call_intA on_int rfl T.int_ boot_int (da_cons (dh_of (de_ix ix_seq o2_idx (dh_of (de_ix ix_seq o2_idx (dh_var 0) (dh_of (de_int)) (fun _ _ => rfl))) (dh_of (de_op op_sub o2_sub (dh_of (de_ix ix_seq o2_idx (dh_var 0) (dh_of (de_int)) (fun _ _ => rfl))) (dh_of (de_int)))) (fun _ _ => rfl))) da_nil))) (dh_var 1)))))
noncomputable def b_law_digits_1 : Ev → Option Out := bIf (tB' (e2 gGt (hV 5) (hE (eC (.int 0))))) (bCons (bExp (eMut 3 gApp (aCons (hE (e2 gMod (hE (eN gInt (aCons (hV 5) aNil))) (hE (eC (.int 1000))))) aNil))) (bAsg (e2 gDiv (hV 5) (hE (eC (.int 1000)))) (gNm 5))) (bNil)
noncomputable def b_law_digits_2 : Ev → Option Out := bCons (bAsg (e2 gMod (hE (eN gInt (aCons (hE (e2 gAdd (hE (e2 gAdd (hE (e2 gMul (hV 7) (hE (eC (.int 16807))))) (hE (e2 gMul (hE (eC (.int 7))) (hV 6))))) (hE (eC (.int 1))))) aNil))) (hE (eC (.int 2147483647)))) (gNm 7)) (bExp (eMut 3 gApp (aCons (hE (e2 gMod (hE (eN gInt (aCons (hE (e2 gDiv (hV 7) (hE (eC (.int 997))))) aNil))) (hE (eC (.int 1000))))) aNil)))
noncomputable def j_law_digits_3 : Ev → Option Out := bIf (tB' (e2 gGe (hV 5) (hE (e2 gPow (hE (eC (.int 10))) (hE (eC (.int 18))))))) (bFor (iRg1 (aCons (hE (eC (.int 60))) aNil)) (gNm 6) (b_law_digits_1)) (bCons (bAsg (e2 gMod (hE (eN gInt (aCons (hE (e2 gAdd (hE (e2 gAdd (hE (e2 gMul (hV 5) (hE (eC (.int 48271))))) (hE (e2 gMul (hV 4) (hE (eC (.int 69621))))))) (hE (eC (.int 11))))) aNil))) (hE (eC (.int 2147483647)))) (gNm 7)) (bFor (iRg1 (aCons (hE (eC (.int 12))) aNil)) (gNm 6) (b_law_digits_2)))
noncomputable def b_law_digits_4 : Ev → Option Out := bCons (bAsg (eCall 2 F_law_cell (aCons (hV 0) (aCons (hV 4) aNil))) (gNm 5)) (bCons (bIf (tB' (e2 gLt (hV 5) (hE (eC (.int 0))))) (bAsg (e2 gSubt (hE (eC (.int 1))) (hE (e2 gMul (hE (eC (.int 2))) (hV 5)))) (gNm 5)) (bNil)) (j_law_digits_3))
noncomputable def d_law_digits : Ev → Option Out := bCons (bAsg (eLst (aNil)) (gNm 3)) (bCons (bFor (iRg2 (aCons (hV 1) (aCons (hV 2) aNil))) (gNm 4) (b_law_digits_4)) (bRet (eM 3)))
noncomputable def F_law_digits : List D → Option (D × List D) := fnD [true, true, true] 8 d_law_digits
theorem w_law_digits (T : Top K mg) (h_law_cell : FOk P w K mg base 1 "_law_cell" ["script", "k"] F_law_cell) : FOk P w K mg base 2 "_law_digits" ["script", "first", "last"] F_law_digits := by
  obtain ⟨f, fd, FF, fb, fm⟩ := T.f_law_digits
  have nd := sc_law_digits.nd
  exact def_ok FF sc_law_digits fb fm [0, 1, 2] [true, true, true] 8 d_law_digits rfl rfl (by decide) (by decide) fun cdv A outer s H E hr => dss_cons (ds_set 3 nd (de_lst (da_nil))) (dss_cons (ds_for [0, 1, 2] rfl (di_range2 rfl T.range_ (da_cons (dh_var 1) (da_cons (dh_var 2) da_nil))) (dg_name 4 nd) (dss_cons (ds_set 5 nd (de_call h_law_cell hr rfl (da_cons (dh_var 0) (da_cons (dh_var 4) da_nil)))) (dss_cons (ds_if (dt_cmp op_lt o2_lt (dh_var 5) (dh_of (de_int)) (nomark _)) (dss_one (ds_set 5 nd (de_op op_sub o2_sub (dh_of (de_int)) (dh_of (de_op op_mulA o2_mul (dh_of (de_int)) (dh_var 5)))))) (dss_nil)) (dss_one (ds_if (dt_cmp op_ge o2_ge (dh_var 5) (dh_of (de_op op_pow o2_pow (dh_of (de_int)) (dh_of (de_int)))) (nomark _)) (dss_one (ds_for [0, 1, 2] rfl (di_range1 rfl T.range_ (da_cons (dh_of (de_int)) da_nil)) (dg_name 6 nd) (dss_one (ds_if (dt_cmp op_gt o2_gt (dh_var 5) (dh_of (de_int)) (nomark _)) (dss_cons (ds_expr (de_mut 3 PySem.F.slot_list_append PySem.F.type_list_append mt_append mo_app (da_cons (dh_of (de_op op_mod o2_mod (dh_of (de_ty call_intA on_int rfl T.int_ boot_int (da_cons (dh_var 5) da_nil))) (dh_of (de_int)))) da_nil))) (dss_one (ds_set 5 nd (de_op op_fdivX o2_div (dh_var 5) (dh_of (de_int)))))) (dss_nil))))) (dss_cons (ds_set 7 nd (de_op op_mod o2_mod (dh_of (de_ty call_intA on_int rfl T.int_ boot_int (da_cons (dh_of (de_op op_addA o2_add (dh_of (de_op op_addA o2_add (dh_of (de_op op_mulA o2_mul (dh_var 5) (dh_of (de_int)))) (dh_of (de_op op_mulA o2_mul (dh_var 4) (dh_of (de_int)))))) (dh_of (de_int)))) da_nil))) (dh_of (de_int)))) (dss_one (ds_for [0, 1, 2] rfl (di_range1 rfl T.range_ (da_cons (dh_of (de_int)) da_nil)) (dg_name 6 nd) (dss_cons (ds_set 7 nd (de_op op_mod o2_mod (dh_of (de_ty call_intA on_int rfl T.int_ boot_int (da_cons (dh_of (de_op op_addA o2_add (dh_of (de_op op_addA o2_add (dh_of (de_op op_mulA o2_mul (dh_var 7) (dh_of (de_int)))) (dh_of (de_op op_mulA o2_mul (dh_of (de_int)) (dh_var 6))))) (dh_of (de_int)))) da_nil))) (dh_of (de_int)))) (dss_one (ds_expr (de_mut 3 PySem.F.slot_list_append PySem.F.type_list_append mt_append mo_app (da_cons (dh_of (de_op op_mod o2_mod (dh_of (de_ty call_intA on_int rfl T.int_ boot_int (da_cons (dh_of (de_op op_fdivX o2_div (dh_var 7) (dh_of (de_int)))) da_nil))) (dh_of (de_int)))) da_nil))))))))))))) (dss_one (ds_ret (de_mov 3))))
noncomputable def d_law_pick : Ev → Option Out := bRet (e2 gIdx (hV 1) (hE (eCall 2 F_law_draw (aCons (hV 0) (aCons (hE (eN gLen (aCons (hV 1) aNil))) aNil)))))
noncomputable def F_law_pick : List D → Option (D × List D) := fnD [true, true] 2 d_law_pick
theorem w_law_pick (T : Top K mg) (h_law_draw : FOk P w K mg base 1 "_law_draw" ["box", "many"] F_law_draw) : FOk P w K mg base 2 "_law_pick" ["box", "lot"] F_law_pick := by
  obtain ⟨f, fd, FF, fb, fm⟩ := T.f_law_pick
  have nd := sc_law_pick.nd
  exact def_ok FF sc_law_pick fb fm [0, 1] [true, true] 2 d_law_pick rfl rfl (by decide) (by decide) fun cdv A outer s H E hr => dss_one (ds_ret (de_ix ix_seq o2_idx (dh_var 1) (dh_of (de_call h_law_draw hr rfl (da_cons (dh_var 0) (da_cons (dh_of (de_bi call_len on_len rfl T.len_ boot_len (da_cons (dh_var 1) da_nil))) da_nil)))) (fun _ _ => rfl)))
noncomputable def b_law_mixed_1 : Ev → Option Out := bExp (eMut 3 gApp (aCons (hE (eFz (eMut 2 gPopAt (aCons (hE (eFz (eCall 2 F_law_draw (aCons (hV 0) (aCons (hE (eN gLen (aCons (hV 2) aNil))) aNil))))) aNil)))) aNil))
noncomputable def d_law_mixed : Ev → Option Out := bCons (bPar 2 3 (aCons (hE (eN gListR (aCons (hV 1) aNil))) (aCons (hE (eLst (aNil))) aNil))) (bCons (bFor (iRg1 (aCons (hE (eN gLen (aCons (hV 1) aNil))) aNil)) (gNm 4) (b_law_mixed_1)) (bRet (eM 3)))
noncomputable def F_law_mixed : List D → Option (D × List D) := fnD [true, true] 5 d_law_mixed
theorem w_law_mixed (T : Top K mg) (h_law_draw : FOk P w K mg base 1 "_law_draw" ["box", "many"] F_law_draw) : FOk P w K mg base 2 "_law_mixed" ["box", "lot"] F_law_mixed := by
  obtain ⟨f, fd, FF, fb, fm⟩ := T.f_law_mixed
  have nd := sc_law_mixed.nd
  exact def_ok FF sc_law_mixed fb fm [0, 1] [true, true] 5 d_law_mixed rfl rfl (by decide) (by decide) fun cdv A outer s H E hr => dss_cons (ds_par 2 3 rfl nd (da_cons (dh_of (de_ty (cr_listR rfl) on_listR rfl T.list_ boot_list (da_cons (dh_var 1) da_nil))) (da_cons (dh_of (de_lst (da_nil))) da_nil))) (dss_cons (ds_for [0, 1] rfl (di_range1 rfl T.range_ (da_cons (dh_of (de_bi call_len on_len rfl T.len_ boot_len (da_cons (dh_var 1) da_nil))) da_nil)) (dg_name 4 nd) (dss_one (ds_expr (de_mut 3 PySem.F.slot_list_append PySem.F.type_list_append mt_append mo_app (da_cons (dh_of (de_fz (de_mut 2 PySem.F.slot_list_pop PySem.F.type_list_pop mt_popAt mo_popAt (da_cons (dh_of (de_fz (de_call h_law_draw hr rfl (da_cons (dh_var 0) (da_cons (dh_of (de_bi call_len on_len rfl T.len_ boot_len (da_cons (dh_var 2) da_nil))) da_nil))))) da_nil)))) da_nil))))) (dss_one (ds_ret (de_mov 3))))
noncomputable def b_law_words_1 : Ev → Option Out := bIf (tB' (e2 (gInX false) (hV 5) (hV 3))) (bAsg (e2 gAdd (hV 5) (hE (eCall 2 F_law_pick (aCons (hV 0) (aCons (hV 2) aNil))))) (gNm 5)) (bNil)
noncomputable def b_law_words_2 : Ev → Option Out := bCons (bAsg (eMt "str" gJoin (hE (eC (.str ""))) (aCons (hE (eLc [6] (iRg1 (aCons (hE (e2 gAdd (hE (eC (.int 1))) (hE (eCall 2 F_law_draw (aCons (hV 0) (aCons (hE (eC (.int 3))) aNil)))))) aNil)) (gNm 6) (tAll) (eFz (eCall 2 F_law_pick (aCons (hV 0) (aCons (hV 2) aNil)))))) aNil)) (gNm 5)) (bCons (bFor (iRg1 (aCons (hV 1) aNil)) (gNm 7) (b_law_words_1)) (bExp (eMut 3 gApp (aCons (hE (eV 5)) aNil))))
noncomputable def d_law_words : Ev → Option Out := bCons (bAsg (eLst (aNil)) (gNm 3)) (bCons (bFor (iRg1 (aCons (hV 1) aNil)) (gNm 4) (b_law_words_2)) (bRet (eM 3)))
noncomputable def F_law_words : List D → Option (D × List D) := fnD [true, true, true] 8 d_law_words
theorem w_law_words (T : Top K mg) (h_law_draw : FOk P w K mg base 2 "_law_draw" ["box", "many"] F_law_draw) (h_law_pick : FOk P w K mg base 2 "_law_pick" ["box", "lot"] F_law_pick) : FOk P w K mg base 3 "_law_words" ["box", "many", "signs"] F_law_words := by
  obtain ⟨f, fd, FF, fb, fm⟩ := T.f_law_words
  have nd := sc_law_words.nd
  exact def_ok FF sc_law_words fb fm [0, 1, 2] [true, true, true] 8 d_law_words rfl rfl (by decide) (by decide) fun cdv A outer s H E hr => dss_cons (ds_set 3 nd (de_lst (da_nil))) (dss_cons (ds_for [0, 1, 2] rfl (di_range1 rfl T.range_ (da_cons (dh_var 1) da_nil)) (dg_name 4 nd) (dss_cons (ds_set 5 nd (de_mt PySem.F.plainAttrs_str PySem.F.slot_str_join PySem.F.type_str_join mt_join on_join (dh_of (de_str)) (da_cons (dh_of (de_lc (own := [("k", 6)]) [0, 1, 2, 3, 4, 5, 6, 7] [0, 1, 2, 3, 4, 5, 7] 8 rfl nd rfl (di_range1 rfl T.range_ (da_cons (dh_of (de_op op_addA o2_add (dh_of (de_int)) (dh_of (de_call h_law_draw hr rfl (da_cons (dh_var 0) (da_cons (dh_of (de_int)) da_nil)))))) da_nil)) (blk_ok (by kernel_rfl)) (fun _ _ _ _ _ => dg_name 6 nd) (fun _ _ _ _ _ => dts_nil) (fun _ _ _ _ _ => de_fz (de_call h_law_pick hr rfl (da_cons (dh_var 0) (da_cons (dh_var 2) da_nil)))))) da_nil))) (dss_cons (ds_for [0, 1, 2] rfl (di_range1 rfl T.range_ (da_cons (dh_var 1) da_nil)) (dg_name 7 nd) (dss_one (ds_if (dt_cmp (op_inXA (hu65 hr)) o2_inX (dh_var 5) (dh_var 3) rfl) (dss_one (ds_set 5 nd (de_op op_addA o2_add (dh_var 5) (dh_of (de_call h_law_pick hr rfl (da_cons (dh_var 0) (da_cons (dh_var 2) da_nil))))))) (dss_nil)))) (dss_one (ds_expr (de_mut 3 PySem.F.slot_list_append PySem.F.type_list_append mt_append mo_app (da_cons (dh_of (de_var 5)) da_nil))))))) (dss_one (ds_ret (de_mov 3))))
noncomputable def d_law_same (F0 : List D → Option (D × List D)) : Ev → Option Out := bCons (bIf (tB' (e2 (gIsB false) (hV 1) (hE (eC .non)))) (bRet (e2 (gIsB false) (hV 0) (hE (eC .non)))) (bNil)) (bCons (bIf (tB' (e2 (gIsB false) (hV 1) (hE (eC (.bl true))))) (bRet (e2 (gIsB false) (hV 0) (hE (eC (.bl true))))) (bNil)) (bCons (bIf (tB' (e2 (gIsB false) (hV 1) (hE (eC (.bl false))))) (bRet (e2 (gIsB false) (hV 0) (hE (eC (.bl false))))) (bNil)) (bCons (bIf (tT (hE (eN gIsi (aCons (hV 1) (aCons (hE (eC (.ty "str"))) aNil))))) (bRet (eAn (eN gIsi (aCons (hV 0) (aCons (hE (eC (.ty "str"))) aNil))) (e2 gEq (hE (eN gRepr (aCons (hV 0) aNil))) (hE (eN gRepr (aCons (hV 1) aNil)))))) (bNil)) (bCons (bIf (tT (hE (eN gIsi (aCons (hV 1) (aCons (hE (eC (.ty "int"))) aNil))))) (bRet (eAn (eN gIsi (aCons (hV 0) (aCons (hE (eC (.ty "int"))) aNil))) (eAn (eNo (eN gIsi (aCons (hV 0) (aCons (hE (eC (.ty "bool"))) aNil)))) (e2 gEq (hE (eN gRepr (aCons (hV 0) aNil))) (hE (eN gRepr (aCons (hV 1) aNil))))))) (bNil)) (bCons (bIf (tOr' (tAn (tT (hE (eN gIsi (aCons (hV 1) (aCons (hE (eC (.ty "tuple"))) aNil))))) (tNo (tT (hE (eN gIsi (aCons (hV 0) (aCons (hE (eC (.ty "tuple"))) aNil))))))) (tAn (tT (hE (eN gIsi (aCons (hV 1) (aCons (hE (eC (.ty "list"))) aNil))))) (tNo (tT (hE (eN gIsi (aCons (hV 0) (aCons (hE (eC (.ty "list"))) aNil)))))))) (bRet (eC (.bl false))) (bNil)) (bCons (bIf (tB' (e2 gNe (hE (eN gLen (aCons (hV 0) aNil))) (hE (eN gLen (aCons (hV 1) aNil))))) (bRet (eC (.bl false))) (bNil)) (bCons (bFor (iRg1 (aCons (hE (eN gLen (aCons (hV 1) aNil))) aNil)) (gNm 2) (bIf (tNo (tT (hE (eCall 2 F0 (aCons (hE (e2 gIdx (hV 0) (hV 2))) (aCons (hE (e2 gIdx (hV 1) (hV 2))) aNil)))))) (bRet (eC (.bl false))) (bNil))) (bRet (eC (.bl true))))))))))
noncomputable def S_law_same (F0 : List D → Option (D × List D)) : List D → Option (D × List D) := fnD [true, true] 3 (d_law_same F0)
noncomputable def R_law_same : Nat → List D → Option (D × List D)
  | 0 => fun _ => none
  | n + 1 => S_law_same (R_law_same n)
noncomputable def F_law_same : List D → Option (D × List D) := R_law_same 8
theorem v_law_same {F0 : List D → Option (D × List D)} {k : Nat} (T : Top K mg) (h0 : FOk P w K mg base k "_law_same" ["told", "due"] F0) : FOk P w K mg base (k + 1) "_law_same" ["told", "due"] (S_law_same F0) := by
  obtain ⟨f, fd, FF, fb, fm⟩ := T.f_law_same
  have nd := sc_law_same.nd
  exact def_ok FF sc_law_same fb fm [0, 1] [true, true] 3 (d_law_same F0) rfl rfl (by decide) (by decide) fun cdv A outer s H E hr => dss_cons (ds_if (dt_cmp op_isA o2_is (dh_var 1) (dh_of (de_non)) (nomark _)) (dss_one (ds_ret (de_cmp op_isA o2_is (dh_var 0) (dh_of (de_non)) (nomark _)))) (dss_nil)) (dss_cons (ds_if (dt_cmp op_isA o2_is (dh_var 1) (dh_of (de_bl)) (nomark _)) (dss_one (ds_ret (de_cmp op_isA o2_is (dh_var 0) (dh_of (de_bl)) (nomark _)))) (dss_nil)) (dss_cons (ds_if (dt_cmp op_isA o2_is (dh_var 1) (dh_of (de_bl)) (nomark _)) (dss_one (ds_ret (de_cmp op_isA o2_is (dh_var 0) (dh_of (de_bl)) (nomark _)))) (dss_nil)) (dss_cons (ds_if (dt_truth (dh_of (de_bi call_isi on_isi rfl T.isinstance_ boot_isinstance (da_cons (dh_var 1) (da_cons (dh_of (de_tyn rfl T.str_ boot_str)) da_nil))))) (dss_one (ds_ret (de_and (de_bi call_isi on_isi rfl T.isinstance_ boot_isinstance (da_cons (dh_var 0) (da_cons (dh_of (de_tyn rfl T.str_ boot_str)) da_nil))) (de_one (de_cmp (op_eqA (hu64 hr)) o2_eq (dh_of (de_bi call_repr on_repr rfl T.repr_ boot_repr (da_cons (dh_var 0) da_nil))) (dh_of (de_bi call_repr on_repr rfl T.repr_ boot_repr (da_cons (dh_var 1) da_nil))) (nomark _)))))) (dss_nil)) (dss_cons (ds_if (dt_truth (dh_of (de_bi call_isi on_isi rfl T.isinstance_ boot_isinstance (da_cons (dh_var 1) (da_cons (dh_of (de_tyn rfl T.int_ boot_int)) da_nil))))) (dss_one (ds_ret (de_and (de_bi call_isi on_isi rfl T.isinstance_ boot_isinstance (da_cons (dh_var 0) (da_cons (dh_of (de_tyn rfl T.int_ boot_int)) da_nil))) (de_and (de_not (de_bi call_isi on_isi rfl T.isinstance_ boot_isinstance (da_cons (dh_var 0) (da_cons (dh_of (de_tyn rfl T.bool_ boot_bool)) da_nil)))) (de_one (de_cmp (op_eqA (hu64 hr)) o2_eq (dh_of (de_bi call_repr on_repr rfl T.repr_ boot_repr (da_cons (dh_var 0) da_nil))) (dh_of (de_bi call_repr on_repr rfl T.repr_ boot_repr (da_cons (dh_var 1) da_nil))) (nomark _))))))) (dss_nil)) (dss_cons (ds_if (dt_w (dw_or (dt_w (dw_and (dt_truth (dh_of (de_bi call_isi on_isi rfl T.isinstance_ boot_isinstance (da_cons (dh_var 1) (da_cons (dh_of (de_tyn rfl T.tuple_ boot_tuple)) da_nil))))) (dw_and1 (dt_not (dt_truth (dh_of (de_bi call_isi on_isi rfl T.isinstance_ boot_isinstance (da_cons (dh_var 0) (da_cons (dh_of (de_tyn rfl T.tuple_ boot_tuple)) da_nil))))))))) (dw_or1 (dt_w (dw_and (dt_truth (dh_of (de_bi call_isi on_isi rfl T.isinstance_ boot_isinstance (da_cons (dh_var 1) (da_cons (dh_of (de_tyn rfl T.list_ boot_list)) da_nil))))) (dw_and1 (dt_not (dt_truth (dh_of (de_bi call_isi on_isi rfl T.isinstance_ boot_isinstance (da_cons (dh_var 0) (da_cons (dh_of (de_tyn rfl T.list_ boot_list)) da_nil)))))))))))) (dss_one (ds_ret (de_bl))) (dss_nil)) (dss_cons (ds_if (dt_cmp (op_neA (hu64 hr)) o2_ne (dh_of (de_bi call_len on_len rfl T.len_ boot_len (da_cons (dh_var 0) da_nil))) (dh_of (de_bi call_len on_len rfl T.len_ boot_len (da_cons (dh_var 1) da_nil))) (nomark _)) (dss_one (ds_ret (de_bl))) (dss_nil)) (dss_cons (ds_for [0, 1] rfl (di_range1 rfl T.range_ (da_cons (dh_of (de_bi call_len on_len rfl T.len_ boot_len (da_cons (dh_var 1) da_nil))) da_nil)) (dg_name 2 nd) (dss_one (ds_if (dt_not (dt_truth (dh_of (de_call h0 hr rfl (da_cons (dh_of (de_ix ix_seq o2_idx (dh_var 0) (dh_var 2) (fun _ _ => rfl))) (da_cons (dh_of (de_ix ix_seq o2_idx (dh_var 1) (dh_var 2) (fun _ _ => rfl))) da_nil)))))) (dss_one (ds_ret (de_bl))) (dss_nil)))) (dss_one (ds_ret (de_bl))))))))))
theorem w_law_same (T : Top K mg) : FOk P w K mg base 8 "_law_same" ["told", "due"] F_law_same := by
  have h : ∀ n, FOk P w K mg base (0 + n) "_law_same" ["told", "due"] (R_law_same n) := fun n => by
    induction n with
    | zero =>
      obtain ⟨f, fd, FF, fb, fm⟩ := T.f_law_same
      exact FOk.void FF fb fm
    | succ n ih => exact v_law_same T ih
  exact h 8
noncomputable def d_found_by (F0 : List D → Option (D × List D)) : Ev → Option Out := bCons (bIf (tT (hE (eN gIsi (aCons (hV 1) (aCons (hE (eC (.ty "str"))) aNil))))) (bRet (eLc [2, 3] (iEn (aCons (hV 0) aNil)) (gTp 2 (gsCons (gNm 2) (gsCons (gNm 3) gsNil))) (tB' (e2 (gInX false) (hV 1) (hV 3))) (eV 2))) (bNil)) (bCons (bAsg (eCall 2 F0 (aCons (hV 0) (aCons (hE (e2 gIdx (hV 1) (hE (eC (.int 1))))) aNil))) (gNm 4)) (bCons (bIf (tB' (e2 gEq (hE (e2 gIdx (hV 1) (hE (eC (.int 0))))) (hE (eC (.str "not"))))) (bRet (eLc [2] (iRg1 (aCons (hE (eN gLen (aCons (hV 0) aNil))) aNil)) (gNm 2) (tB' (e2 (gInX true) (hV 2) (hV 4))) (eV 2))) (bNil)) (bCons (bAsg (eCall 2 F0 (aCons (hV 0) (aCons (hE (e2 gIdx (hV 1) (hE (eC (.int 2))))) aNil))) (gNm 5)) (bCons (bIf (tB' (e2 gEq (hE (e2 gIdx (hV 1) (hE (eC (.int 0))))) (hE (eC (.str "and"))))) (bRet (eLc [2] (iSq (hV 4)) (gNm 2) (tB' (e2 (gInX false) (hV 2) (hV 5))) (eV 2))) (bNil)) (bRet (eSortSet [2] (iSq (hE (e2 gAdd (hV 4) (hV 5)))) (gNm 2) (tAll) (eV 2)))))))
noncomputable def S_found_by (F0 : List D → Option (D × List D)) : List D → Option (D × List D) := fnD [true, true] 6 (d_found_by F0)
noncomputable def R_found_by : Nat → List D → Option (D × List D)
  | 0 => fun _ => none
  | n + 1 => S_found_by (R_found_by n)
noncomputable def F_found_by : List D → Option (D × List D) := R_found_by 12
theorem v_found_by {F0 : List D → Option (D × List D)} {k : Nat} (T : Top K mg) (h0 : FOk P w K mg base k "found_by" ["things", "question"] F0) : FOk P w K mg base (k + 1) "found_by" ["things", "question"] (S_found_by F0) := by
  obtain ⟨f, fd, FF, fb, fm⟩ := T.f_found_by
  have nd := sc_found_by.nd
  exact def_ok FF sc_found_by fb fm [0, 1] [true, true] 6 (d_found_by F0) rfl rfl (by decide) (by decide) fun cdv A outer s H E hr => dss_cons (ds_if (dt_truth (dh_of (de_bi call_isi on_isi rfl T.isinstance_ boot_isinstance (da_cons (dh_var 1) (da_cons (dh_of (de_tyn rfl T.str_ boot_str)) da_nil))))) (dss_one (ds_ret (de_lc (own := [("thing", 2), ("words", 3)]) [0, 1, 2, 3, 4, 5] [0, 1, 4, 5] 6 rfl nd rfl (di_enum rfl T.enumerate_ (da_cons (dh_var 0) da_nil) (hsls_var (by decide) (hsls_nil))) (blk_ok (by kernel_rfl)) (fun _ _ _ _ _ => dg_tup rfl (dgs_cons (dg_name 2 nd) (dgs_cons (dg_name 3 nd) dgs_nil))) (fun _ _ _ _ _ => dts_one (dt_cmp (op_inXA (hu65 hr)) o2_inX (dh_var 1) (dh_var 3) rfl)) (fun _ _ _ _ _ => de_var 2)))) (dss_nil)) (dss_cons (ds_set 4 nd (de_call h0 hr rfl (da_cons (dh_var 0) (da_cons (dh_of (de_ix ix_seq o2_idx (dh_var 1) (dh_of (de_int)) (fun _ _ => rfl))) da_nil)))) (dss_cons (ds_if (dt_cmp (op_eqA (hu64 hr)) o2_eq (dh_of (de_ix ix_seq o2_idx (dh_var 1) (dh_of (de_int)) (fun _ _ => rfl))) (dh_of (de_str)) (nomark _)) (dss_one (ds_ret (de_lc (own := [("thing", 2)]) [0, 1, 2, 3, 4, 5] [0, 1, 3, 4, 5] 6 rfl nd rfl (di_range1 rfl T.range_ (da_cons (dh_of (de_bi call_len on_len rfl T.len_ boot_len (da_cons (dh_var 0) da_nil))) da_nil)) (blk_ok (by kernel_rfl)) (fun _ _ _ _ _ => dg_name 2 nd) (fun _ _ _ _ _ => dts_one (dt_cmp (op_notInXA (hu65 hr)) o2_notInX (dh_var 2) (dh_var 4) rfl)) (fun _ _ _ _ _ => de_var 2)))) (dss_nil)) (dss_cons (ds_set 5 nd (de_call h0 hr rfl (da_cons (dh_var 0) (da_cons (dh_of (de_ix ix_seq o2_idx (dh_var 1) (dh_of (de_int)) (fun _ _ => rfl))) da_nil)))) (dss_cons (ds_if (dt_cmp (op_eqA (hu64 hr)) o2_eq (dh_of (de_ix ix_seq o2_idx (dh_var 1) (dh_of (de_int)) (fun _ _ => rfl))) (dh_of (de_str)) (nomark _)) (dss_one (ds_ret (de_lc (own := [("thing", 2)]) [0, 1, 2, 3, 4, 5] [0, 1, 3, 4, 5] 6 rfl nd rfl (di_any (dh_var 4) (hsl_var (by decide))) (blk_ok (by kernel_rfl)) (fun _ _ _ _ _ => dg_name 2 nd) (fun _ _ _ _ _ => dts_one (dt_cmp (op_inXA (hu65 hr)) o2_inX (dh_var 2) (dh_var 5) rfl)) (fun _ _ _ _ _ => de_var 2)))) (dss_nil)) (dss_one (ds_ret (de_sortSet (own := [("thing", 2)]) [0, 1, 2, 3, 4, 5] [0, 1, 3, 4, 5] 6 rfl nd rfl (di_any (dh_of (de_op op_addA o2_add (dh_var 4) (dh_var 5))) hsl_of) (blk_ok (by kernel_rfl)) (fun _ _ _ _ _ => dg_name 2 nd) (fun _ _ _ _ _ => dts_nil) (fun _ _ _ _ _ => de_var 2) rfl T.sorted_ boot_sorted)))))))
theorem w_found_by (T : Top K mg) : FOk P w K mg base 12 "found_by" ["things", "question"] F_found_by := by
  have h : ∀ n, FOk P w K mg base (0 + n) "found_by" ["things", "question"] (R_found_by n) := fun n => by
    induction n with
    | zero =>
      obtain ⟨f, fd, FF, fb, fm⟩ := T.f_found_by
      exact FOk.void FF fb fm
    | succ n ih => exact v_found_by T ih
  exact h 12
noncomputable def d_text_of (F0 : List D → Option (D × List D)) : Ev → Option Out := bCons (bIf (tT (hE (eN gIsi (aCons (hV 0) (aCons (hE (eC (.ty "str"))) aNil))))) (bRet (eV 0)) (bNil)) (bCons (bIf (tB' (e2 gEq (hE (e2 gIdx (hV 0) (hE (eC (.int 0))))) (hE (eC (.str "not"))))) (bRet (e2 gAdd (hE (eC (.str "not "))) (hE (eCall 1 F0 (aCons (hE (e2 gIdx (hV 0) (hE (eC (.int 1))))) aNil))))) (bNil)) (bRet (eJ [eC (.str "("), e1 gFmt (hE (eCall 1 F0 (aCons (hE (e2 gIdx (hV 0) (hE (eC (.int 1))))) aNil))), eC (.str " "), e1 gFmt (hE (e2 gIdx (hV 0) (hE (eC (.int 0))))), eC (.str " "), e1 gFmt (hE (eCall 1 F0 (aCons (hE (e2 gIdx (hV 0) (hE (eC (.int 2))))) aNil))), eC (.str ")")] Str.empty)))
noncomputable def S_text_of (F0 : List D → Option (D × List D)) : List D → Option (D × List D) := fnD [true] 1 (d_text_of F0)
noncomputable def R_text_of : Nat → List D → Option (D × List D)
  | 0 => fun _ => none
  | n + 1 => S_text_of (R_text_of n)
noncomputable def F_text_of : List D → Option (D × List D) := R_text_of 12
theorem v_text_of {F0 : List D → Option (D × List D)} {k : Nat} (T : Top K mg) (h0 : FOk P w K mg base k "text_of" ["question"] F0) : FOk P w K mg base (k + 1) "text_of" ["question"] (S_text_of F0) := by
  obtain ⟨f, fd, FF, fb, fm⟩ := T.f_text_of
  have nd := sc_text_of.nd
  exact def_ok FF sc_text_of fb fm [0] [true] 1 (d_text_of F0) rfl rfl (by decide) (by decide) fun cdv A outer s H E hr => dss_cons (ds_if (dt_truth (dh_of (de_bi call_isi on_isi rfl T.isinstance_ boot_isinstance (da_cons (dh_var 0) (da_cons (dh_of (de_tyn rfl T.str_ boot_str)) da_nil))))) (dss_one (ds_ret (de_var 0))) (dss_nil)) (dss_cons (ds_if (dt_cmp (op_eqA (hu64 hr)) o2_eq (dh_of (de_ix ix_seq o2_idx (dh_var 0) (dh_of (de_int)) (fun _ _ => rfl))) (dh_of (de_str)) (nomark _)) (dss_one (ds_ret (de_op op_addA o2_add (dh_of (de_str)) (dh_of (de_call h0 hr rfl (da_cons (dh_of (de_ix ix_seq o2_idx (dh_var 0) (dh_of (de_int)) (fun _ _ => rfl))) da_nil)))))) (dss_nil)) (dss_one (ds_ret (de_joined (dj_cons (de_str) (dj_cons (de_fmt (dh_of (de_call h0 hr rfl (da_cons (dh_of (de_ix ix_seq o2_idx (dh_var 0) (dh_of (de_int)) (fun _ _ => rfl))) da_nil)))) (dj_cons (de_str) (dj_cons (de_fmt (dh_of (de_ix ix_seq o2_idx (dh_var 0) (dh_of (de_int)) (fun _ _ => rfl)))) (dj_cons (de_str) (dj_cons (de_fmt (dh_of (de_call h0 hr rfl (da_cons (dh_of (de_ix ix_seq o2_idx (dh_var 0) (dh_of (de_int)) (fun _ _ => rfl))) da_nil)))) (dj_cons (de_str) dj_nil)))))))))))
theorem w_text_of (T : Top K mg) : FOk P w K mg base 12 "text_of" ["question"] F_text_of := by
  have h : ∀ n, FOk P w K mg base (0 + n) "text_of" ["question"] (R_text_of n) := fun n => by
    induction n with
    | zero =>
      obtain ⟨f, fd, FF, fb, fm⟩ := T.f_text_of
      exact FOk.void FF fb fm
    | succ n ih => exact v_text_of T ih
  exact h 12
noncomputable def d_turned_in (F0 : List D → Option (D × List D)) : Ev → Option Out := bCons (bIf (tT (hE (eN gIsi (aCons (hV 0) (aCons (hE (eC (.ty "str"))) aNil))))) (bRet (eV 0)) (bNil)) (bCons (bIf (tB' (e2 gNe (hE (e2 gIdx (hV 0) (hE (eC (.int 0))))) (hE (eC (.str "not"))))) (bRet (eTup (aCons (hE (e2 gIdx (hV 0) (hE (eC (.int 0))))) (aCons (hE (eFz (eCall 1 F0 (aCons (hE (e2 gIdx (hV 0) (hE (eC (.int 1))))) aNil)))) (aCons (hE (eFz (eCall 1 F0 (aCons (hE (e2 gIdx (hV 0) (hE (eC (.int 2))))) aNil)))) aNil))))) (bNil)) (bCons (bAsg (e2 gIdx (hV 0) (hE (eC (.int 1)))) (gNm 1)) (bCons (bIf (tT (hE (eN gIsi (aCons (hV 1) (aCons (hE (eC (.ty "str"))) aNil))))) (bRet (eV 0)) (bNil)) (bCons (bIf (tB' (e2 gEq (hE (e2 gIdx (hV 1) (hE (eC (.int 0))))) (hE (eC (.str "not"))))) (bRet (eCall 1 F0 (aCons (hE (e2 gIdx (hV 1) (hE (eC (.int 1))))) aNil))) (bNil)) (bCons (bAsg (eIf (tB' (e2 gEq (hE (e2 gIdx (hV 1) (hE (eC (.int 0))))) (hE (eC (.str "and"))))) (eC (.str "or")) (eC (.str "and"))) (gNm 2)) (bRet (eTup (aCons (hE (eFz (eM 2))) (aCons (hE (eFz (eCall 1 F0 (aCons (hE (eFz (eTup (aCons (hE (eC (.str "not"))) (aCons (hE (e2 gIdx (hV 1) (hE (eC (.int 1))))) aNil))))) aNil)))) (aCons (hE (eFz (eCall 1 F0 (aCons (hE (eFz (eTup (aCons (hE (eC (.str "not"))) (aCons (hE (e2 gIdx (hV 1) (hE (eC (.int 2))))) aNil))))) aNil)))) aNil))))))))))
noncomputable def S_turned_in (F0 : List D → Option (D × List D)) : List D → Option (D × List D) := fnD [true] 3 (d_turned_in F0)
noncomputable def R_turned_in : Nat → List D → Option (D × List D)
  | 0 => fun _ => none
  | n + 1 => S_turned_in (R_turned_in n)
noncomputable def F_turned_in : List D → Option (D × List D) := R_turned_in 12
theorem v_turned_in {F0 : List D → Option (D × List D)} {k : Nat} (T : Top K mg) (h0 : FOk P w K mg base k "turned_in" ["question"] F0) : FOk P w K mg base (k + 1) "turned_in" ["question"] (S_turned_in F0) := by
  obtain ⟨f, fd, FF, fb, fm⟩ := T.f_turned_in
  have nd := sc_turned_in.nd
  exact def_ok FF sc_turned_in fb fm [0] [true] 3 (d_turned_in F0) rfl rfl (by decide) (by decide) fun cdv A outer s H E hr => dss_cons (ds_if (dt_truth (dh_of (de_bi call_isi on_isi rfl T.isinstance_ boot_isinstance (da_cons (dh_var 0) (da_cons (dh_of (de_tyn rfl T.str_ boot_str)) da_nil))))) (dss_one (ds_ret (de_var 0))) (dss_nil)) (dss_cons (ds_if (dt_cmp (op_neA (hu64 hr)) o2_ne (dh_of (de_ix ix_seq o2_idx (dh_var 0) (dh_of (de_int)) (fun _ _ => rfl))) (dh_of (de_str)) (nomark _)) (dss_one (ds_ret (de_tup (da_cons (dh_of (de_ix ix_seq o2_idx (dh_var 0) (dh_of (de_int)) (fun _ _ => rfl))) (da_cons (dh_of (de_fz (de_call h0 hr rfl (da_cons (dh_of (de_ix ix_seq o2_idx (dh_var 0) (dh_of (de_int)) (fun _ _ => rfl))) da_nil)))) (da_cons (dh_of (de_fz (de_call h0 hr rfl (da_cons (dh_of (de_ix ix_seq o2_idx (dh_var 0) (dh_of (de_int)) (fun _ _ => rfl))) da_nil)))) da_nil)))))) (dss_nil)) (dss_cons (ds_set 1 nd (de_ix ix_seq o2_idx (dh_var 0) (dh_of (de_int)) (fun _ _ => rfl))) (dss_cons (ds_if (dt_truth (dh_of (de_bi call_isi on_isi rfl T.isinstance_ boot_isinstance (da_cons (dh_var 1) (da_cons (dh_of (de_tyn rfl T.str_ boot_str)) da_nil))))) (dss_one (ds_ret (de_var 0))) (dss_nil)) (dss_cons (ds_if (dt_cmp (op_eqA (hu64 hr)) o2_eq (dh_of (de_ix ix_seq o2_idx (dh_var 1) (dh_of (de_int)) (fun _ _ => rfl))) (dh_of (de_str)) (nomark _)) (dss_one (ds_ret (de_call h0 hr rfl (da_cons (dh_of (de_ix ix_seq o2_idx (dh_var 1) (dh_of (de_int)) (fun _ _ => rfl))) da_nil)))) (dss_nil)) (dss_cons (ds_set 2 nd (de_if (dt_cmp (op_eqA (hu64 hr)) o2_eq (dh_of (de_ix ix_seq o2_idx (dh_var 1) (dh_of (de_int)) (fun _ _ => rfl))) (dh_of (de_str)) (nomark _)) (de_str) (de_str))) (dss_one (ds_ret (de_tup (da_cons (dh_of (de_fz (de_mov 2))) (da_cons (dh_of (de_fz (de_call h0 hr rfl (da_cons (dh_of (de_fz (de_tup (da_cons (dh_of (de_str)) (da_cons (dh_of (de_ix ix_seq o2_idx (dh_var 1) (dh_of (de_int)) (fun _ _ => rfl))) da_nil))))) da_nil)))) (da_cons (dh_of (de_fz (de_call h0 hr rfl (da_cons (dh_of (de_fz (de_tup (da_cons (dh_of (de_str)) (da_cons (dh_of (de_ix ix_seq o2_idx (dh_var 1) (dh_of (de_int)) (fun _ _ => rfl))) da_nil))))) da_nil)))) da_nil)))))))))))
theorem w_turned_in (T : Top K mg) : FOk P w K mg base 12 "turned_in" ["question"] F_turned_in := by
  have h : ∀ n, FOk P w K mg base (0 + n) "turned_in" ["question"] (R_turned_in n) := fun n => by
    induction n with
    | zero =>
      obtain ⟨f, fd, FF, fb, fm⟩ := T.f_turned_in
      exact FOk.void FF fb fm
    | succ n ih => exact v_turned_in T ih
  exact h 12
noncomputable def d_law_fits (F0 : List D → Option (D × List D)) : Ev → Option Out := bCons (bIf (tT (hE (eN gIsi (aCons (hV 1) (aCons (hE (eC (.ty "str"))) aNil))))) (bRet (e2 (gInX false) (hV 1) (hV 0))) (bNil)) (bCons (bIf (tB' (e2 gEq (hE (e2 gIdx (hV 1) (hE (eC (.int 0))))) (hE (eC (.str "not"))))) (bRet (eNo (eCall 2 F0 (aCons (hV 0) (aCons (hE (e2 gIdx (hV 1) (hE (eC (.int 1))))) aNil))))) (bNil)) (bCons (bIf (tB' (e2 gEq (hE (e2 gIdx (hV 1) (hE (eC (.int 0))))) (hE (eC (.str "and"))))) (bRet (eAn (eCall 2 F0 (aCons (hV 0) (aCons (hE (e2 gIdx (hV 1) (hE (eC (.int 1))))) aNil))) (eCall 2 F0 (aCons (hV 0) (aCons (hE (e2 gIdx (hV 1) (hE (eC (.int 2))))) aNil))))) (bNil)) (bRet (eOr (eCall 2 F0 (aCons (hV 0) (aCons (hE (e2 gIdx (hV 1) (hE (eC (.int 1))))) aNil))) (eCall 2 F0 (aCons (hV 0) (aCons (hE (e2 gIdx (hV 1) (hE (eC (.int 2))))) aNil)))))))
noncomputable def S_law_fits (F0 : List D → Option (D × List D)) : List D → Option (D × List D) := fnD [true, true] 2 (d_law_fits F0)
noncomputable def R_law_fits : Nat → List D → Option (D × List D)
  | 0 => fun _ => none
  | n + 1 => S_law_fits (R_law_fits n)
noncomputable def F_law_fits : List D → Option (D × List D) := R_law_fits 12
theorem v_law_fits {F0 : List D → Option (D × List D)} {k : Nat} (T : Top K mg) (h0 : FOk P w K mg base k "_law_fits" ["words_there", "question"] F0) : FOk P w K mg base (k + 1) "_law_fits" ["words_there", "question"] (S_law_fits F0) := by
  obtain ⟨f, fd, FF, fb, fm⟩ := T.f_law_fits
  have nd := sc_law_fits.nd
  exact def_ok FF sc_law_fits fb fm [0, 1] [true, true] 2 (d_law_fits F0) rfl rfl (by decide) (by decide) fun cdv A outer s H E hr => dss_cons (ds_if (dt_truth (dh_of (de_bi call_isi on_isi rfl T.isinstance_ boot_isinstance (da_cons (dh_var 1) (da_cons (dh_of (de_tyn rfl T.str_ boot_str)) da_nil))))) (dss_one (ds_ret (de_cmp (op_inXA (hu65 hr)) o2_inX (dh_var 1) (dh_var 0) rfl))) (dss_nil)) (dss_cons (ds_if (dt_cmp (op_eqA (hu64 hr)) o2_eq (dh_of (de_ix ix_seq o2_idx (dh_var 1) (dh_of (de_int)) (fun _ _ => rfl))) (dh_of (de_str)) (nomark _)) (dss_one (ds_ret (de_not (de_call h0 hr rfl (da_cons (dh_var 0) (da_cons (dh_of (de_ix ix_seq o2_idx (dh_var 1) (dh_of (de_int)) (fun _ _ => rfl))) da_nil)))))) (dss_nil)) (dss_cons (ds_if (dt_cmp (op_eqA (hu64 hr)) o2_eq (dh_of (de_ix ix_seq o2_idx (dh_var 1) (dh_of (de_int)) (fun _ _ => rfl))) (dh_of (de_str)) (nomark _)) (dss_one (ds_ret (de_and (de_call h0 hr rfl (da_cons (dh_var 0) (da_cons (dh_of (de_ix ix_seq o2_idx (dh_var 1) (dh_of (de_int)) (fun _ _ => rfl))) da_nil))) (de_one (de_call h0 hr rfl (da_cons (dh_var 0) (da_cons (dh_of (de_ix ix_seq o2_idx (dh_var 1) (dh_of (de_int)) (fun _ _ => rfl))) da_nil))))))) (dss_nil)) (dss_one (ds_ret (de_or (de_call h0 hr rfl (da_cons (dh_var 0) (da_cons (dh_of (de_ix ix_seq o2_idx (dh_var 1) (dh_of (de_int)) (fun _ _ => rfl))) da_nil))) (de_one (de_call h0 hr rfl (da_cons (dh_var 0) (da_cons (dh_of (de_ix ix_seq o2_idx (dh_var 1) (dh_of (de_int)) (fun _ _ => rfl))) da_nil)))))))))
theorem w_law_fits (T : Top K mg) : FOk P w K mg base 12 "_law_fits" ["words_there", "question"] F_law_fits := by
  have h : ∀ n, FOk P w K mg base (0 + n) "_law_fits" ["words_there", "question"] (R_law_fits n) := fun n => by
    induction n with
    | zero =>
      obtain ⟨f, fd, FF, fb, fm⟩ := T.f_law_fits
      exact FOk.void FF fb fm
    | succ n ih => exact v_law_fits T ih
  exact h 12
noncomputable def d_law_text (F0 : List D → Option (D × List D)) : Ev → Option Out := bCons (bIf (tT (hE (eN gIsi (aCons (hV 0) (aCons (hE (eC (.ty "str"))) aNil))))) (bRet (eV 0)) (bNil)) (bCons (bIf (tB' (e2 gEq (hE (eN gLen (aCons (hV 0) aNil))) (hE (eC (.int 2))))) (bRet (e2 gAdd (hE (eC (.str "not "))) (hE (eCall 1 F0 (aCons (hE (e2 gIdx (hV 0) (hE (eC (.int 1))))) aNil))))) (bNil)) (bRet (e2 gAdd (hE (e2 gAdd (hE (e2 gAdd (hE (e2 gAdd (hE (e2 gAdd (hE (e2 gAdd (hE (eC (.str "("))) (hE (eCall 1 F0 (aCons (hE (e2 gIdx (hV 0) (hE (eC (.int 1))))) aNil))))) (hE (eC (.str " "))))) (hE (e2 gIdx (hV 0) (hE (eC (.int 0))))))) (hE (eC (.str " "))))) (hE (eCall 1 F0 (aCons (hE (e2 gIdx (hV 0) (hE (eC (.int 2))))) aNil))))) (hE (eC (.str ")"))))))
noncomputable def S_law_text (F0 : List D → Option (D × List D)) : List D → Option (D × List D) := fnD [true] 1 (d_law_text F0)
noncomputable def R_law_text : Nat → List D → Option (D × List D)
  | 0 => fun _ => none
  | n + 1 => S_law_text (R_law_text n)
noncomputable def F_law_text : List D → Option (D × List D) := R_law_text 12
theorem v_law_text {F0 : List D → Option (D × List D)} {k : Nat} (T : Top K mg) (h0 : FOk P w K mg base k "_law_text" ["question"] F0) : FOk P w K mg base (k + 1) "_law_text" ["question"] (S_law_text F0) := by
  obtain ⟨f, fd, FF, fb, fm⟩ := T.f_law_text
  have nd := sc_law_text.nd
  exact def_ok FF sc_law_text fb fm [0] [true] 1 (d_law_text F0) rfl rfl (by decide) (by decide) fun cdv A outer s H E hr => dss_cons (ds_if (dt_truth (dh_of (de_bi call_isi on_isi rfl T.isinstance_ boot_isinstance (da_cons (dh_var 0) (da_cons (dh_of (de_tyn rfl T.str_ boot_str)) da_nil))))) (dss_one (ds_ret (de_var 0))) (dss_nil)) (dss_cons (ds_if (dt_cmp (op_eqA (hu64 hr)) o2_eq (dh_of (de_bi call_len on_len rfl T.len_ boot_len (da_cons (dh_var 0) da_nil))) (dh_of (de_int)) (nomark _)) (dss_one (ds_ret (de_op op_addA o2_add (dh_of (de_str)) (dh_of (de_call h0 hr rfl (da_cons (dh_of (de_ix ix_seq o2_idx (dh_var 0) (dh_of (de_int)) (fun _ _ => rfl))) da_nil)))))) (dss_nil)) (dss_one (ds_ret (de_op op_addA o2_add (dh_of (de_op op_addA o2_add (dh_of (de_op op_addA o2_add (dh_of (de_op op_addA o2_add (dh_of (de_op op_addA o2_add (dh_of (de_op op_addA o2_add (dh_of (de_str)) (dh_of (de_call h0 hr rfl (da_cons (dh_of (de_ix ix_seq o2_idx (dh_var 0) (dh_of (de_int)) (fun _ _ => rfl))) da_nil))))) (dh_of (de_str)))) (dh_of (de_ix ix_seq o2_idx (dh_var 0) (dh_of (de_int)) (fun _ _ => rfl))))) (dh_of (de_str)))) (dh_of (de_call h0 hr rfl (da_cons (dh_of (de_ix ix_seq o2_idx (dh_var 0) (dh_of (de_int)) (fun _ _ => rfl))) da_nil))))) (dh_of (de_str))))))
theorem w_law_text (T : Top K mg) : FOk P w K mg base 12 "_law_text" ["question"] F_law_text := by
  have h : ∀ n, FOk P w K mg base (0 + n) "_law_text" ["question"] (R_law_text n) := fun n => by
    induction n with
    | zero =>
      obtain ⟨f, fd, FF, fb, fm⟩ := T.f_law_text
      exact FOk.void FF fb fm
    | succ n ih => exact v_law_text T ih
  exact h 12
noncomputable def d_law_turned (F0 : List D → Option (D × List D)) : Ev → Option Out := bCons (bIf (tT (hE (eN gIsi (aCons (hV 0) (aCons (hE (eC (.ty "str"))) aNil))))) (bRet (eIf (tT (hV 1)) (eV 0) (eTup (aCons (hE (eC (.str "not"))) (aCons (hE (eV 0)) aNil))))) (bNil)) (bCons (bIf (tB' (e2 gEq (hE (e2 gIdx (hV 0) (hE (eC (.int 0))))) (hE (eC (.str "not"))))) (bRet (eCall 2 F0 (aCons (hE (e2 gIdx (hV 0) (hE (eC (.int 1))))) (aCons (hE (eNo (eV 1))) aNil)))) (bNil)) (bCons (bAsg (e2 gIdx (hV 0) (hE (eC (.int 0)))) (gNm 2)) (bCons (bIf (tNo (tT (hV 1))) (bAsg (eIf (tB' (e2 gEq (hV 2) (hE (eC (.str "and"))))) (eC (.str "or")) (eC (.str "and"))) (gNm 2)) (bNil)) (bRet (eTup (aCons (hE (eFz (eM 2))) (aCons (hE (eFz (eCall 2 F0 (aCons (hE (e2 gIdx (hV 0) (hE (eC (.int 1))))) (aCons (hV 1) aNil))))) (aCons (hE (eFz (eCall 2 F0 (aCons (hE (e2 gIdx (hV 0) (hE (eC (.int 2))))) (aCons (hV 1) aNil))))) aNil))))))))
noncomputable def S_law_turned (F0 : List D → Option (D × List D)) : List D → Option (D × List D) := fnD [true, true] 3 (d_law_turned F0)
noncomputable def R_law_turned : Nat → List D → Option (D × List D)
  | 0 => fun _ => none
  | n + 1 => S_law_turned (R_law_turned n)
noncomputable def F_law_turned : List D → Option (D × List D) := R_law_turned 12
theorem v_law_turned {F0 : List D → Option (D × List D)} {k : Nat} (T : Top K mg) (h0 : FOk P w K mg base k "_law_turned" ["question", "right"] F0) : FOk P w K mg base (k + 1) "_law_turned" ["question", "right"] (S_law_turned F0) := by
  obtain ⟨f, fd, FF, fb, fm⟩ := T.f_law_turned
  have nd := sc_law_turned.nd
  exact def_ok FF sc_law_turned fb fm [0, 1] [true, true] 3 (d_law_turned F0) rfl rfl (by decide) (by decide) fun cdv A outer s H E hr => dss_cons (ds_if (dt_truth (dh_of (de_bi call_isi on_isi rfl T.isinstance_ boot_isinstance (da_cons (dh_var 0) (da_cons (dh_of (de_tyn rfl T.str_ boot_str)) da_nil))))) (dss_one (ds_ret (de_if (dt_truth (dh_var 1)) (de_var 0) (de_tup (da_cons (dh_of (de_str)) (da_cons (dh_of (de_var 0)) da_nil)))))) (dss_nil)) (dss_cons (ds_if (dt_cmp (op_eqA (hu64 hr)) o2_eq (dh_of (de_ix ix_seq o2_idx (dh_var 0) (dh_of (de_int)) (fun _ _ => rfl))) (dh_of (de_str)) (nomark _)) (dss_one (ds_ret (de_call h0 hr rfl (da_cons (dh_of (de_ix ix_seq o2_idx (dh_var 0) (dh_of (de_int)) (fun _ _ => rfl))) (da_cons (dh_of (de_not (de_var 1))) da_nil))))) (dss_nil)) (dss_cons (ds_set 2 nd (de_ix ix_seq o2_idx (dh_var 0) (dh_of (de_int)) (fun _ _ => rfl))) (dss_cons (ds_if (dt_not (dt_truth (dh_var 1))) (dss_one (ds_set 2 nd (de_if (dt_cmp (op_eqA (hu64 hr)) o2_eq (dh_var 2) (dh_of (de_str)) (nomark _)) (de_str) (de_str)))) (dss_nil)) (dss_one (ds_ret (de_tup (da_cons (dh_of (de_fz (de_mov 2))) (da_cons (dh_of (de_fz (de_call h0 hr rfl (da_cons (dh_of (de_ix ix_seq o2_idx (dh_var 0) (dh_of (de_int)) (fun _ _ => rfl))) (da_cons (dh_var 1) da_nil))))) (da_cons (dh_of (de_fz (de_call h0 hr rfl (da_cons (dh_of (de_ix ix_seq o2_idx (dh_var 0) (dh_of (de_int)) (fun _ _ => rfl))) (da_cons (dh_var 1) da_nil))))) da_nil)))))))))
theorem w_law_turned (T : Top K mg) : FOk P w K mg base 12 "_law_turned" ["question", "right"] F_law_turned := by
  have h : ∀ n, FOk P w K mg base (0 + n) "_law_turned" ["question", "right"] (R_law_turned n) := fun n => by
    induction n with
    | zero =>
      obtain ⟨f, fd, FF, fb, fm⟩ := T.f_law_turned
      exact FOk.void FF fb fm
    | succ n ih => exact v_law_turned T ih
  exact h 12
noncomputable def d_same_answers : Ev → Option Out := bRet (e2 gEq (hE (eCall 2 F_found_by (aCons (hV 0) (aCons (hV 1) aNil)))) (hE (eCall 2 F_found_by (aCons (hV 0) (aCons (hV 2) aNil)))))
noncomputable def F_same_answers : List D → Option (D × List D) := fnD [true, true, true] 3 d_same_answers
theorem w_same_answers (T : Top K mg) (h_found_by : FOk P w K mg base 12 "found_by" ["things", "question"] F_found_by) : FOk P w K mg base 13 "same_answers" ["things", "one", "other"] F_same_answers := by
  obtain ⟨f, fd, FF, fb, fm⟩ := T.f_same_answers
  have nd := sc_same_answers.nd
  exact def_ok FF sc_same_answers fb fm [0, 1, 2] [true, true, true] 3 d_same_answers rfl rfl (by decide) (by decide) fun cdv A outer s H E hr => dss_one (ds_ret (de_cmp (op_eqA (hu64 hr)) o2_eq (dh_of (de_call h_found_by hr rfl (da_cons (dh_var 0) (da_cons (dh_var 1) da_nil)))) (dh_of (de_call h_found_by hr rfl (da_cons (dh_var 0) (da_cons (dh_var 2) da_nil)))) (nomark _)))
noncomputable def d_law_found : Ev → Option Out := bRet (eLc [2] (iRg1 (aCons (hE (eN gLen (aCons (hV 0) aNil))) aNil)) (gNm 2) (tT (hE (eCall 2 F_law_fits (aCons (hE (e2 gIdx (hV 0) (hV 2))) (aCons (hV 1) aNil))))) (eV 2))
noncomputable def F_law_found : List D → Option (D × List D) := fnD [true, true] 3 d_law_found
theorem w_law_found (T : Top K mg) (h_law_fits : FOk P w K mg base 12 "_law_fits" ["words_there", "question"] F_law_fits) : FOk P w K mg base 13 "_law_found" ["stock", "question"] F_law_found := by
  obtain ⟨f, fd, FF, fb, fm⟩ := T.f_law_found
  have nd := sc_law_found.nd
  exact def_ok FF sc_law_found fb fm [0, 1] [true, true] 3 d_law_found rfl rfl (by decide) (by decide) fun cdv A outer s H E hr => dss_one (ds_ret (de_lc (own := [("k", 2)]) [0, 1, 2] [0, 1] 3 rfl nd rfl (di_range1 rfl T.range_ (da_cons (dh_of (de_bi call_len on_len rfl T.len_ boot_len (da_cons (dh_var 0) da_nil))) da_nil)) (blk_ok (by kernel_rfl)) (fun _ _ _ _ _ => dg_name 2 nd) (fun _ _ _ _ _ => dts_one (dt_truth (dh_of (de_call h_law_fits hr rfl (da_cons (dh_of (de_ix ix_seq o2_idx (dh_var 0) (dh_var 2) (fun _ _ => rfl))) (da_cons (dh_var 1) da_nil)))))) (fun _ _ _ _ _ => de_var 2)))
noncomputable def d_law_question (F0 : List D → Option (D × List D)) : Ev → Option Out := bCons (bAsg (eCall 2 F_law_draw (aCons (hV 0) (aCons (hE (eC (.int 7))) aNil))) (gNm 3)) (bCons (bIf (tOr' (tB' (e2 gEq (hV 2) (hE (eC (.int 0))))) (tB' (e2 gEq (hV 3) (hE (eC (.int 0)))))) (bRet (eCall 2 F_law_pick (aCons (hV 0) (aCons (hV 1) aNil)))) (bNil)) (bCons (bIf (tB' (e2 gLtX (hV 3) (hE (eC (.int 3))))) (bRet (eTup (aCons (hE (eC (.str "not"))) (aCons (hE (eFz (eCall 3 F0 (aCons (hV 0) (aCons (hV 1) (aCons (hE (e2 gSubt (hV 2) (hE (eC (.int 1))))) aNil)))))) aNil)))) (bNil)) (bRet (eTup (aCons (hE (e2 gIdx (hE (eLst (aCons (hE (eC (.str "and"))) (aCons (hE (eC (.str "or"))) aNil)))) (hE (e2 gMod (hE (eN gInt (aCons (hV 3) aNil))) (hE (eC (.int 2))))))) (aCons (hE (eFz (eCall 3 F0 (aCons (hV 0) (aCons (hV 1) (aCons (hE (e2 gSubt (hV 2) (hE (eC (.int 1))))) aNil)))))) (aCons (hE (eFz (eCall 3 F0 (aCons (hV 0) (aCons (hV 1) (aCons (hE (e2 gSubt (hV 2) (hE (eC (.int 1))))) aNil)))))) aNil)))))))
noncomputable def S_law_question (F0 : List D → Option (D × List D)) : List D → Option (D × List D) := fnD [true, true, true] 4 (d_law_question F0)
noncomputable def R_law_question : Nat → List D → Option (D × List D)
  | 0 => fun _ => none
  | n + 1 => S_law_question (R_law_question n)
noncomputable def F_law_question : List D → Option (D × List D) := R_law_question 12
theorem v_law_question {F0 : List D → Option (D × List D)} {k : Nat} (T : Top K mg) (h0 : FOk P w K mg base k "_law_question" ["box", "texts", "deep"] F0) (h_law_draw : FOk P w K mg base k "_law_draw" ["box", "many"] F_law_draw) (h_law_pick : FOk P w K mg base k "_law_pick" ["box", "lot"] F_law_pick) : FOk P w K mg base (k + 1) "_law_question" ["box", "texts", "deep"] (S_law_question F0) := by
  obtain ⟨f, fd, FF, fb, fm⟩ := T.f_law_question
  have nd := sc_law_question.nd
  exact def_ok FF sc_law_question fb fm [0, 1, 2] [true, true, true] 4 (d_law_question F0) rfl rfl (by decide) (by decide) fun cdv A outer s H E hr => dss_cons (ds_set 3 nd (de_call h_law_draw hr rfl (da_cons (dh_var 0) (da_cons (dh_of (de_int)) da_nil)))) (dss_cons (ds_if (dt_w (dw_or (dt_cmp (op_eqA (hu64 hr)) o2_eq (dh_var 2) (dh_of (de_int)) (nomark _)) (dw_or1 (dt_cmp (op_eqA (hu64 hr)) o2_eq (dh_var 3) (dh_of (de_int)) (nomark _))))) (dss_one (ds_ret (de_call h_law_pick hr rfl (da_cons (dh_var 0) (da_cons (dh_var 1) da_nil))))) (dss_nil)) (dss_cons (ds_if (dt_cmp (op_ltXA (hu65 hr)) o2_ltX (dh_var 3) (dh_of (de_int)) (nomark _)) (dss_one (ds_ret (de_tup (da_cons (dh_of (de_str)) (da_cons (dh_of (de_fz (de_call h0 hr rfl (da_cons (dh_var 0) (da_cons (dh_var 1) (da_cons (dh_of (de_op op_sub o2_sub (dh_var 2) (dh_of (de_int)))) da_nil)))))) da_nil))))) (dss_nil)) (dss_one (ds_ret (de_tup (da_cons (dh_of (de_ix ix_seq o2_idx (dh_of (de_lst (da_cons (dh_of (de_str)) (da_cons (dh_of (de_str)) da_nil)))) (dh_of (de_op op_mod o2_mod (dh_of (de_ty call_intA on_int rfl T.int_ boot_int (da_cons (dh_var 3) da_nil))) (dh_of (de_int)))) (fun _ _ => rfl))) (da_cons (dh_of (de_fz (de_call h0 hr rfl (da_cons (dh_var 0) (da_cons (dh_var 1) (da_cons (dh_of (de_op op_sub o2_sub (dh_var 2) (dh_of (de_int)))) da_nil)))))) (da_cons (dh_of (de_fz (de_call h0 hr rfl (da_cons (dh_var 0) (da_cons (dh_var 1) (da_cons (dh_of (de_op op_sub o2_sub (dh_var 2) (dh_of (de_int)))) da_nil)))))) da_nil))))))))
theorem w_law_question (T : Top K mg) (h_law_draw : FOk P w K mg base 2 "_law_draw" ["box", "many"] F_law_draw) (h_law_pick : FOk P w K mg base 2 "_law_pick" ["box", "lot"] F_law_pick) : FOk P w K mg base 14 "_law_question" ["box", "texts", "deep"] F_law_question := by
  have h : ∀ n, FOk P w K mg base (2 + n) "_law_question" ["box", "texts", "deep"] (R_law_question n) := fun n => by
    induction n with
    | zero =>
      obtain ⟨f, fd, FF, fb, fm⟩ := T.f_law_question
      exact FOk.void FF fb fm
    | succ n ih => exact v_law_question T ih (h_law_draw.mono (by first | exact Nat.le_add_right _ _ | omega)) (h_law_pick.mono (by first | exact Nat.le_add_right _ _ | omega))
  exact h 12
noncomputable def d_law_bent (F0 : List D → Option (D × List D)) : Ev → Option Out := bCons (bIf (tT (hE (eN gIsi (aCons (hV 1) (aCons (hE (eC (.ty "str"))) aNil))))) (bRet (eCall 2 F_law_pick (aCons (hV 0) (aCons (hE (eFz (eLst (aCons (hE (eFz (eTup (aCons (hE (eC (.str "not"))) (aCons (hE (eV 1)) aNil))))) (aCons (hE (eFz (eCall 2 F_law_pick (aCons (hV 0) (aCons (hV 2) aNil))))) aNil))))) aNil)))) (bNil)) (bCons (bIf (tB' (e2 gEq (hE (e2 gIdx (hV 1) (hE (eC (.int 0))))) (hE (eC (.str "not"))))) (bRet (eCall 2 F_law_pick (aCons (hV 0) (aCons (hE (eFz (eLst (aCons (hE (e2 gIdx (hV 1) (hE (eC (.int 1))))) (aCons (hE (eFz (eTup (aCons (hE (eC (.str "not"))) (aCons (hE (eFz (eCall 3 F0 (aCons (hV 0) (aCons (hE (e2 gIdx (hV 1) (hE (eC (.int 1))))) (aCons (hV 2) aNil)))))) aNil))))) aNil))))) aNil)))) (bNil)) (bCons (bAsg (eCall 2 F_law_draw (aCons (hV 0) (aCons (hE (eC (.int 3))) aNil))) (gNm 3)) (bCons (bIf (tB' (e2 gEq (hV 3) (hE (eC (.int 0))))) (bRet (eTup (aCons (hE (eIf (tB' (e2 gEq (hE (e2 gIdx (hV 1) (hE (eC (.int 0))))) (hE (eC (.str "and"))))) (eC (.str "or")) (eC (.str "and")))) (aCons (hE (e2 gIdx (hV 1) (hE (eC (.int 1))))) (aCons (hE (e2 gIdx (hV 1) (hE (eC (.int 2))))) aNil))))) (bNil)) (bCons (bIf (tB' (e2 gEq (hV 3) (hE (eC (.int 1))))) (bRet (eTup (aCons (hE (e2 gIdx (hV 1) (hE (eC (.int 0))))) (aCons (hE (eFz (eCall 3 F0 (aCons (hV 0) (aCons (hE (e2 gIdx (hV 1) (hE (eC (.int 1))))) (aCons (hV 2) aNil)))))) (aCons (hE (e2 gIdx (hV 1) (hE (eC (.int 2))))) aNil))))) (bNil)) (bRet (eTup (aCons (hE (e2 gIdx (hV 1) (hE (eC (.int 0))))) (aCons (hE (e2 gIdx (hV 1) (hE (eC (.int 1))))) (aCons (hE (eFz (eCall 3 F0 (aCons (hV 0) (aCons (hE (e2 gIdx (hV 1) (hE (eC (.int 2))))) (aCons (hV 2) aNil)))))) aNil)))))))))
noncomputable def S_law_bent (F0 : List D → Option (D × List D)) : List D → Option (D × List D) := fnD [true, true, true] 4 (d_law_bent F0)
noncomputable def R_law_bent : Nat → List D → Option (D × List D)
  | 0 => fun _ => none
  | n + 1 => S_law_bent (R_law_bent n)
noncomputable def F_law_bent : List D → Option (D × List D) := R_law_bent 12
theorem v_law_bent {F0 : List D → Option (D × List D)} {k : Nat} (T : Top K mg) (h0 : FOk P w K mg base k "_law_bent" ["box", "question", "texts"] F0) (h_law_draw : FOk P w K mg base k "_law_draw" ["box", "many"] F_law_draw) (h_law_pick : FOk P w K mg base k "_law_pick" ["box", "lot"] F_law_pick) : FOk P w K mg base (k + 1) "_law_bent" ["box", "question", "texts"] (S_law_bent F0) := by
  obtain ⟨f, fd, FF, fb, fm⟩ := T.f_law_bent
  have nd := sc_law_bent.nd
  exact def_ok FF sc_law_bent fb fm [0, 1, 2] [true, true, true] 4 (d_law_bent F0) rfl rfl (by decide) (by decide) fun cdv A outer s H E hr => dss_cons (ds_if (dt_truth (dh_of (de_bi call_isi on_isi rfl T.isinstance_ boot_isinstance (da_cons (dh_var 1) (da_cons (dh_of (de_tyn rfl T.str_ boot_str)) da_nil))))) (dss_one (ds_ret (de_call h_law_pick hr rfl (da_cons (dh_var 0) (da_cons (dh_of (de_fz (de_lst (da_cons (dh_of (de_fz (de_tup (da_cons (dh_of (de_str)) (da_cons (dh_of (de_var 1)) da_nil))))) (da_cons (dh_of (de_fz (de_call h_law_pick hr rfl (da_cons (dh_var 0) (da_cons (dh_var 2) da_nil))))) da_nil))))) da_nil))))) (dss_nil)) (dss_cons (ds_if (dt_cmp (op_eqA (hu64 hr)) o2_eq (dh_of (de_ix ix_seq o2_idx (dh_var 1) (dh_of (de_int)) (fun _ _ => rfl))) (dh_of (de_str)) (nomark _)) (dss_one (ds_ret (de_call h_law_pick hr rfl (da_cons (dh_var 0) (da_cons (dh_of (de_fz (de_lst (da_cons (dh_of (de_ix ix_seq o2_idx (dh_var 1) (dh_of (de_int)) (fun _ _ => rfl))) (da_cons (dh_of (de_fz (de_tup (da_cons (dh_of (de_str)) (da_cons (dh_of (de_fz (de_call h0 hr rfl (da_cons (dh_var 0) (da_cons (dh_of (de_ix ix_seq o2_idx (dh_var 1) (dh_of (de_int)) (fun _ _ => rfl))) (da_cons (dh_var 2) da_nil)))))) da_nil))))) da_nil))))) da_nil))))) (dss_nil)) (dss_cons (ds_set 3 nd (de_call h_law_draw hr rfl (da_cons (dh_var 0) (da_cons (dh_of (de_int)) da_nil)))) (dss_cons (ds_if (dt_cmp (op_eqA (hu64 hr)) o2_eq (dh_var 3) (dh_of (de_int)) (nomark _)) (dss_one (ds_ret (de_tup (da_cons (dh_of (de_if (dt_cmp (op_eqA (hu64 hr)) o2_eq (dh_of (de_ix ix_seq o2_idx (dh_var 1) (dh_of (de_int)) (fun _ _ => rfl))) (dh_of (de_str)) (nomark _)) (de_str) (de_str))) (da_cons (dh_of (de_ix ix_seq o2_idx (dh_var 1) (dh_of (de_int)) (fun _ _ => rfl))) (da_cons (dh_of (de_ix ix_seq o2_idx (dh_var 1) (dh_of (de_int)) (fun _ _ => rfl))) da_nil)))))) (dss_nil)) (dss_cons (ds_if (dt_cmp (op_eqA (hu64 hr)) o2_eq (dh_var 3) (dh_of (de_int)) (nomark _)) (dss_one (ds_ret (de_tup (da_cons (dh_of (de_ix ix_seq o2_idx (dh_var 1) (dh_of (de_int)) (fun _ _ => rfl))) (da_cons (dh_of (de_fz (de_call h0 hr rfl (da_cons (dh_var 0) (da_cons (dh_of (de_ix ix_seq o2_idx (dh_var 1) (dh_of (de_int)) (fun _ _ => rfl))) (da_cons (dh_var 2) da_nil)))))) (da_cons (dh_of (de_ix ix_seq o2_idx (dh_var 1) (dh_of (de_int)) (fun _ _ => rfl))) da_nil)))))) (dss_nil)) (dss_one (ds_ret (de_tup (da_cons (dh_of (de_ix ix_seq o2_idx (dh_var 1) (dh_of (de_int)) (fun _ _ => rfl))) (da_cons (dh_of (de_ix ix_seq o2_idx (dh_var 1) (dh_of (de_int)) (fun _ _ => rfl))) (da_cons (dh_of (de_fz (de_call h0 hr rfl (da_cons (dh_var 0) (da_cons (dh_of (de_ix ix_seq o2_idx (dh_var 1) (dh_of (de_int)) (fun _ _ => rfl))) (da_cons (dh_var 2) da_nil)))))) da_nil))))))))))
theorem w_law_bent (T : Top K mg) (h_law_draw : FOk P w K mg base 2 "_law_draw" ["box", "many"] F_law_draw) (h_law_pick : FOk P w K mg base 2 "_law_pick" ["box", "lot"] F_law_pick) : FOk P w K mg base 14 "_law_bent" ["box", "question", "texts"] F_law_bent := by
  have h : ∀ n, FOk P w K mg base (2 + n) "_law_bent" ["box", "question", "texts"] (R_law_bent n) := fun n => by
    induction n with
    | zero =>
      obtain ⟨f, fd, FF, fb, fm⟩ := T.f_law_bent
      exact FOk.void FF fb fm
    | succ n ih => exact v_law_bent T ih (h_law_draw.mono (by first | exact Nat.le_add_right _ _ | omega)) (h_law_pick.mono (by first | exact Nat.le_add_right _ _ | omega))
  exact h 12
noncomputable def b_law_1 : Ev → Option Out := bIf (tB' (e2 (gInX true) (hV 4) (hV 3))) (bAsg (eV 4) (gIx 3 (hE (eCall 2 F_law_draw (aCons (hV 1) (aCons (hE (eC (.int 6))) aNil)))))) (bNil)
noncomputable def b_law_2 : Ev → Option Out := bIf (tB' (e2 (gInX true) (hV 4) (hV 5))) (bExp (eMut 5 gApp (aCons (hE (eV 4)) aNil))) (bNil)
noncomputable def b_law_3 : Ev → Option Out := bCons (bAsg (e2 gAdd (hE (eC (.int 2))) (hE (eCall 2 F_law_draw (aCons (hV 1) (aCons (hE (eC (.int 2))) aNil))))) (gNm 8)) (bExp (eMut 6 gApp (aCons (hE (eFz (eCall 2 F_law_mixed (aCons (hV 1) (aCons (hE (eFz (eLc [4] (iSq (hV 5)) (gNm 4) (tB' (e2 gEq (hE (eCall 2 F_law_draw (aCons (hV 1) (aCons (hV 8) aNil)))) (hE (eC (.int 0))))) (eV 4)))) aNil))))) aNil)))
noncomputable def b_law_4 : Ev → Option Out := bIf (tNo (tT (hE (eCall 2 F_law_same (aCons (hE (eFz (eCall 3 F_same_answers (aCons (hV 9) (aCons (hV 13) (aCons (hV 18) aNil)))))) (aCons (hE (e2 gEq (hE (eCall 2 F_law_found (aCons (hV 6) (aCons (hV 18) aNil)))) (hV 14))) aNil)))))) (bRet (eC (.bl false))) (bNil)
noncomputable def j_law_5 : Ev → Option Out := bCons (bAsg (eCall 2 F_law_found (aCons (hV 6) (aCons (hV 13) aNil))) (gNm 14)) (bCons (bAsg (eCall 2 F_found_by (aCons (hV 9) (aCons (hV 13) aNil))) (gNm 15)) (bCons (bIf (tOr' (tNo (tT (hE (eCall 2 F_law_same (aCons (hV 15) (aCons (hV 14) aNil)))))) (tNo (tT (hE (eCall 2 F_law_same (aCons (hE (eFz (eCall 1 F_text_of (aCons (hV 13) aNil)))) (aCons (hE (eFz (eCall 1 F_law_text (aCons (hV 13) aNil)))) aNil))))))) (bRet (eC (.bl false))) (bNil)) (bCons (bExp (eMut 15 gApp (aCons (hE (eC (.int 99))) aNil))) (bCons (bAsg (eCall 1 F_turned_in (aCons (hV 13) aNil)) (gNm 16)) (bCons (bIf (tNo (tT (hE (eCall 2 F_law_same (aCons (hV 16) (aCons (hE (eFz (eCall 2 F_law_turned (aCons (hV 13) (aCons (hE (eC (.bl true))) aNil))))) aNil)))))) (bRet (eC (.bl false))) (bNil)) (bCons (bIf (tOr' (tNo (tT (hE (eCall 2 F_law_same (aCons (hE (eFz (eCall 2 F_found_by (aCons (hV 9) (aCons (hV 16) aNil))))) (aCons (hV 14) aNil)))))) (tB' (e2 gNe (hV 9) (hV 6)))) (bRet (eC (.bl false))) (bNil)) (bCons (bAsg (eCall 3 F_law_bent (aCons (hV 1) (aCons (hV 13) (aCons (hV 3) aNil)))) (gNm 17)) (bCons (bFor (iSq (hE (eLst (aCons (hE (eV 17)) (aCons (hE (eFz (eCall 2 F_law_turned (aCons (hV 13) (aCons (hE (eC (.bl true))) aNil))))) (aCons (hE (eFz (eTup (aCons (hE (eC (.str "not"))) (aCons (hE (eV 13)) aNil))))) (aCons (hE (eFz (eTup (aCons (hE (eC (.str "not"))) (aCons (hE (eFz (eCall 2 F_law_turned (aCons (hV 13) (aCons (hE (eC (.bl false))) aNil))))) aNil))))) (aCons (hE (eFz (eCall 3 F_law_question (aCons (hV 1) (aCons (hV 3) (aCons (hE (eC (.int 2))) aNil)))))) aNil)))))))) (gNm 18) (b_law_4)) (bIf (tB' (e2 gNe (hV 9) (hV 6))) (bRet (eC (.bl false))) (bNil))))))))))
noncomputable def b_law_6 : Ev → Option Out := bCons (bAsg (eCall 3 F_law_question (aCons (hV 1) (aCons (hE (eFz (e2 gAdd (hV 3) (hE (eLst (aCons (hE (eV 11)) aNil)))))) (aCons (hV 12) aNil)))) (gNm 13)) (bCons (bIf (tAn (tB' (e2 gEq (hV 12) (hE (eC (.int 4))))) (tB' (e2 gEq (hE (eCall 2 F_law_draw (aCons (hV 1) (aCons (hE (eC (.int 2))) aNil)))) (hE (eC (.int 0)))))) (bAsg (eTup (aCons (hE (eC (.str "not"))) (aCons (hE (eFz (eTup (aCons (hE (eC (.str "not"))) (aCons (hE (eFz (eTup (aCons (hE (eC (.str "not"))) (aCons (hE (eV 13)) aNil))))) aNil))))) aNil))) (gNm 13)) (bNil)) (j_law_5))
noncomputable def j_law_7 : Ev → Option Out := bCons (bAsg (eLst (aNil)) (gNm 5)) (bCons (bFor (iSq (hV 3)) (gNm 4) (b_law_2)) (bCons (bAsg (eLst (aNil)) (gNm 6)) (bCons (bFor (iRg1 (aCons (hE (eCall 2 F_law_draw (aCons (hV 1) (aCons (hE (eC (.int 7))) aNil)))) aNil)) (gNm 7) (b_law_3)) (bCons (bAsg (eLc [10] (iSq (hV 6)) (gNm 10) (tAll) (eFz (eN gListR (aCons (hV 10) aNil)))) (gNm 9)) (bCons (bAsg (e2 gAdd (hE (e2 gAdd (hE (e2 gIdx (hV 3) (hE (eC (.int 0))))) (hE (e2 gIdx (hV 3) (hE (eC (.int 1))))))) (hE (eC (.str "x")))) (gNm 11)) (bFor (iSq (hE (e2 gIdx (hE (eLst (aCons (hE (eFz (eLst (aCons (hE (eC (.int 0))) (aCons (hE (eC (.int 2))) (aCons (hE (eC (.int 4))) aNil)))))) (aCons (hE (eFz (eLst (aCons (hE (eC (.int 1))) (aCons (hE (eC (.int 3))) aNil))))) aNil)))) (hV 2)))) (gNm 12) (b_law_6)))))))
noncomputable def b_law_8 : Ev → Option Out := bCons (bAsg (eCall 3 F_law_words (aCons (hV 1) (aCons (hE (eC (.int 6))) (aCons (hE (eFz (eLst (aCons (hE (eC (.str "a"))) (aCons (hE (eC (.str "e"))) (aCons (hE (eC (.str "o"))) (aCons (hE (eC (.str "n"))) (aCons (hE (eC (.str "t"))) aNil)))))))) aNil)))) (gNm 3)) (bCons (bIf (tB' (e2 gEq (hE (eCall 2 F_law_draw (aCons (hV 1) (aCons (hE (eC (.int 2))) aNil)))) (hE (eC (.int 0))))) (bFor (iSq (hE (eLst (aCons (hE (eC (.str "not"))) (aCons (hE (eC (.str "and"))) (aCons (hE (eC (.str "or"))) aNil)))))) (gNm 4) (b_law_1)) (bNil)) (j_law_7))
noncomputable def d_law : Ev → Option Out := bCons (bAsg (eLst (aCons (hE (eFz (eCall 3 F_law_digits (aCons (hV 0) (aCons (hE (eC (.int 0))) (aCons (hE (eC (.int 16))) aNil)))))) (aCons (hE (eC (.int 0))) aNil))) (gNm 1)) (bCons (bFor (iRg1 (aCons (hE (eC (.int 2))) aNil)) (gNm 2) (b_law_8)) (bCons (bAsg (eLst (aCons (hE (eFz (eLst (aCons (hE (eC (.str "a"))) (aCons (hE (eC (.str "b"))) aNil))))) (aCons (hE (eFz (eLst (aCons (hE (eC (.str "b"))) aNil)))) (aCons (hE (eFz (eLst (aNil)))) aNil)))) (gNm 6)) (bCons (bIf (tOr' (tNo (tT (hE (eCall 2 F_law_same (aCons (hE (eFz (eCall 2 F_found_by (aCons (hV 6) (aCons (hE (eFz (eTup (aCons (hE (eC (.str "not"))) (aCons (hE (eFz (eTup (aCons (hE (eC (.str "or"))) (aCons (hE (eC (.str "a"))) (aCons (hE (eC (.str "c"))) aNil)))))) aNil))))) aNil))))) (aCons (hE (eFz (eLst (aCons (hE (eC (.int 1))) (aCons (hE (eC (.int 2))) aNil))))) aNil)))))) (tNo (tT (hE (eCall 2 F_law_same (aCons (hE (eFz (eCall 2 F_found_by (aCons (hE (eFz (eLst (aNil)))) (aCons (hE (eC (.str "a"))) aNil))))) (aCons (hE (eFz (eLst (aNil)))) aNil))))))) (bRet (eC (.bl false))) (bNil)) (bCons (bIf (tNo (tT (hE (eCall 2 F_law_same (aCons (hE (eFz (eCall 1 F_turned_in (aCons (hE (eFz (eTup (aCons (hE (eC (.str "not"))) (aCons (hE (eFz (eTup (aCons (hE (eC (.str "and"))) (aCons (hE (eC (.str "a"))) (aCons (hE (eFz (eTup (aCons (hE (eC (.str "not"))) (aCons (hE (eFz (eTup (aCons (hE (eC (.str "not"))) (aCons (hE (eFz (eTup (aCons (hE (eC (.str "or"))) (aCons (hE (eC (.str "b"))) (aCons (hE (eFz (eTup (aCons (hE (eC (.str "not"))) (aCons (hE (eC (.str "c"))) aNil))))) aNil)))))) aNil))))) aNil))))) aNil)))))) aNil))))) aNil)))) (aCons (hE (eFz (eTup (aCons (hE (eC (.str "or"))) (aCons (hE (eFz (eTup (aCons (hE (eC (.str "not"))) (aCons (hE (eC (.str "a"))) aNil))))) (aCons (hE (eFz (eTup (aCons (hE (eC (.str "and"))) (aCons (hE (eFz (eTup (aCons (hE (eC (.str "not"))) (aCons (hE (eC (.str "b"))) aNil))))) (aCons (hE (eC (.str "c"))) aNil)))))) aNil)))))) aNil)))))) (bRet (eC (.bl false))) (bNil)) (bRet (eAn (eCall 2 F_law_same (aCons (hE (eFz (eCall 1 F_text_of (aCons (hE (eFz (eTup (aCons (hE (eC (.str "and"))) (aCons (hE (eFz (eTup (aCons (hE (eC (.str "not"))) (aCons (hE (eC (.str "a"))) aNil))))) (aCons (hE (eFz (eTup (aCons (hE (eC (.str "not"))) (aCons (hE (eFz (eTup (aCons (hE (eC (.str "or"))) (aCons (hE (eC (.str "b"))) (aCons (hE (eC (.str "not"))) aNil)))))) aNil))))) aNil)))))) aNil)))) (aCons (hE (eC (.str "(not a and not (b or not))"))) aNil))) (e2 (gIsB false) (hE (eCall 3 F_same_answers (aCons (hV 6) (aCons (hE (eC (.str "a"))) (aCons (hE (eFz (eTup (aCons (hE (eC (.str "and"))) (aCons (hE (eC (.str "b"))) (aCons (hE (eC (.str "a"))) aNil)))))) aNil))))) (hE (eC (.bl true))))))))))
noncomputable def F_law : List D → Option (D × List D) := fnD [true] 19 d_law
theorem w_law (T : Top K mg) (h_found_by : FOk P w K mg base 14 "found_by" ["things", "question"] F_found_by) (h_text_of : FOk P w K mg base 14 "text_of" ["question"] F_text_of) (h_same_answers : FOk P w K mg base 14 "same_answers" ["things", "one", "other"] F_same_answers) (h_turned_in : FOk P w K mg base 14 "turned_in" ["question"] F_turned_in) (h_law_digits : FOk P w K mg base 14 "_law_digits" ["script", "first", "last"] F_law_digits) (h_law_draw : FOk P w K mg base 14 "_law_draw" ["box", "many"] F_law_draw) (h_law_same : FOk P w K mg base 14 "_law_same" ["told", "due"] F_law_same) (h_law_mixed : FOk P w K mg base 14 "_law_mixed" ["box", "lot"] F_law_mixed) (h_law_words : FOk P w K mg base 14 "_law_words" ["box", "many", "signs"] F_law_words) (h_law_question : FOk P w K mg base 14 "_law_question" ["box", "texts", "deep"] F_law_question) (h_law_found : FOk P w K mg base 14 "_law_found" ["stock", "question"] F_law_found) (h_law_text : FOk P w K mg base 14 "_law_text" ["question"] F_law_text) (h_law_turned : FOk P w K mg base 14 "_law_turned" ["question", "right"] F_law_turned) (h_law_bent : FOk P w K mg base 14 "_law_bent" ["box", "question", "texts"] F_law_bent) : FOk P w K mg base 15 "law" ["script"] F_law := by
  obtain ⟨f, fd, FF, fb, fm⟩ := T.f_law
  have nd := sc_law.nd
  exact def_ok FF sc_law fb fm [0] [true] 19 d_law rfl rfl (by decide) (by decide) fun cdv A outer s H E hr => dss_cons (ds_set 1 nd (de_lst (da_cons (dh_of (de_fz (de_call h_law_digits hr rfl (da_cons (dh_var 0) (da_cons (dh_of (de_int)) (da_cons (dh_of (de_int)) da_nil)))))) (da_cons (dh_of (de_int)) da_nil)))) (dss_cons (ds_for [0] rfl (di_range1 rfl T.range_ (da_cons (dh_of (de_int)) da_nil)) (dg_name 2 nd) (dss_cons (ds_set 3 nd (de_call h_law_words hr rfl (da_cons (dh_var 1) (da_cons (dh_of (de_int)) (da_cons (dh_of (de_fz (de_lst (da_cons (dh_of (de_str)) (da_cons (dh_of (de_str)) (da_cons (dh_of (de_str)) (da_cons (dh_of (de_str)) (da_cons (dh_of (de_str)) da_nil)))))))) da_nil))))) (dss_cons (ds_if (dt_cmp (op_eqA (hu64 hr)) o2_eq (dh_of (de_call h_law_draw hr rfl (da_cons (dh_var 1) (da_cons (dh_of (de_int)) da_nil)))) (dh_of (de_int)) (nomark _)) (dss_one (ds_for [0] rfl (di_any (dh_of (de_lst (da_cons (dh_of (de_str)) (da_cons (dh_of (de_str)) (da_cons (dh_of (de_str)) da_nil))))) hsl_of) (dg_name 4 nd) (dss_one (ds_if (dt_cmp (op_notInXA (hu65 hr)) o2_notInX (dh_var 4) (dh_var 3) rfl) (dss_one (ds_asg (de_var 4) (dg_ix 3 (dh_of (de_call h_law_draw hr rfl (da_cons (dh_var 1) (da_cons (dh_of (de_int)) da_nil))))))) (dss_nil))))) (dss_nil)) (dss_cons (ds_set 5 nd (de_lst (da_nil))) (dss_cons (ds_for [0, 3] rfl (di_any (dh_var 3) (hsl_var (by decide))) (dg_name 4 nd) (dss_one (ds_if (dt_cmp (op_notInXA (hu65 hr)) o2_notInX (dh_var 4) (dh_var 5) rfl) (dss_one (ds_expr (de_mut 5 PySem.F.slot_list_append PySem.F.type_list_append mt_append mo_app (da_cons (dh_of (de_var 4)) da_nil)))) (dss_nil)))) (dss_cons (ds_set 6 nd (de_lst (da_nil))) (dss_cons (ds_for [0] rfl (di_range1 rfl T.range_ (da_cons (dh_of (de_call h_law_draw hr rfl (da_cons (dh_var 1) (da_cons (dh_of (de_int)) da_nil)))) da_nil)) (dg_name 7 nd) (dss_cons (ds_set 8 nd (de_op op_addA o2_add (dh_of (de_int)) (dh_of (de_call h_law_draw hr rfl (da_cons (dh_var 1) (da_cons (dh_of (de_int)) da_nil)))))) (dss_one (ds_expr (de_mut 6 PySem.F.slot_list_append PySem.F.type_list_append mt_append mo_app (da_cons (dh_of (de_fz (de_call h_law_mixed hr rfl (da_cons (dh_var 1) (da_cons (dh_of (de_fz (de_lc (own := [("text", 4)]) [0, 1, 2, 3, 4, 5, 6, 7, 8, 9, 10, 11, 12, 13, 14, 15, 16, 17, 18] [0, 1, 2, 3, 5, 6, 7, 8, 9, 10, 11, 12, 13, 14, 15, 16, 17, 18] 19 rfl nd rfl (di_any (dh_var 5) (hsl_var (by decide))) (blk_ok (by kernel_rfl)) (fun _ _ _ _ _ => dg_name 4 nd) (fun _ _ _ _ _ => dts_one (dt_cmp (op_eqA (hu64 hr)) o2_eq (dh_of (de_call h_law_draw hr rfl (da_cons (dh_var 1) (da_cons (dh_var 8) da_nil)))) (dh_of (de_int)) (nomark _))) (fun _ _ _ _ _ => de_var 4)))) da_nil))))) da_nil)))))) (dss_cons (ds_setLc 9 (own := [("words_there", 10)]) [0, 1, 2, 3, 4, 5, 6, 7, 8, 9, 10, 11, 12, 13, 14, 15, 16, 17, 18] [0, 1, 2, 3, 4, 5, 6, 7, 8, 9, 11, 12, 13, 14, 15, 16, 17, 18] 19 rfl nd rfl (di_any (dh_var 6) (hsl_var (by decide))) (blk_ok (by kernel_rfl)) (fun _ _ _ _ _ => dg_name 10 nd) (fun _ _ _ _ _ => dts_nil) (fun _ _ _ _ _ => de_fz (de_ty (cr_listR rfl) on_listR rfl T.list_ boot_list (da_cons (dh_var 10) da_nil)))) (dss_cons (ds_set 11 nd (de_op op_addA o2_add (dh_of (de_op op_addA o2_add (dh_of (de_ix ix_seq o2_idx (dh_var 3) (dh_of (de_int)) (fun _ _ => rfl))) (dh_of (de_ix ix_seq o2_idx (dh_var 3) (dh_of (de_int)) (fun _ _ => rfl))))) (dh_of (de_str)))) (dss_one (ds_for [0] rfl (di_any (dh_of (de_ix ix_seq o2_idx (dh_of (de_lst (da_cons (dh_of (de_fz (de_lst (da_cons (dh_of (de_int)) (da_cons (dh_of (de_int)) (da_cons (dh_of (de_int)) da_nil)))))) (da_cons (dh_of (de_fz (de_lst (da_cons (dh_of (de_int)) (da_cons (dh_of (de_int)) da_nil))))) da_nil)))) (dh_var 2) (fun _ _ => rfl))) hsl_of) (dg_name 12 nd) (dss_cons (ds_set 13 nd (de_call h_law_question hr rfl (da_cons (dh_var 1) (da_cons (dh_of (de_fz (de_op op_addA o2_add (dh_var 3) (dh_of (de_lst (da_cons (dh_of (de_var 11)) da_nil)))))) (da_cons (dh_var 12) da_nil))))) (dss_cons (ds_if (dt_w (dw_and (dt_cmp (op_eqA (hu64 hr)) o2_eq (dh_var 12) (dh_of (de_int)) (nomark _)) (dw_and1 (dt_cmp (op_eqA (hu64 hr)) o2_eq (dh_of (de_call h_law_draw hr rfl (da_cons (dh_var 1) (da_cons (dh_of (de_int)) da_nil)))) (dh_of (de_int)) (nomark _))))) (dss_one (ds_set 13 nd (de_tup (da_cons (dh_of (de_str)) (da_cons (dh_of (de_fz (de_tup (da_cons (dh_of (de_str)) (da_cons (dh_of (de_fz (de_tup (da_cons (dh_of (de_str)) (da_cons (dh_of (de_var 13)) da_nil))))) da_nil))))) da_nil))))) (dss_nil)) (dss_cons (ds_set 14 nd (de_call h_law_found hr rfl (da_cons (dh_var 6) (da_cons (dh_var 13) da_nil)))) (dss_cons (ds_set 15 nd (de_call h_found_by hr rfl (da_cons (dh_var 9) (da_cons (dh_var 13) da_nil)))) (dss_cons (ds_if (dt_w (dw_or (dt_not (dt_truth (dh_of (de_call h_law_same hr rfl (da_cons (dh_var 15) (da_cons (dh_var 14) da_nil)))))) (dw_or1 (dt_not (dt_truth (dh_of (de_call h_law_same hr rfl (da_cons (dh_of (de_fz (de_call h_text_of hr rfl (da_cons (dh_var 13) da_nil)))) (da_cons (dh_of (de_fz (de_call h_law_text hr rfl (da_cons (dh_var 13) da_nil)))) da_nil))))))))) (dss_one (ds_ret (de_bl))) (dss_nil)) (dss_cons (ds_expr (de_mut 15 PySem.F.slot_list_append PySem.F.type_list_append mt_append mo_app (da_cons (dh_of (de_int)) da_nil))) (dss_cons (ds_set 16 nd (de_call h_turned_in hr rfl (da_cons (dh_var 13) da_nil))) (dss_cons (ds_if (dt_not (dt_truth (dh_of (de_call h_law_same hr rfl (da_cons (dh_var 16) (da_cons (dh_of (de_fz (de_call h_law_turned hr rfl (da_cons (dh_var 13) (da_cons (dh_of (de_bl)) da_nil))))) da_nil)))))) (dss_one (ds_ret (de_bl))) (dss_nil)) (dss_cons (ds_if (dt_w (dw_or (dt_not (dt_truth (dh_of (de_call h_law_same hr rfl (da_cons (dh_of (de_fz (de_call h_found_by hr rfl (da_cons (dh_var 9) (da_cons (dh_var 16) da_nil))))) (da_cons (dh_var 14) da_nil)))))) (dw_or1 (dt_cmp (op_neA (hu64 hr)) o2_ne (dh_var 9) (dh_var 6) (nomark _))))) (dss_one (ds_ret (de_bl))) (dss_nil)) (dss_cons (ds_set 17 nd (de_call h_law_bent hr rfl (da_cons (dh_var 1) (da_cons (dh_var 13) (da_cons (dh_var 3) da_nil))))) (dss_cons (ds_for [0] rfl (di_any (dh_of (de_lst (da_cons (dh_of (de_var 17)) (da_cons (dh_of (de_fz (de_call h_law_turned hr rfl (da_cons (dh_var 13) (da_cons (dh_of (de_bl)) da_nil))))) (da_cons (dh_of (de_fz (de_tup (da_cons (dh_of (de_str)) (da_cons (dh_of (de_var 13)) da_nil))))) (da_cons (dh_of (de_fz (de_tup (da_cons (dh_of (de_str)) (da_cons (dh_of (de_fz (de_call h_law_turned hr rfl (da_cons (dh_var 13) (da_cons (dh_of (de_bl)) da_nil))))) da_nil))))) (da_cons (dh_of (de_fz (de_call h_law_question hr rfl (da_cons (dh_var 1) (da_cons (dh_var 3) (da_cons (dh_of (de_int)) da_nil)))))) da_nil))))))) hsl_of) (dg_name 18 nd) (dss_one (ds_if (dt_not (dt_truth (dh_of (de_call h_law_same hr rfl (da_cons (dh_of (de_fz (de_call h_same_answers hr rfl (da_cons (dh_var 9) (da_cons (dh_var 13) (da_cons (dh_var 18) da_nil)))))) (da_cons (dh_of (de_cmp (op_eqA (hu64 hr)) o2_eq (dh_of (de_call h_law_found hr rfl (da_cons (dh_var 6) (da_cons (dh_var 18) da_nil)))) (dh_var 14) (nomark _))) da_nil)))))) (dss_one (ds_ret (de_bl))) (dss_nil)))) (dss_one (ds_if (dt_cmp (op_neA (hu64 hr)) o2_ne (dh_var 9) (dh_var 6) (nomark _)) (dss_one (ds_ret (de_bl))) (dss_nil))))))))))))))))))))))))) (dss_cons (ds_set 6 nd (de_lst (da_cons (dh_of (de_fz (de_lst (da_cons (dh_of (de_str)) (da_cons (dh_of (de_str)) da_nil))))) (da_cons (dh_of (de_fz (de_lst (da_cons (dh_of (de_str)) da_nil)))) (da_cons (dh_of (de_fz (de_lst (da_nil)))) da_nil))))) (dss_cons (ds_if (dt_w (dw_or (dt_not (dt_truth (dh_of (de_call h_law_same hr rfl (da_cons (dh_of (de_fz (de_call h_found_by hr rfl (da_cons (dh_var 6) (da_cons (dh_of (de_fz (de_tup (da_cons (dh_of (de_str)) (da_cons (dh_of (de_fz (de_tup (da_cons (dh_of (de_str)) (da_cons (dh_of (de_str)) (da_cons (dh_of (de_str)) da_nil)))))) da_nil))))) da_nil))))) (da_cons (dh_of (de_fz (de_lst (da_cons (dh_of (de_int)) (da_cons (dh_of (de_int)) da_nil))))) da_nil)))))) (dw_or1 (dt_not (dt_truth (dh_of (de_call h_law_same hr rfl (da_cons (dh_of (de_fz (de_call h_found_by hr rfl (da_cons (dh_of (de_fz (de_lst (da_nil)))) (da_cons (dh_of (de_str)) da_nil))))) (da_cons (dh_of (de_fz (de_lst (da_nil)))) da_nil))))))))) (dss_one (ds_ret (de_bl))) (dss_nil)) (dss_cons (ds_if (dt_not (dt_truth (dh_of (de_call h_law_same hr rfl (da_cons (dh_of (de_fz (de_call h_turned_in hr rfl (da_cons (dh_of (de_fz (de_tup (da_cons (dh_of (de_str)) (da_cons (dh_of (de_fz (de_tup (da_cons (dh_of (de_str)) (da_cons (dh_of (de_str)) (da_cons (dh_of (de_fz (de_tup (da_cons (dh_of (de_str)) (da_cons (dh_of (de_fz (de_tup (da_cons (dh_of (de_str)) (da_cons (dh_of (de_fz (de_tup (da_cons (dh_of (de_str)) (da_cons (dh_of (de_str)) (da_cons (dh_of (de_fz (de_tup (da_cons (dh_of (de_str)) (da_cons (dh_of (de_str)) da_nil))))) da_nil)))))) da_nil))))) da_nil))))) da_nil)))))) da_nil))))) da_nil)))) (da_cons (dh_of (de_fz (de_tup (da_cons (dh_of (de_str)) (da_cons (dh_of (de_fz (de_tup (da_cons (dh_of (de_str)) (da_cons (dh_of (de_str)) da_nil))))) (da_cons (dh_of (de_fz (de_tup (da_cons (dh_of (de_str)) (da_cons (dh_of (de_fz (de_tup (da_cons (dh_of (de_str)) (da_cons (dh_of (de_str)) da_nil))))) (da_cons (dh_of (de_str)) da_nil)))))) da_nil)))))) da_nil)))))) (dss_one (ds_ret (de_bl))) (dss_nil)) (dss_one (ds_ret (de_and (de_call h_law_same hr rfl (da_cons (dh_of (de_fz (de_call h_text_of hr rfl (da_cons (dh_of (de_fz (de_tup (da_cons (dh_of (de_str)) (da_cons (dh_of (de_fz (de_tup (da_cons (dh_of (de_str)) (da_cons (dh_of (de_str)) da_nil))))) (da_cons (dh_of (de_fz (de_tup (da_cons (dh_of (de_str)) (da_cons (dh_of (de_fz (de_tup (da_cons (dh_of (de_str)) (da_cons (dh_of (de_str)) (da_cons (dh_of (de_str)) da_nil)))))) da_nil))))) da_nil)))))) da_nil)))) (da_cons (dh_of (de_str)) da_nil))) (de_one (de_cmp op_isA o2_is (dh_of (de_call h_same_answers hr rfl (da_cons (dh_var 6) (da_cons (dh_of (de_str)) (da_cons (dh_of (de_fz (de_tup (da_cons (dh_of (de_str)) (da_cons (dh_of (de_str)) (da_cons (dh_of (de_str)) da_nil)))))) da_nil))))) (dh_of (de_bl)) (nomark _))))))))))
end
theorem all_ok {P : Program} {w : World} {K : Frg} {mg : Str → Option Value} {base : Heap} (T : Top K mg) : FOk P w K mg base 15 "law" ["script"] F_law := by
  have h_law_cell := w_law_cell (P := P) (w := w) (base := base) T
  have h_law_draw := w_law_draw (P := P) (w := w) (base := base) T
  have h_law_digits := w_law_digits (P := P) (w := w) (base := base) T (h_law_cell.mono (by decide))
  have h_law_pick := w_law_pick (P := P) (w := w) (base := base) T (h_law_draw.mono (by decide))
  have h_law_mixed := w_law_mixed (P := P) (w := w) (base := base) T (h_law_draw.mono (by decide))
  have h_law_words := w_law_words (P := P) (w := w) (base := base) T (h_law_draw.mono (by decide)) (h_law_pick.mono (by decide))
  have h_law_same := w_law_same (P := P) (w := w) (base := base) T
  have h_found_by := w_found_by (P := P) (w := w) (base := base) T
  have h_text_of := w_text_of (P := P) (w := w) (base := base) T
  have h_turned_in := w_turned_in (P := P) (w := w) (base := base) T
  have h_law_fits := w_law_fits (P := P) (w := w) (base := base) T
  have h_law_text := w_law_text (P := P) (w := w) (base := base) T
  have h_law_turned := w_law_turned (P := P) (w := w) (base := base) T
  have h_same_answers := w_same_answers (P := P) (w := w) (base := base) T (h_found_by.mono (by decide))
  have h_law_found := w_law_found (P := P) (w := w) (base := base) T (h_law_fits.mono (by decide))
  have h_law_question := w_law_question (P := P) (w := w) (base := base) T (h_law_draw.mono (by decide)) (h_law_pick.mono (by decide))
  have h_law_bent := w_law_bent (P := P) (w := w) (base := base) T (h_law_draw.mono (by decide)) (h_law_pick.mono (by decide))
  have h_law := w_law (P := P) (w := w) (base := base) T (h_found_by.mono (by decide)) (h_text_of.mono (by decide)) (h_same_answers.mono (by decide)) (h_turned_in.mono (by decide)) (h_law_digits.mono (by decide)) (h_law_draw.mono (by decide)) (h_law_same.mono (by decide)) (h_law_mixed.mono (by decide)) (h_law_words.mono (by decide)) (h_law_question.mono (by decide)) (h_law_found.mono (by decide)) (h_law_text.mono (by decide)) (h_law_turned.mono (by decide)) (h_law_bent.mono (by decide))
  exact h_law
theorem all_mk {l : PySem.W.OpenLaw} {w : World} {K : PySem.W.Frag} {h : Heap} {mg : Str → Option Value} {fa : Addr} (X : K.In h) (G : h.Ns mainGlobals mg) (hfa : mg "law" = some (.ref fa)) (hF : ∀ ns : List Int, ns.length ≤ 63 → ∃ bs, F_law [.cst (ns.map D.int)] = some (.bl true, bs))
    {f0 f1 f2 f3 f4 f5 f6 f7 f8 f9 f10 f11 f12 f13 f14 f15 f16 f17 : Addr} {od0 an0 od1 an1 od2 an2 od3 an3 od4 an4 od5 an5 od6 an6 od7 an7 od8 an8 od9 an9 od10 an10 od11 an11 od12 an12 od13 an13 od14 an14 od15 an15 od16 an16 od17 an17 : Option Addr} {sl0 sl1 sl2 sl3 sl4 sl5 sl6 sl7 sl8 sl9 sl10 sl11 sl12 sl13 sl14 sl15 sl16 sl17 : Array (Option Value)} {oc0 kV0 dc0 pm0 cd0 ct0 oc1 kV1 dc1 pm1 cd1 ct1 oc2 kV2 dc2 pm2 cd2 ct2 oc3 kV3 dc3 pm3 cd3 ct3 oc4 kV4 dc4 pm4 cd4 ct4 oc5 kV5 dc5 pm5 cd5 ct5 oc6 kV6 dc6 pm6 cd6 ct6 oc7 kV7 dc7 pm7 cd7 ct7 oc8 kV8 dc8 pm8 cd8 ct8 oc9 kV9 dc9 pm9 cd9 ct9 oc10 kV10 dc10 pm10 cd10 ct10 oc11 kV11 dc11 pm11 cd11 ct11 oc12 kV12 dc12 pm12 cd12 ct12 oc13 kV13 dc13 pm13 cd13 ct13 oc14 kV14 dc14 pm14 cd14 ct14 oc15 kV15 dc15 pm15 cd15 ct15 oc16 kV16 dc16 pm16 cd16 ct16 oc17 kV17 dc17 pm17 cd17 ct17 : Value}
    (a0 : PySem.W.nsIn K mainGlobals "found_by" = some (some (.ref f0))) (l0 : K.lookup f0 = some ⟨oc0, od0, .func (PySem.W.fnOf "found_by" "found_by" (defArgs s_found_by) (defBody s_found_by) (defScope s_found_by) .none kV0 dc0 pm0 an0 cd0 ct0), sl0⟩) (c0 : PySem.W.codeIn K cd0 "found_by" = true) (k0 : PySem.W.keepIn K (.ref f0) = true)
    (a1 : PySem.W.nsIn K mainGlobals "text_of" = some (some (.ref f1))) (l1 : K.lookup f1 = some ⟨oc1, od1, .func (PySem.W.fnOf "text_of" "text_of" (defArgs s_text_of) (defBody s_text_of) (defScope s_text_of) .none kV1 dc1 pm1 an1 cd1 ct1), sl1⟩) (c1 : PySem.W.codeIn K cd1 "text_of" = true) (k1 : PySem.W.keepIn K (.ref f1) = true)
    (a2 : PySem.W.nsIn K mainGlobals "same_answers" = some (some (.ref f2))) (l2 : K.lookup f2 = some ⟨oc2, od2, .func (PySem.W.fnOf "same_answers" "same_answers" (defArgs s_same_answers) (defBody s_same_answers) (defScope s_same_answers) .none kV2 dc2 pm2 an2 cd2 ct2), sl2⟩) (c2 : PySem.W.codeIn K cd2 "same_answers" = true) (k2 : PySem.W.keepIn K (.ref f2) = true)
    (a3 : PySem.W.nsIn K mainGlobals "turned_in" = some (some (.ref f3))) (l3 : K.lookup f3 = some ⟨oc3, od3, .func (PySem.W.fnOf "turned_in" "turned_in" (defArgs s_turned_in) (defBody s_turned_in) (defScope s_turned_in) .none kV3 dc3 pm3 an3 cd3 ct3), sl3⟩) (c3 : PySem.W.codeIn K cd3 "turned_in" = true) (k3 : PySem.W.keepIn K (.ref f3) = true)
    (a4 : PySem.W.nsIn K mainGlobals "_law_cell" = some (some (.ref f4))) (l4 : K.lookup f4 = some ⟨oc4, od4, .func (PySem.W.fnOf "_law_cell" "_law_cell" (defArgs s_law_cell) (defBody s_law_cell) (defScope s_law_cell) .none kV4 dc4 pm4 an4 cd4 ct4), sl4⟩) (c4 : PySem.W.codeIn K cd4 "_law_cell" = true) (k4 : PySem.W.keepIn K (.ref f4) = true)
    (a5 : PySem.W.nsIn K mainGlobals "_law_digits" = some (some (.ref f5))) (l5 : K.lookup f5 = some ⟨oc5, od5, .func (PySem.W.fnOf "_law_digits" "_law_digits" (defArgs s_law_digits) (defBody s_law_digits) (defScope s_law_digits) .none kV5 dc5 pm5 an5 cd5 ct5), sl5⟩) (c5 : PySem.W.codeIn K cd5 "_law_digits" = true) (k5 : PySem.W.keepIn K (.ref f5) = true)
    (a6 : PySem.W.nsIn K mainGlobals "_law_draw" = some (some (.ref f6))) (l6 : K.lookup f6 = some ⟨oc6, od6, .func (PySem.W.fnOf "_law_draw" "_law_draw" (defArgs s_law_draw) (defBody s_law_draw) (defScope s_law_draw) .none kV6 dc6 pm6 an6 cd6 ct6), sl6⟩) (c6 : PySem.W.codeIn K cd6 "_law_draw" = true) (k6 : PySem.W.keepIn K (.ref f6) = true)
    (a7 : PySem.W.nsIn K mainGlobals "_law_pick" = some (some (.ref f7))) (l7 : K.lookup f7 = some ⟨oc7, od7, .func (PySem.W.fnOf "_law_pick" "_law_pick" (defArgs s_law_pick) (defBody s_law_pick) (defScope s_law_pick) .none kV7 dc7 pm7 an7 cd7 ct7), sl7⟩) (c7 : PySem.W.codeIn K cd7 "_law_pick" = true) (k7 : PySem.W.keepIn K (.ref f7) = true)
    (a8 : PySem.W.nsIn K mainGlobals "_law_same" = some (some (.ref f8))) (l8 : K.lookup f8 = some ⟨oc8, od8, .func (PySem.W.fnOf "_law_same" "_law_same" (defArgs s_law_same) (defBody s_law_same) (defScope s_law_same) .none kV8 dc8 pm8 an8 cd8 ct8), sl8⟩) (c8 : PySem.W.codeIn K cd8 "_law_same" = true) (k8 : PySem.W.keepIn K (.ref f8) = true)
    (a9 : PySem.W.nsIn K mainGlobals "_law_mixed" = some (some (.ref f9))) (l9 : K.lookup f9 = some ⟨oc9, od9, .func (PySem.W.fnOf "_law_mixed" "_law_mixed" (defArgs s_law_mixed) (defBody s_law_mixed) (defScope s_law_mixed) .none kV9 dc9 pm9 an9 cd9 ct9), sl9⟩) (c9 : PySem.W.codeIn K cd9 "_law_mixed" = true) (k9 : PySem.W.keepIn K (.ref f9) = true)
    (a10 : PySem.W.nsIn K mainGlobals "_law_words" = some (some (.ref f10))) (l10 : K.lookup f10 = some ⟨oc10, od10, .func (PySem.W.fnOf "_law_words" "_law_words" (defArgs s_law_words) (defBody s_law_words) (defScope s_law_words) .none kV10 dc10 pm10 an10 cd10 ct10), sl10⟩) (c10 : PySem.W.codeIn K cd10 "_law_words" = true) (k10 : PySem.W.keepIn K (.ref f10) = true)
    (a11 : PySem.W.nsIn K mainGlobals "_law_question" = some (some (.ref f11))) (l11 : K.lookup f11 = some ⟨oc11, od11, .func (PySem.W.fnOf "_law_question" "_law_question" (defArgs s_law_question) (defBody s_law_question) (defScope s_law_question) .none kV11 dc11 pm11 an11 cd11 ct11), sl11⟩) (c11 : PySem.W.codeIn K cd11 "_law_question" = true) (k11 : PySem.W.keepIn K (.ref f11) = true)
    (a12 : PySem.W.nsIn K mainGlobals "_law_fits" = some (some (.ref f12))) (l12 : K.lookup f12 = some ⟨oc12, od12, .func (PySem.W.fnOf "_law_fits" "_law_fits" (defArgs s_law_fits) (defBody s_law_fits) (defScope s_law_fits) .none kV12 dc12 pm12 an12 cd12 ct12), sl12⟩) (c12 : PySem.W.codeIn K cd12 "_law_fits" = true) (k12 : PySem.W.keepIn K (.ref f12) = true)
    (a13 : PySem.W.nsIn K mainGlobals "_law_found" = some (some (.ref f13))) (l13 : K.lookup f13 = some ⟨oc13, od13, .func (PySem.W.fnOf "_law_found" "_law_found" (defArgs s_law_found) (defBody s_law_found) (defScope s_law_found) .none kV13 dc13 pm13 an13 cd13 ct13), sl13⟩) (c13 : PySem.W.codeIn K cd13 "_law_found" = true) (k13 : PySem.W.keepIn K (.ref f13) = true)
    (a14 : PySem.W.nsIn K mainGlobals "_law_text" = some (some (.ref f14))) (l14 : K.lookup f14 = some ⟨oc14, od14, .func (PySem.W.fnOf "_law_text" "_law_text" (defArgs s_law_text) (defBody s_law_text) (defScope s_law_text) .none kV14 dc14 pm14 an14 cd14 ct14), sl14⟩) (c14 : PySem.W.codeIn K cd14 "_law_text" = true) (k14 : PySem.W.keepIn K (.ref f14) = true)
    (a15 : PySem.W.nsIn K mainGlobals "_law_turned" = some (some (.ref f15))) (l15 : K.lookup f15 = some ⟨oc15, od15, .func (PySem.W.fnOf "_law_turned" "_law_turned" (defArgs s_law_turned) (defBody s_law_turned) (defScope s_law_turned) .none kV15 dc15 pm15 an15 cd15 ct15), sl15⟩) (c15 : PySem.W.codeIn K cd15 "_law_turned" = true) (k15 : PySem.W.keepIn K (.ref f15) = true)
    (a16 : PySem.W.nsIn K mainGlobals "_law_bent" = some (some (.ref f16))) (l16 : K.lookup f16 = some ⟨oc16, od16, .func (PySem.W.fnOf "_law_bent" "_law_bent" (defArgs s_law_bent) (defBody s_law_bent) (defScope s_law_bent) .none kV16 dc16 pm16 an16 cd16 ct16), sl16⟩) (c16 : PySem.W.codeIn K cd16 "_law_bent" = true) (k16 : PySem.W.keepIn K (.ref f16) = true)
    (a17 : PySem.W.nsIn K mainGlobals "law" = some (some (.ref f17))) (l17 : K.lookup f17 = some ⟨oc17, od17, .func (PySem.W.fnOf "law" "law" (defArgs s_law) (defBody s_law) (defScope s_law) .none kV17 dc17 pm17 an17 cd17 ct17), sl17⟩) (c17 : PySem.W.codeIn K cd17 "law" = true) (k17 : PySem.W.keepIn K (.ref f17) = true)
    (z_bool : PySem.W.nsIn K mainGlobals "bool" = some none)
    (z_enumerate : PySem.W.nsIn K mainGlobals "enumerate" = some none)
    (z_int : PySem.W.nsIn K mainGlobals "int" = some none)
    (z_isinstance : PySem.W.nsIn K mainGlobals "isinstance" = some none)
    (z_len : PySem.W.nsIn K mainGlobals "len" = some none)
    (z_list : PySem.W.nsIn K mainGlobals "list" = some none)
    (z_range : PySem.W.nsIn K mainGlobals "range" = some none)
    (z_repr : PySem.W.nsIn K mainGlobals "repr" = some none)
    (z_sorted : PySem.W.nsIn K mainGlobals "sorted" = some none)
    (z_str : PySem.W.nsIn K mainGlobals "str" = some none)
    (z_tuple : PySem.W.nsIn K mainGlobals "tuple" = some none)
    : ∃ fd : FuncData, (∀ (s : Shared) (v : Value), BindsTo s fd ⟨[v], []⟩ [("script", v)]) ∧ ∀ base : Heap, K.In base → base.Ns mainGlobals mg → FnOk l.prog w K mg base CX0 15 fa fd ["script"] (spL K) := by
  have T : Top K mg := ⟨PySem.W.mg_none_of X G z_bool, PySem.W.mg_none_of X G z_enumerate, PySem.W.mg_none_of X G z_int, PySem.W.mg_none_of X G z_isinstance, PySem.W.mg_none_of X G z_len, PySem.W.mg_none_of X G z_list, PySem.W.mg_none_of X G z_range, PySem.W.mg_none_of X G z_repr, PySem.W.mg_none_of X G z_sorted, PySem.W.mg_none_of X G z_str, PySem.W.mg_none_of X G z_tuple, fn_top X G a0 l0 c0 k0 (fun _ _ _ _ _ _ us hl => match us, hl with | [_, _], _ => rfl), fn_top X G a1 l1 c1 k1 (fun _ _ _ _ _ _ us hl => match us, hl with | [_], _ => rfl), fn_top X G a2 l2 c2 k2 (fun _ _ _ _ _ _ us hl => match us, hl with | [_, _, _], _ => rfl), fn_top X G a3 l3 c3 k3 (fun _ _ _ _ _ _ us hl => match us, hl with | [_], _ => rfl), fn_top X G a4 l4 c4 k4 (fun _ _ _ _ _ _ us hl => match us, hl with | [_, _], _ => rfl), fn_top X G a5 l5 c5 k5 (fun _ _ _ _ _ _ us hl => match us, hl with | [_, _, _], _ => rfl), fn_top X G a6 l6 c6 k6 (fun _ _ _ _ _ _ us hl => match us, hl with | [_, _], _ => rfl), fn_top X G a7 l7 c7 k7 (fun _ _ _ _ _ _ us hl => match us, hl with | [_, _], _ => rfl), fn_top X G a8 l8 c8 k8 (fun _ _ _ _ _ _ us hl => match us, hl with | [_, _], _ => rfl), fn_top X G a9 l9 c9 k9 (fun _ _ _ _ _ _ us hl => match us, hl with | [_, _], _ => rfl), fn_top X G a10 l10 c10 k10 (fun _ _ _ _ _ _ us hl => match us, hl with | [_, _, _], _ => rfl), fn_top X G a11 l11 c11 k11 (fun _ _ _ _ _ _ us hl => match us, hl with | [_, _, _], _ => rfl), fn_top X G a12 l12 c12 k12 (fun _ _ _ _ _ _ us hl => match us, hl with | [_, _], _ => rfl), fn_top X G a13 l13 c13 k13 (fun _ _ _ _ _ _ us hl => match us, hl with | [_, _], _ => rfl), fn_top X G a14 l14 c14 k14 (fun _ _ _ _ _ _ us hl => match us, hl with | [_], _ => rfl), fn_top X G a15 l15 c15 k15 (fun _ _ _ _ _ _ us hl => match us, hl with | [_, _], _ => rfl), fn_top X G a16 l16 c16 k16 (fun _ _ _ _ _ _ us hl => match us, hl with | [_, _, _], _ => rfl), fn_top X G a17 l17 c17 k17 (fun _ _ _ _ _ _ us hl => match us, hl with | [_], _ => rfl)⟩
  have e := hfa.symm.trans (PySem.W.mg_of X G a17)
  cases e
  exact ⟨_, fun s v => .of_eq rfl, fun base _ _ => law_end (all_ok T) hF hfa l17⟩
end Lk60
end
section
set_option Elab.async false
set_option linter.all false
set_option maxRecDepth 100000
set_option maxHeartbeats 4000000
set_option exponentiation.threshold 5000
open PySem Mv Mv.PreA
local macro_rules | `(tactic| walk_at "ev") => `(tactic| try simp only [↓W_bCons, ↓W_bNil, ↓W_bBrk, ↓W_bCnt, ↓W_bExp, ↓W_bRet, ↓W_bRetN, ↓W_bIf, ↓W_bAsg, ↓W_bPar, ↓W_bPar3, ↓W_bAug, ↓W_eC, ↓W_eV, ↓W_eM, ↓W_hV, ↓W_hE, ↓W_eFz, ↓W_e1, ↓W_e2, ↓W_aNil, ↓W_aCons, ↓W_eN, ↓W_eTup, ↓W_eLst, ↓W_eCall, ↓W_eMut, ↓W_eMt, ↓W_eIf, ↓W_eAn, ↓W_eOr, ↓W_eNo, ↓W_eJ0, ↓W_eJ1, ↓W_tT, ↓W_tB, ↓W_tNo, ↓W_tAn, ↓W_tOr, ↓W_tAll, ↓W_gNm, ↓W_gsNil, ↓W_gsCons, ↓W_gTp, ↓W_gTpL, ↓W_gIx, ↓W_bFor, ↓W_bWhile, ↓W_iRg1, ↓W_iRg2, ↓W_iSq, ↓W_eLc, ↓W_eSortSet, ↓W_eSl, ↓W_eSlA, ↓W_eLc2, ↓W_bFzS, ↓W_pN, ↓W_pS, ↓W_iEn, ↓W_iZp, ↓W_iZpG, ↓W_iRv, ↓W_iRg3, ↓W_iRgV, ↓W_eCh, ↓W_chIf, ↓W_bind, ↓W_map, ↓W_some, ↓W_none,
  Hd.get, List.getElem?_cons_zero, List.getElem?_cons_succ, List.getD_cons_zero, List.getD_cons_succ, List.set_cons_zero, List.set_cons_succ, List.length_cons, List.length_nil, List.map_cons, List.map_nil, List.replicate, List.cons_append, List.nil_append, Nat.reduceAdd, Nat.reduceSub, Nat.reduceLeDiff, Nat.zero_add,
  D.frz, D.frzL, D.fz, D.fzL, tru_b, tru_i, tru_n, tru_l, tru_t, tru_c, tms, wipeD, unw, lend, unlend, keepL, Option.map_some, Option.bind_some, Bool.and_true, Bool.true_and, Bool.not_true, Bool.not_false, ↓reduceIte, if_true, if_false, Bool.false_eq_true, true_and, and_true, ite_b, ite_nb, vv_fmtI, vv_fmtS, vv_reprI, vv_reprS, vv_addS, vv_augI, vv_augS, vv_lenS, vv_eqS, vv_neS, vv_addL, vv_addT,
  vv_add, vv_sub, vv_mul, vv_mulI, Ti.d, frzL_sD, fzL_sD, Ti.row_len, ilist_len, List.length_map, Ti.rows_len, gIn_sg, revS_mkF, repS_mkF, mkF_app, mkF_len, mkF_inj, Ti.gEq_d, vv_mulS, vv_mulSS, vv_mulSL, vv_slAL, vv_slAT, vv_slAS, vv_revL, vv_tRevL, vv_tRevT, vv_revT, vv_revS, revS_mkS, vv_listR, vv_listRL, vv_listRT, vv_range1, gInS_s, gInS_sT, gInS_l, inX_iT, inX_iL, inX_tL, inX_s, vv_indexS, vv_div, vv_mod, vv_pow, vv_shl, vv_shr, vv_neg, vv_lt, vv_le, vv_gt, vv_ge, vv_ltX, vv_leX, vv_gtX, vv_geX, ltX_tI, gtX_tI, gEq_tI, gNe_tI, vv_int, vv_intS, vv_intb, vv_abs, vv_gcd, vv_max2, vv_min2, vv_lenL, vv_lenC, vv_lenT, vv_idxL, vv_idxC, vv_idxT, vv_eqI, vv_eqB, vv_neI, vv_list, vv_listT, vv_tuple, vv_tupleT, vv_sum, vv_slL, vv_slS, vv_slT, vv_range, vv_index, vv_count, isL_l, isL_c, lenL_l, lenL_c, kindL, vv_maxL, vv_minL, vv_strI, vv_app, vv_minA, vv_maxA, strs_map, kindS, zk_l, zk_c, zk_t, zk_s, vv_isNN, vv_isIN, vv_isSN, vv_isBN, vv_isLN, vv_isTN, vv_isBB, vv_isNB, vv_isIB, vv_isSB, vv_isLB, vv_isTB, vv_inNN, vv_inIN, vv_inSN, vv_inBN, vv_inLN, vv_inTN, vv_inBB, atF0, atF1, atF2, atF3, atF4, atF5, okI, okB, okS, okN, okL, ix0, ix1, ix2, frzL_int, fzL_int, intsD_map, isiI_int, isiI_str, isiI_bool, isiI_list, isiI_tuple, isiS_int, isiS_str, isiS_bool, isiS_list, isiS_tuple, isiB_int, isiB_str, isiB_bool, isiB_list, isiB_tuple, isiL_int, isiL_str, isiL_bool, isiL_list, isiL_tuple, isiT_int, isiT_str, isiT_bool, isiT_list, isiT_tuple, isiN_int, isiN_str, isiN_bool, isiN_list, isiN_tuple, gIn_iF, gIn_iT, gEq_ii, gNe_ii, gEq_in, gNe_in, gEq_pp, gNe_pp, gEq_pn, gNe_pn, dec_self, mkS_len, mkS_app, gEq_mkS, okRt])
local macro_rules | `(tactic| walk_at "mu") => `(tactic| repeat (first | (rw [W_ok (MulOk.right (by omega))]; walk_at "ev") | (rw [W_ok (MulOk.left (by omega))]; walk_at "ev") | (rw [W_ok (divok (by omega) (by omega))]; walk_at "ev") | (rw [W_ok (by omega)]; walk_at "ev")))
local macro_rules | `(tactic| walk_at "lens") => `(tactic| (simp only [Ti.row_len, List.length_drop, List.length_take, ilist_len, List.length_map, Ti.rows_len, mkF_len, List.length_append, List.length_cons, List.length_nil]; omega))
local macro_rules | `(tactic| walk_at "wk") => `(tactic| (walk_at "ev"; repeat (first | (rw [W_ok (by omega)]; walk_at "ev") | (rw [W_ok (by walk_at "lens")]; walk_at "ev"))))
local macro_rules | `(tactic| walk_at "fin") => `(tactic| first | rfl | exact ⟨rfl, rfl⟩ | exact ⟨_, rfl⟩ | exact ⟨_, _, rfl⟩)
local macro_rules | `(tactic| walk_at "nx") => `(tactic| (show W (bCons _ _ _) _; rw [W_bCons]))
namespace Lk60
theorem eq_draw : F_law_draw = PreB.F_law_draw := rfl
theorem eq_pick : F_law_pick = PreB.F_law_pick := rfl
theorem eq_digits : F_law_digits = PreA.F_law_digits := rfl
theorem eq_same : F_law_same = PreA.R_law_same 8 := rfl
theorem draw_ex {ds : List Int} {n m : Int} (h0 : ds ≠ []) (hn : 0 ≤ n) (hm : 0 < m) : ∃ d, F_law_draw [bx ds n, .int m] = some (.int d, [bx ds (n + 1), .int m]) ∧ 0 ≤ d ∧ d < m := ⟨_, PreB.draw_ok h0 hn hm, PreB.drw_nn hm, PreB.drw_lt hm⟩
theorem pick_ex {ds : List Int} {n : Int} {o : Bool} (ks : List Int) (h0 : ds ≠ []) (hn : 0 ≤ n) (hk : ks ≠ []) : ∃ k ∈ ks, F_law_pick [bx ds n, .lst o (ks.map D.int)] = some (.int k, [bx ds (n + 1), .lst o (ks.map D.int)]) := PreB.pick_int ks h0 hn hk
theorem same_ex (d e : D) (h : Sm 8 d e) : F_law_same [d, e] = some (.bl true, [d, e]) := PreA.same_ok 8 d e h
theorem digits_ex {ns : List Int} {a b : Int} (hn : ns.length ≤ 63) (ha : 0 ≤ a) (hab : a < b) (hb : b ≤ 64) : ∃ ds : List Int, ds ≠ [] ∧ (∀ d ∈ ds, 0 ≤ d ∧ d < 1000) ∧ F_law_digits [.cst (ns.map D.int), .int a, .int b] = some (.lst true (ds.map D.int), [.cst (ns.map D.int), .int a, .int b]) := PreA.digits_ok hn ha hab hb
def cs (s : List Nat) : List Sg := s.map (Fin.ofNat 128)
def nN : List Sg := cs [110, 111, 116]
def nA : List Sg := cs [97, 110, 100]
def nO : List Sg := cs [111, 114]
theorem not_is : Str.ofString "not" = mkF nN := by decide +kernel
theorem and_is : Str.ofString "and" = mkF nA := by decide +kernel
theorem or_is : Str.ofString "or" = mkF nO := by decide +kernel
theorem not_is' : ("not" : Str) = mkF nN := not_is
theorem hAN : (nA = nN) = False := eq_false (by decide)
theorem hON : (nO = nN) = False := eq_false (by decide)
theorem hOA : (nO = nA) = False := eq_false (by decide)
def nS (o : Bool) : List Sg := if o = true then nA else nO
theorem hSN (o : Bool) : (nS o = nN) = False := by cases o <;> exact eq_false (by decide)
theorem hSA (o : Bool) : (nS o = nA) = (o = true) := by cases o <;> simp [nS, hOA]
inductive Qn where
  | w (l : List Sg)
  | no (q : Qn)
  | bi (o : Bool) (a b : Qn)
def qD : Qn → D
  | .w l => sD l
  | .no q => .tup [sD nN, qD q]
  | .bi o a b => .tup [sD (nS o), qD a, qD b]
theorem qD_frz : ∀ q : Qn, (qD q).frz = true
  | .w _ => rfl
  | .no q => by simp only [qD, D.frz, D.frzL, qD_frz q, Bool.and_self]
  | .bi o a b => by simp only [qD, D.frz, D.frzL, qD_frz a, qD_frz b, Bool.and_self]
theorem qD_fz : ∀ q : Qn, (qD q).fz = qD q
  | .w _ => rfl
  | .no q => by simp only [qD, D.fz, D.fzL, qD_fz q]
  | .bi o a b => by simp only [qD, D.fz, D.fzL, qD_fz a, qD_fz b]
/-- how deep -/
def ht : Qn → Nat
  | .w _ => 1
  | .no q => ht q + 1
  | .bi _ a b => max (ht a) (ht b) + 1
/-- how deep without nots -/
def hb : Qn → Nat
  | .w _ => 1
  | .no q => hb q
  | .bi _ a b => max (hb a) (hb b) + 1
/-- words not too long -/
def ok : Qn → Prop
  | .w l => l.length ≤ 30
  | .no q => ok q
  | .bi _ a b => ok a ∧ ok b
def fits (ws : List (List Sg)) : Qn → Bool
  | .w l => decide (l ∈ ws)
  | .no q => !fits ws q
  | .bi o a b => if o = true then fits ws a && fits ws b else fits ws a || fits ws b
def trn : Bool → Qn → Qn
  | r, .w l => if r = true then .w l else .no (.w l)
  | r, .no q => trn (!r) q
  | r, .bi o a b => .bi (if r = true then o else !o) (trn r a) (trn r b)
theorem fits_trn (ws : List (List Sg)) : ∀ (q : Qn) (r : Bool), fits ws (trn r q) = if r = true then fits ws q else !fits ws q
  | .w l, r => by cases r <;> rfl
  | .no q, r => by
    show fits ws (trn (!r) q) = _
    rw [fits_trn ws q]
    cases r <;> simp [fits]
  | .bi o a b, r => by
    show (if (if r = true then o else !o) = true then fits ws (trn r a) && fits ws (trn r b) else fits ws (trn r a) || fits ws (trn r b)) = _
    rw [fits_trn ws a, fits_trn ws b]
    cases r <;> cases o <;> simp [fits]
theorem trn_ht : ∀ (q : Qn) (r : Bool), ht (trn r q) ≤ hb q + 1
  | .w l, r => by cases r <;> simp [trn, ht, hb]
  | .no q, r => trn_ht q (!r)
  | .bi o a b, r => by
    have h1 := trn_ht a r
    have h2 := trn_ht b r
    show max (ht (trn r a)) (ht (trn r b)) + 1 ≤ max (hb a) (hb b) + 1 + 1
    omega
theorem trn_ok : ∀ (q : Qn) (r : Bool), ok q → ok (trn r q)
  | .w l, r, h => by cases r <;> exact h
  | .no q, r, h => trn_ok q (!r) h
  | .bi o a b, r, h => ⟨trn_ok a r h.1, trn_ok b r h.2⟩
def found (st : List (List (List Sg))) (q : Qn) : List Int := (ilist 0 st.length).filter fun k => fits (st.getD k.toNat []) q
theorem found_trn (st : List (List (List Sg))) (q : Qn) : found st (trn true q) = found st q := by
  unfold found
  exact List.filter_congr fun k _ => fits_trn _ q true
theorem sm_qD : ∀ (q : Qn) (n : Nat), ht q ≤ n → ok q → Sm n (qD q) (qD q)
  | .w l, n, h, hk => by
    cases n with
    | zero => simp [ht] at h
    | succ n => exact sm_mkF (by have : l.length ≤ 30 := hk; omega)
  | .no q, n, h, hk => by
    cases n with
    | zero => simp [ht] at h
    | succ n =>
      have h : ht q + 1 ≤ n + 1 := h
      cases n with
      | zero => cases q <;> simp [ht] at h
      | succ n => exact sm_t2 (sm_mkF (by decide)) (sm_qD q (n + 1) (by omega) hk) ⟨rfl, rfl⟩ ⟨qD_frz q, qD_frz q⟩
  | .bi o a b, n, h, hk => by
    cases n with
    | zero => simp [ht] at h
    | succ n =>
      have h : max (ht a) (ht b) + 1 ≤ n + 1 := h
      cases n with
      | zero => cases a <;> simp [ht] at h
      | succ n =>
        refine ⟨rfl, by show 3 < _; decide, ?_⟩
        intro k x y hx hy
        match k with
        | 0 => cases hx; cases hy; exact ⟨sm_mkF (by cases o <;> decide), rfl, rfl⟩
        | 1 => cases hx; cases hy; exact ⟨sm_qD a (n + 1) (by omega) hk.1, qD_frz a, qD_frz a⟩
        | 2 => cases hx; cases hy; exact ⟨sm_qD b (n + 1) (by omega) hk.2, qD_frz b, qD_frz b⟩
        | k + 3 => cases hx
end Lk60
end
section
set_option Elab.async false
set_option linter.all false
set_option maxRecDepth 100000
set_option maxHeartbeats 4000000
set_option exponentiation.threshold 5000
open PySem Mv Mv.PreA
local macro_rules | `(tactic| walk_at "ev") => `(tactic| try simp only [↓W_bCons, ↓W_bNil, ↓W_bBrk, ↓W_bCnt, ↓W_bExp, ↓W_bRet, ↓W_bRetN, ↓W_bIf, ↓W_bAsg, ↓W_bPar, ↓W_bPar3, ↓W_bAug, ↓W_eC, ↓W_eV, ↓W_eM, ↓W_hV, ↓W_hE, ↓W_eFz, ↓W_e1, ↓W_e2, ↓W_aNil, ↓W_aCons, ↓W_eN, ↓W_eTup, ↓W_eLst, ↓W_eCall, ↓W_eMut, ↓W_eMt, ↓W_eIf, ↓W_eAn, ↓W_eOr, ↓W_eNo, ↓W_eJ0, ↓W_eJ1, ↓W_tT, ↓W_tB, ↓W_tNo, ↓W_tAn, ↓W_tOr, ↓W_tAll, ↓W_gNm, ↓W_gsNil, ↓W_gsCons, ↓W_gTp, ↓W_gTpL, ↓W_gIx, ↓W_bFor, ↓W_bWhile, ↓W_iRg1, ↓W_iRg2, ↓W_iSq, ↓W_eLc, ↓W_eSortSet, ↓W_eSl, ↓W_eSlA, ↓W_eLc2, ↓W_bFzS, ↓W_pN, ↓W_pS, ↓W_iEn, ↓W_iZp, ↓W_iZpG, ↓W_iRv, ↓W_iRg3, ↓W_iRgV, ↓W_eCh, ↓W_chIf, ↓W_bind, ↓W_map, ↓W_some, ↓W_none,
  Hd.get, List.getElem?_cons_zero, List.getElem?_cons_succ, List.getD_cons_zero, List.getD_cons_succ, List.set_cons_zero, List.set_cons_succ, List.length_cons, List.length_nil, List.map_cons, List.map_nil, List.replicate, List.cons_append, List.nil_append, Nat.reduceAdd, Nat.reduceSub, Nat.reduceLeDiff, Nat.zero_add,
  D.frz, D.frzL, D.fz, D.fzL, tru_b, tru_i, tru_n, tru_l, tru_t, tru_c, tms, wipeD, unw, lend, unlend, keepL, Option.map_some, Option.bind_some, Bool.and_true, Bool.true_and, Bool.not_true, Bool.not_false, ↓reduceIte, if_true, if_false, Bool.false_eq_true, true_and, and_true, ite_b, ite_nb, vv_fmtI, vv_fmtS, vv_reprI, vv_reprS, vv_addS, vv_augI, vv_augS, vv_lenS, vv_eqS, vv_neS, vv_addL, vv_addT,
  vv_add, vv_sub, vv_mul, vv_mulI, Ti.d, frzL_sD, fzL_sD, Ti.row_len, ilist_len, List.length_map, Ti.rows_len, gIn_sg, revS_mkF, repS_mkF, mkF_app, mkF_len, mkF_inj, Ti.gEq_d, vv_mulS, vv_mulSS, vv_mulSL, vv_slAL, vv_slAT, vv_slAS, vv_revL, vv_tRevL, vv_tRevT, vv_revT, vv_revS, revS_mkS, vv_listR, vv_listRL, vv_listRT, vv_range1, gInS_s, gInS_sT, gInS_l, inX_iT, inX_iL, inX_tL, inX_s, vv_indexS, vv_div, vv_mod, vv_pow, vv_shl, vv_shr, vv_neg, vv_lt, vv_le, vv_gt, vv_ge, vv_ltX, vv_leX, vv_gtX, vv_geX, ltX_tI, gtX_tI, gEq_tI, gNe_tI, vv_int, vv_intS, vv_intb, vv_abs, vv_gcd, vv_max2, vv_min2, vv_lenL, vv_lenC, vv_lenT, vv_idxL, vv_idxC, vv_idxT, vv_eqI, vv_eqB, vv_neI, vv_list, vv_listT, vv_tuple, vv_tupleT, vv_sum, vv_slL, vv_slS, vv_slT, vv_range, vv_index, vv_count, isL_l, isL_c, lenL_l, lenL_c, kindL, vv_maxL, vv_minL, vv_strI, vv_app, vv_minA, vv_maxA, strs_map, kindS, zk_l, zk_c, zk_t, zk_s, vv_isNN, vv_isIN, vv_isSN, vv_isBN, vv_isLN, vv_isTN, vv_isBB, vv_isNB, vv_isIB, vv_isSB, vv_isLB, vv_isTB, vv_inNN, vv_inIN, vv_inSN, vv_inBN, vv_inLN, vv_inTN, vv_inBB, atF0, atF1, atF2, atF3, atF4, atF5, okI, okB, okS, okN, okL, ix0, ix1, ix2, frzL_int, fzL_int, intsD_map, isiI_int, isiI_str, isiI_bool, isiI_list, isiI_tuple, isiS_int, isiS_str, isiS_bool, isiS_list, isiS_tuple, isiB_int, isiB_str, isiB_bool, isiB_list, isiB_tuple, isiL_int, isiL_str, isiL_bool, isiL_list, isiL_tuple, isiT_int, isiT_str, isiT_bool, isiT_list, isiT_tuple, isiN_int, isiN_str, isiN_bool, isiN_list, isiN_tuple, gIn_iF, gIn_iT, gEq_ii, gNe_ii, gEq_in, gNe_in, gEq_pp, gNe_pp, gEq_pn, gNe_pn, dec_self, mkS_len, mkS_app, gEq_mkS, okRt])
local macro_rules | `(tactic| walk_at "mu") => `(tactic| repeat (first | (rw [W_ok (MulOk.right (by omega))]; walk_at "ev") | (rw [W_ok (MulOk.left (by omega))]; walk_at "ev") | (rw [W_ok (divok (by omega) (by omega))]; walk_at "ev") | (rw [W_ok (by omega)]; walk_at "ev")))
local macro_rules | `(tactic| walk_at "lens") => `(tactic| (simp only [Ti.row_len, List.length_drop, List.length_take, ilist_len, List.length_map, Ti.rows_len, mkF_len, List.length_append, List.length_cons, List.length_nil]; omega))
local macro_rules | `(tactic| walk_at "wk") => `(tactic| (walk_at "ev"; repeat (first | (rw [W_ok (by omega)]; walk_at "ev") | (rw [W_ok (by walk_at "lens")]; walk_at "ev"))))
local macro_rules | `(tactic| walk_at "fin") => `(tactic| first | rfl | exact ⟨rfl, rfl⟩ | exact ⟨_, rfl⟩ | exact ⟨_, _, rfl⟩)
local macro_rules | `(tactic| walk_at "nx") => `(tactic| (show W (bCons _ _ _) _; rw [W_bCons]))
namespace Lk60
abbrev wD (ws : List (List Sg)) : D := .lst false (ws.map sD)
theorem wD_frz (ws : List (List Sg)) : (wD ws).frz = true := by simp only [D.frz, frzL_sD]; rfl
theorem wD_fz (ws : List (List Sg)) : (wD ws).fz = wD ws := by simp only [D.fz, fzL_sD]
theorem inX_w {neg o : Bool} {l : List Sg} {ws : List (List Sg)} : gInX neg (sD l) (.lst o (ws.map sD)) = some (.bl (if neg = true then !decide (l ∈ ws) else decide (l ∈ ws))) := by
  have h := inX_map emb_sD (neg := neg) (o := o) l ws
  rw [h]
  exact congrArg (fun b => some (D.bl b)) (by cases neg <;> simp)
/-- a question's text -/
def txt : Qn → List Sg
  | .w l => l
  | .no q => cs [110, 111, 116, 32] ++ txt q
  | .bi o a b => cs [40] ++ txt a ++ cs [32] ++ nS o ++ cs [32] ++ txt b ++ cs [41]
theorem txt_len : ∀ q : Qn, ok q → (txt q).length + 20 ≤ 60 * 2 ^ ht q
  | .w l, h => by
    have h : l.length ≤ 30 := h
    show l.length + 20 ≤ 60 * 2 ^ 1
    omega
  | .no q, h => by
    have := txt_len q h
    have e : 2 ^ ht (.no q) = 2 ^ ht q * 2 := Nat.pow_succ ..
    have e2 : (txt (.no q)).length = 4 + (txt q).length := by show (cs [110, 111, 116, 32] ++ txt q).length = _; rw [List.length_append]; rfl
    rw [e, e2]
    omega
  | .bi o a b, h => by
    have h1 := txt_len a h.1
    have h2 := txt_len b h.2
    have e : 2 ^ ht (.bi o a b) = 2 ^ (max (ht a) (ht b)) * 2 := Nat.pow_succ ..
    have p1 : 2 ^ ht a ≤ 2 ^ (max (ht a) (ht b)) := Nat.pow_le_pow_right (by omega) (by omega)
    have p2 : 2 ^ ht b ≤ 2 ^ (max (ht a) (ht b)) := Nat.pow_le_pow_right (by omega) (by omega)
    have e2 : (txt (.bi o a b)).length ≤ 7 + (txt a).length + (txt b).length := by
      show (cs [40] ++ txt a ++ cs [32] ++ nS o ++ cs [32] ++ txt b ++ cs [41]).length ≤ _
      simp only [List.length_append]
      have : (nS o).length ≤ 3 := by cases o <;> decide
      have c1 : (cs [40]).length = 1 := rfl
      have c2 : (cs [32]).length = 1 := rfl
      have c3 : (cs [41]).length = 1 := rfl
      omega
    rw [e]
    omega
theorem ht_pos (q : Qn) : 1 ≤ ht q := by cases q <;> simp [ht]
theorem cs1_is : Str.ofString "not " = mkF (cs [110, 111, 116, 32]) := by decide +kernel
theorem cs2_is : Str.ofString "(" = mkF (cs [40]) := by decide +kernel
theorem cs3_is : Str.ofString " " = mkF (cs [32]) := by decide +kernel
theorem cs4_is : Str.ofString ")" = mkF (cs [41]) := by decide +kernel
theorem nS_f : nS false = nO := rfl
theorem nS_t : nS true = nA := rfl
theorem okQ (q : Qn) : okD (qD q) = some (qD q) := okD_of (qD_frz q)
theorem fits_R (ws : List (List Sg)) (o : Bool) : ∀ (n : Nat) (q : Qn), ht q ≤ n → R_law_fits n [.lst o (ws.map sD), qD q] = some (.bl (fits ws q), [.lst o (ws.map sD), qD q]) := by
  intro n
  induction n with
  | zero => intro q h; have := ht_pos q; omega
  | succ n ih =>
    intro q h
    show S_law_fits (R_law_fits n) _ = _
    apply of_W
    unfold S_law_fits
    rw [W_fnD rfl]
    unfold d_law_fits
    cases q with
    | w l =>
      simp only [qD]
      walk_at "ev"
      rw [inX_w]
      walk_at "ev"
      rfl
    | no q =>
      have h : ht q + 1 ≤ n + 1 := h
      simp only [qD, not_is, and_is]
      walk_at "ev"
      rw [okQ]
      cases o <;> walk_at "ev"
      · rw [W_eq (ih q (by omega))]
        walk_at "ev"
        rfl
      · rw [W_eq (ih q (by omega))]
        walk_at "ev"
        rfl
    | bi b q1 q2 =>
      have h : max (ht q1) (ht q2) + 1 ≤ n + 1 := h
      have ef : fits ws (.bi b q1 q2) = if b = true then fits ws q1 && fits ws q2 else fits ws q1 || fits ws q2 := rfl
      rw [ef]
      cases b
      · simp only [qD, not_is, and_is, nS_f]
        walk_at "ev"
        simp only [hON, hOA, decide_false, decide_true, ite_b]
        walk_at "ev"
        rw [okQ]
        cases o <;> walk_at "ev"
        all_goals
          rw [W_eq (ih q1 (by omega))]
          walk_at "ev"
          cases fits ws q1 <;> walk_at "ev"
        all_goals first
          | rfl
          | (rw [okQ]
             walk_at "ev"
             rw [W_eq (ih q2 (by omega))]
             walk_at "ev"
             try rfl)
      · simp only [qD, not_is, and_is, nS_t]
        walk_at "ev"
        simp only [hAN, decide_false, decide_true, ite_b]
        walk_at "ev"
        rw [okQ]
        cases o <;> walk_at "ev"
        all_goals
          rw [W_eq (ih q1 (by omega))]
          walk_at "ev"
          cases fits ws q1 <;> walk_at "ev"
        all_goals first
          | rfl
          | (rw [okQ]
             walk_at "ev"
             rw [W_eq (ih q2 (by omega))]
             walk_at "ev"
             try rfl)
theorem fits_ok (ws : List (List Sg)) (o : Bool) (q : Qn) (h : ht q ≤ 12) : F_law_fits [.lst o (ws.map sD), qD q] = some (.bl (fits ws q), [.lst o (ws.map sD), qD q]) := fits_R ws o 12 q h
end Lk60
end
section
set_option Elab.async false
set_option linter.all false
set_option maxRecDepth 100000
set_option maxHeartbeats 4000000
set_option exponentiation.threshold 5000
open PySem Mv Mv.PreA
local macro_rules | `(tactic| walk_at "ev") => `(tactic| try simp only [↓W_bCons, ↓W_bNil, ↓W_bBrk, ↓W_bCnt, ↓W_bExp, ↓W_bRet, ↓W_bRetN, ↓W_bIf, ↓W_bAsg, ↓W_bPar, ↓W_bPar3, ↓W_bAug, ↓W_eC, ↓W_eV, ↓W_eM, ↓W_hV, ↓W_hE, ↓W_eFz, ↓W_e1, ↓W_e2, ↓W_aNil, ↓W_aCons, ↓W_eN, ↓W_eTup, ↓W_eLst, ↓W_eCall, ↓W_eMut, ↓W_eMt, ↓W_eIf, ↓W_eAn, ↓W_eOr, ↓W_eNo, ↓W_eJ0, ↓W_eJ1, ↓W_tT, ↓W_tB, ↓W_tNo, ↓W_tAn, ↓W_tOr, ↓W_tAll, ↓W_gNm, ↓W_gsNil, ↓W_gsCons, ↓W_gTp, ↓W_gTpL, ↓W_gIx, ↓W_bFor, ↓W_bWhile, ↓W_iRg1, ↓W_iRg2, ↓W_iSq, ↓W_eLc, ↓W_eSortSet, ↓W_eSl, ↓W_eSlA, ↓W_eLc2, ↓W_bFzS, ↓W_pN, ↓W_pS, ↓W_iEn, ↓W_iZp, ↓W_iZpG, ↓W_iRv, ↓W_iRg3, ↓W_iRgV, ↓W_eCh, ↓W_chIf, ↓W_bind, ↓W_map, ↓W_some, ↓W_none,
  Hd.get, List.getElem?_cons_zero, List.getElem?_cons_succ, List.getD_cons_zero, List.getD_cons_succ, List.set_cons_zero, List.set_cons_succ, List.length_cons, List.length_nil, List.map_cons, List.map_nil, List.replicate, List.cons_append, List.nil_append, Nat.reduceAdd, Nat.reduceSub, Nat.reduceLeDiff, Nat.zero_add,
  D.frz, D.frzL, D.fz, D.fzL, tru_b, tru_i, tru_n, tru_l, tru_t, tru_c, tms, wipeD, unw, lend, unlend, keepL, Option.map_some, Option.bind_some, Bool.and_true, Bool.true_and, Bool.not_true, Bool.not_false, ↓reduceIte, if_true, if_false, Bool.false_eq_true, true_and, and_true, ite_b, ite_nb, vv_fmtI, vv_fmtS, vv_reprI, vv_reprS, vv_addS, vv_augI, vv_augS, vv_lenS, vv_eqS, vv_neS, vv_addL, vv_addT,
  vv_add, vv_sub, vv_mul, vv_mulI, Ti.d, frzL_sD, fzL_sD, Ti.row_len, ilist_len, List.length_map, Ti.rows_len, gIn_sg, revS_mkF, repS_mkF, mkF_app, mkF_len, mkF_inj, Ti.gEq_d, vv_mulS, vv_mulSS, vv_mulSL, vv_slAL, vv_slAT, vv_slAS, vv_revL, vv_tRevL, vv_tRevT, vv_revT, vv_revS, revS_mkS, vv_listR, vv_listRL, vv_listRT, vv_range1, gInS_s, gInS_sT, gInS_l, inX_iT, inX_iL, inX_tL, inX_s, vv_indexS, vv_div, vv_mod, vv_pow, vv_shl, vv_shr, vv_neg, vv_lt, vv_le, vv_gt, vv_ge, vv_ltX, vv_leX, vv_gtX, vv_geX, ltX_tI, gtX_tI, gEq_tI, gNe_tI, vv_int, vv_intS, vv_intb, vv_abs, vv_gcd, vv_max2, vv_min2, vv_lenL, vv_lenC, vv_lenT, vv_idxL, vv_idxC, vv_idxT, vv_eqI, vv_eqB, vv_neI, vv_list, vv_listT, vv_tuple, vv_tupleT, vv_sum, vv_slL, vv_slS, vv_slT, vv_range, vv_index, vv_count, isL_l, isL_c, lenL_l, lenL_c, kindL, vv_maxL, vv_minL, vv_strI, vv_app, vv_minA, vv_maxA, strs_map, kindS, zk_l, zk_c, zk_t, zk_s, vv_isNN, vv_isIN, vv_isSN, vv_isBN, vv_isLN, vv_isTN, vv_isBB, vv_isNB, vv_isIB, vv_isSB, vv_isLB, vv_isTB, vv_inNN, vv_inIN, vv_inSN, vv_inBN, vv_inLN, vv_inTN, vv_inBB, atF0, atF1, atF2, atF3, atF4, atF5, okI, okB, okS, okN, okL, ix0, ix1, ix2, frzL_int, fzL_int, intsD_map, isiI_int, isiI_str, isiI_bool, isiI_list, isiI_tuple, isiS_int, isiS_str, isiS_bool, isiS_list, isiS_tuple, isiB_int, isiB_str, isiB_bool, isiB_list, isiB_tuple, isiL_int, isiL_str, isiL_bool, isiL_list, isiL_tuple, isiT_int, isiT_str, isiT_bool, isiT_list, isiT_tuple, isiN_int, isiN_str, isiN_bool, isiN_list, isiN_tuple, gIn_iF, gIn_iT, gEq_ii, gNe_ii, gEq_in, gNe_in, gEq_pp, gNe_pp, gEq_pn, gNe_pn, dec_self, mkS_len, mkS_app, gEq_mkS, okRt])
local macro_rules | `(tactic| walk_at "mu") => `(tactic| repeat (first | (rw [W_ok (MulOk.right (by omega))]; walk_at "ev") | (rw [W_ok (MulOk.left (by omega))]; walk_at "ev") | (rw [W_ok (divok (by omega) (by omega))]; walk_at "ev") | (rw [W_ok (by omega)]; walk_at "ev")))
local macro_rules | `(tactic| walk_at "lens") => `(tactic| (simp only [Ti.row_len, List.length_drop, List.length_take, ilist_len, List.length_map, Ti.rows_len, mkF_len, List.length_append, List.length_cons, List.length_nil]; omega))
local macro_rules | `(tactic| walk_at "wk") => `(tactic| (walk_at "ev"; repeat (first | (rw [W_ok (by omega)]; walk_at "ev") | (rw [W_ok (by walk_at "lens")]; walk_at "ev"))))
local macro_rules | `(tactic| walk_at "fin") => `(tactic| first | rfl | exact ⟨rfl, rfl⟩ | exact ⟨_, rfl⟩ | exact ⟨_, _, rfl⟩)
local macro_rules | `(tactic| walk_at "nx") => `(tactic| (show W (bCons _ _ _) _; rw [W_bCons]))
namespace Lk60
theorem txt_no (q : Qn) : txt (.no q) = cs [110, 111, 116, 32] ++ txt q := rfl
theorem txt_bi (o : Bool) (a b : Qn) : txt (.bi o a b) = cs [40] ++ txt a ++ cs [32] ++ nS o ++ cs [32] ++ txt b ++ cs [41] := rfl
theorem emp_app (l : List Sg) : Str.empty ++ mkF l = mkF l := by
  have : Str.empty = mkF [] := rfl
  rw [this, mkF_app, List.nil_append]
theorem lc4 : (cs [110, 111, 116, 32]).length = 4 := rfl
theorem lc40 : (cs [40]).length = 1 := rfl
theorem lc41 : (cs [41]).length = 1 := rfl
theorem lc32 : (cs [32]).length = 1 := rfl
theorem lS (o : Bool) : (nS o).length ≤ 3 := by cases o <;> decide
theorem ltext_R : ∀ (n : Nat) (q : Qn), ht q ≤ n → ht q ≤ 12 → ok q → R_law_text n [qD q] = some (sD (txt q), [qD q]) := by
  intro n
  induction n with
  | zero => intro q h; have := ht_pos q; omega
  | succ n ih =>
    intro q h h12 hk
    have hl := txt_len q hk
    have hp : 2 ^ ht q ≤ 2 ^ 12 := Nat.pow_le_pow_right (by omega) h12
    have hp2 : (2 : Nat) ^ 12 = 4096 := rfl
    show S_law_text (R_law_text n) _ = _
    apply of_W
    unfold S_law_text
    rw [W_fnD rfl]
    unfold d_law_text
    cases q with
    | w l =>
      simp only [qD]
      walk_at "ev"
      rfl
    | no q =>
      have h : ht q + 1 ≤ n + 1 := h
      have h12 : ht q + 1 ≤ 12 := h12
      simp only [txt_no, List.length_append, lc4] at hl
      simp only [qD, cs1_is]
      walk_at "ev"
      rw [if_pos (by decide), okQ]
      walk_at "ev"
      rw [W_eq (ih q (by omega) (by omega) hk)]
      walk_at "ev"
      rw [W_ok (by rw [lc4]; omega)]
      rfl
    | bi b q1 q2 =>
      have h : max (ht q1) (ht q2) + 1 ≤ n + 1 := h
      have h12 : max (ht q1) (ht q2) + 1 ≤ 12 := h12
      simp only [txt_bi, List.length_append, lc32, lc40, lc41] at hl
      have lb := lS b
      simp only [qD, cs1_is, cs2_is, cs3_is, cs4_is]
      walk_at "ev"
      rw [if_neg (by decide), okQ]
      walk_at "ev"
      rw [W_eq (ih q1 (by omega) (by omega) hk.1)]
      walk_at "ev"
      rw [W_ok (by simp only [lc40]; omega)]
      walk_at "ev"
      rw [W_ok (by simp only [lc40, lc32, List.length_append]; omega)]
      walk_at "ev"
      rw [W_ok (by simp only [lc40, lc32, List.length_append]; omega)]
      walk_at "ev"
      rw [W_ok (by simp only [lc40, lc32, List.length_append]; omega)]
      walk_at "ev"
      rw [okQ]
      walk_at "ev"
      rw [W_eq (ih q2 (by omega) (by omega) hk.2)]
      walk_at "ev"
      rw [W_ok (by simp only [lc40, lc32, List.length_append]; omega)]
      walk_at "ev"
      rw [W_ok (by simp only [lc40, lc32, lc41, List.length_append]; omega)]
      rfl
theorem ltext_ok (q : Qn) (h : ht q ≤ 12) (hk : ok q) : F_law_text [qD q] = some (sD (txt q), [qD q]) := ltext_R 12 q h h hk
theorem text_R : ∀ (n : Nat) (q : Qn), ht q ≤ n → ht q ≤ 12 → ok q → R_text_of n [qD q] = some (sD (txt q), [qD q]) := by
  intro n
  induction n with
  | zero => intro q h; have := ht_pos q; omega
  | succ n ih =>
    intro q h h12 hk
    have hl := txt_len q hk
    have hp : 2 ^ ht q ≤ 2 ^ 12 := Nat.pow_le_pow_right (by omega) h12
    have hp2 : (2 : Nat) ^ 12 = 4096 := rfl
    show S_text_of (R_text_of n) _ = _
    apply of_W
    unfold S_text_of
    rw [W_fnD rfl]
    unfold d_text_of
    cases q with
    | w l =>
      simp only [qD]
      walk_at "ev"
      rfl
    | no q =>
      have h : ht q + 1 ≤ n + 1 := h
      have h12 : ht q + 1 ≤ 12 := h12
      simp only [txt_no, List.length_append, lc4] at hl
      simp only [qD, not_is, cs1_is]
      walk_at "ev"
      rw [okQ]
      walk_at "ev"
      rw [W_eq (ih q (by omega) (by omega) hk)]
      walk_at "ev"
      rw [W_ok (by rw [lc4]; omega)]
      rfl
    | bi b q1 q2 =>
      have h : max (ht q1) (ht q2) + 1 ≤ n + 1 := h
      have h12 : max (ht q1) (ht q2) + 1 ≤ 12 := h12
      simp only [txt_bi, List.length_append, lc32, lc40, lc41] at hl
      have lb := lS b
      simp only [qD, not_is, cs1_is, cs2_is, cs3_is, cs4_is]
      walk_at "ev"
      simp only [hSN, decide_false, ite_b, emp_app]
      walk_at "ev"
      first | rw [W_ok (by (try simp only [lc40, lc32, List.length_append]); omega)] | rw [if_pos (by (try simp only [lc40, lc32, List.length_append]); omega)]
      walk_at "ev"
      rw [okQ]
      walk_at "ev"
      rw [W_eq (ih q1 (by omega) (by omega) hk.1)]
      walk_at "ev"
      first | rw [W_ok (by omega)] | rw [if_pos (by omega)]
      walk_at "ev"
      first | rw [W_ok (by (try simp only [lc40, lc32, List.length_append]); omega)] | rw [if_pos (by (try simp only [lc40, lc32, List.length_append]); omega)]
      walk_at "ev"
      first | rw [W_ok (by (try simp only [lc40, lc32, List.length_append]); omega)] | rw [if_pos (by (try simp only [lc40, lc32, List.length_append]); omega)]
      walk_at "ev"
      first | rw [W_ok (by omega)] | rw [if_pos (by omega)]
      walk_at "ev"
      first | rw [W_ok (by (try simp only [lc40, lc32, List.length_append]); omega)] | rw [if_pos (by (try simp only [lc40, lc32, List.length_append]); omega)]
      walk_at "ev"
      first | rw [W_ok (by (try simp only [lc40, lc32, List.length_append]); omega)] | rw [if_pos (by (try simp only [lc40, lc32, List.length_append]); omega)]
      walk_at "ev"
      rw [okQ]
      walk_at "ev"
      rw [W_eq (ih q2 (by omega) (by omega) hk.2)]
      walk_at "ev"
      first | rw [W_ok (by omega)] | rw [if_pos (by omega)]
      walk_at "ev"
      first | rw [W_ok (by (try simp only [lc40, lc32, lc41, List.length_append]); omega)] | rw [if_pos (by (try simp only [lc40, lc32, lc41, List.length_append]); omega)]
      walk_at "ev"
      first | rw [W_ok (by (try simp only [lc40, lc32, lc41, List.length_append]); omega)] | rw [if_pos (by (try simp only [lc40, lc32, lc41, List.length_append]); omega)]
      walk_at "ev"
      rfl
theorem text_ok (q : Qn) (h : ht q ≤ 12) (hk : ok q) : F_text_of [qD q] = some (sD (txt q), [qD q]) := text_R 12 q h h hk
end Lk60
end
section
set_option Elab.async false
set_option linter.all false
set_option maxRecDepth 100000
set_option maxHeartbeats 4000000
set_option exponentiation.threshold 5000
open PySem Mv Mv.PreA
local macro_rules | `(tactic| walk_at "ev") => `(tactic| try simp only [↓W_bCons, ↓W_bNil, ↓W_bBrk, ↓W_bCnt, ↓W_bExp, ↓W_bRet, ↓W_bRetN, ↓W_bIf, ↓W_bAsg, ↓W_bPar, ↓W_bPar3, ↓W_bAug, ↓W_eC, ↓W_eV, ↓W_eM, ↓W_hV, ↓W_hE, ↓W_eFz, ↓W_e1, ↓W_e2, ↓W_aNil, ↓W_aCons, ↓W_eN, ↓W_eTup, ↓W_eLst, ↓W_eCall, ↓W_eMut, ↓W_eMt, ↓W_eIf, ↓W_eAn, ↓W_eOr, ↓W_eNo, ↓W_eJ0, ↓W_eJ1, ↓W_tT, ↓W_tB, ↓W_tNo, ↓W_tAn, ↓W_tOr, ↓W_tAll, ↓W_gNm, ↓W_gsNil, ↓W_gsCons, ↓W_gTp, ↓W_gTpL, ↓W_gIx, ↓W_bFor, ↓W_bWhile, ↓W_iRg1, ↓W_iRg2, ↓W_iSq, ↓W_eLc, ↓W_eSortSet, ↓W_eSl, ↓W_eSlA, ↓W_eLc2, ↓W_bFzS, ↓W_pN, ↓W_pS, ↓W_iEn, ↓W_iZp, ↓W_iZpG, ↓W_iRv, ↓W_iRg3, ↓W_iRgV, ↓W_eCh, ↓W_chIf, ↓W_bind, ↓W_map, ↓W_some, ↓W_none,
  Hd.get, List.getElem?_cons_zero, List.getElem?_cons_succ, List.getD_cons_zero, List.getD_cons_succ, List.set_cons_zero, List.set_cons_succ, List.length_cons, List.length_nil, List.map_cons, List.map_nil, List.replicate, List.cons_append, List.nil_append, Nat.reduceAdd, Nat.reduceSub, Nat.reduceLeDiff, Nat.zero_add,
  D.frz, D.frzL, D.fz, D.fzL, tru_b, tru_i, tru_n, tru_l, tru_t, tru_c, tms, wipeD, unw, lend, unlend, keepL, Option.map_some, Option.bind_some, Bool.and_true, Bool.true_and, Bool.not_true, Bool.not_false, ↓reduceIte, if_true, if_false, Bool.false_eq_true, true_and, and_true, ite_b, ite_nb, vv_fmtI, vv_fmtS, vv_reprI, vv_reprS, vv_addS, vv_augI, vv_augS, vv_lenS, vv_eqS, vv_neS, vv_addL, vv_addT,
  vv_add, vv_sub, vv_mul, vv_mulI, Ti.d, frzL_sD, fzL_sD, Ti.row_len, ilist_len, List.length_map, Ti.rows_len, gIn_sg, revS_mkF, repS_mkF, mkF_app, mkF_len, mkF_inj, Ti.gEq_d, vv_mulS, vv_mulSS, vv_mulSL, vv_slAL, vv_slAT, vv_slAS, vv_revL, vv_tRevL, vv_tRevT, vv_revT, vv_revS, revS_mkS, vv_listR, vv_listRL, vv_listRT, vv_range1, gInS_s, gInS_sT, gInS_l, inX_iT, inX_iL, inX_tL, inX_s, vv_indexS, vv_div, vv_mod, vv_pow, vv_shl, vv_shr, vv_neg, vv_lt, vv_le, vv_gt, vv_ge, vv_ltX, vv_leX, vv_gtX, vv_geX, ltX_tI, gtX_tI, gEq_tI, gNe_tI, vv_int, vv_intS, vv_intb, vv_abs, vv_gcd, vv_max2, vv_min2, vv_lenL, vv_lenC, vv_lenT, vv_idxL, vv_idxC, vv_idxT, vv_eqI, vv_eqB, vv_neI, vv_list, vv_listT, vv_tuple, vv_tupleT, vv_sum, vv_slL, vv_slS, vv_slT, vv_range, vv_index, vv_count, isL_l, isL_c, lenL_l, lenL_c, kindL, vv_maxL, vv_minL, vv_strI, vv_app, vv_minA, vv_maxA, strs_map, kindS, zk_l, zk_c, zk_t, zk_s, vv_isNN, vv_isIN, vv_isSN, vv_isBN, vv_isLN, vv_isTN, vv_isBB, vv_isNB, vv_isIB, vv_isSB, vv_isLB, vv_isTB, vv_inNN, vv_inIN, vv_inSN, vv_inBN, vv_inLN, vv_inTN, vv_inBB, atF0, atF1, atF2, atF3, atF4, atF5, okI, okB, okS, okN, okL, ix0, ix1, ix2, frzL_int, fzL_int, intsD_map, isiI_int, isiI_str, isiI_bool, isiI_list, isiI_tuple, isiS_int, isiS_str, isiS_bool, isiS_list, isiS_tuple, isiB_int, isiB_str, isiB_bool, isiB_list, isiB_tuple, isiL_int, isiL_str, isiL_bool, isiL_list, isiL_tuple, isiT_int, isiT_str, isiT_bool, isiT_list, isiT_tuple, isiN_int, isiN_str, isiN_bool, isiN_list, isiN_tuple, gIn_iF, gIn_iT, gEq_ii, gNe_ii, gEq_in, gNe_in, gEq_pp, gNe_pp, gEq_pn, gNe_pn, dec_self, mkS_len, mkS_app, gEq_mkS, okRt])
local macro_rules | `(tactic| walk_at "mu") => `(tactic| repeat (first | (rw [W_ok (MulOk.right (by omega))]; walk_at "ev") | (rw [W_ok (MulOk.left (by omega))]; walk_at "ev") | (rw [W_ok (divok (by omega) (by omega))]; walk_at "ev") | (rw [W_ok (by omega)]; walk_at "ev")))
local macro_rules | `(tactic| walk_at "lens") => `(tactic| (simp only [Ti.row_len, List.length_drop, List.length_take, ilist_len, List.length_map, Ti.rows_len, mkF_len, List.length_append, List.length_cons, List.length_nil]; omega))
local macro_rules | `(tactic| walk_at "wk") => `(tactic| (walk_at "ev"; repeat (first | (rw [W_ok (by omega)]; walk_at "ev") | (rw [W_ok (by walk_at "lens")]; walk_at "ev"))))
local macro_rules | `(tactic| walk_at "fin") => `(tactic| first | rfl | exact ⟨rfl, rfl⟩ | exact ⟨_, rfl⟩ | exact ⟨_, _, rfl⟩)
local macro_rules | `(tactic| walk_at "nx") => `(tactic| (show W (bCons _ _ _) _; rw [W_bCons]))
namespace Lk60
theorem mQ {β : Type} (q : Qn) (n : Unit → β) (s : D → β) (m : Unit → β) : (by first | exact (Mv.W_eV.match_1 (fun _ => β) (some (qD q)) n s m = s (qD q)) | exact (Mv.hV.match_1 (fun _ => β) (some (qD q)) n s m = s (qD q)) : Prop) := by cases q <;> rfl
local macro_rules | `(tactic| walk_at "eq") => `(tactic| try simp only [↓W_bCons, ↓W_bNil, ↓W_bBrk, ↓W_bCnt, ↓W_bExp, ↓W_bRet, ↓W_bRetN, ↓W_bIf, ↓W_bAsg, ↓W_bPar, ↓W_bPar3, ↓W_bAug, ↓W_eC, ↓W_eV, ↓W_eM, ↓W_hV, ↓W_hE, ↓W_eFz, ↓W_e1, ↓W_e2, ↓W_aNil, ↓W_aCons, ↓W_eN, ↓W_eTup, ↓W_eLst, ↓W_eCall, ↓W_eMut, ↓W_eMt, ↓W_eIf, ↓W_eAn, ↓W_eOr, ↓W_eNo, ↓W_eJ0, ↓W_eJ1, ↓W_tT, ↓W_tB, ↓W_tNo, ↓W_tAn, ↓W_tOr, ↓W_tAll, ↓W_gNm, ↓W_gsNil, ↓W_gsCons, ↓W_gTp, ↓W_gTpL, ↓W_gIx, ↓W_bFor, ↓W_bWhile, ↓W_iRg1, ↓W_iRg2, ↓W_iSq, ↓W_eLc, ↓W_eSortSet, ↓W_eSl, ↓W_eSlA, ↓W_eLc2, ↓W_bFzS, ↓W_pN, ↓W_pS, ↓W_iEn, ↓W_iZp, ↓W_iZpG, ↓W_iRv, ↓W_iRg3, ↓W_iRgV, ↓W_eCh, ↓W_chIf, ↓W_bind, ↓W_map, ↓W_some, ↓W_none,
  Hd.get, List.getElem?_cons_zero, List.getElem?_cons_succ, List.getD_cons_zero, List.getD_cons_succ, List.set_cons_zero, List.set_cons_succ, List.length_cons, List.length_nil, List.map_cons, List.map_nil, List.replicate, List.cons_append, List.nil_append, Nat.reduceAdd, Nat.reduceSub, Nat.reduceLeDiff, Nat.zero_add,
  D.frz, D.frzL, D.fz, D.fzL, tru_b, tru_i, tru_n, tru_l, tru_t, tru_c, tms, wipeD, unw, lend, unlend, keepL, Option.map_some, Option.bind_some, Bool.and_true, Bool.true_and, Bool.not_true, Bool.not_false, ↓reduceIte, if_true, if_false, Bool.false_eq_true, true_and, and_true, ite_b, ite_nb, vv_fmtI, vv_fmtS, vv_reprI, vv_reprS, vv_addS, vv_augI, vv_augS, vv_lenS, vv_eqS, vv_neS, vv_addL, vv_addT,
  vv_add, vv_sub, vv_mul, vv_mulI, Ti.d, frzL_sD, fzL_sD, Ti.row_len, ilist_len, List.length_map, Ti.rows_len, gIn_sg, revS_mkF, repS_mkF, mkF_app, mkF_len, mkF_inj, Ti.gEq_d, vv_mulS, vv_mulSS, vv_mulSL, vv_slAL, vv_slAT, vv_slAS, vv_revL, vv_tRevL, vv_tRevT, vv_revT, vv_revS, revS_mkS, vv_listR, vv_listRL, vv_listRT, vv_range1, gInS_s, gInS_sT, gInS_l, inX_iT, inX_iL, inX_tL, inX_s, vv_indexS, vv_div, vv_mod, vv_pow, vv_shl, vv_shr, vv_neg, vv_lt, vv_le, vv_gt, vv_ge, vv_ltX, vv_leX, vv_gtX, vv_geX, ltX_tI, gtX_tI, gEq_tI, gNe_tI, vv_int, vv_intS, vv_intb, vv_abs, vv_gcd, vv_max2, vv_min2, vv_lenL, vv_lenC, vv_lenT, vv_idxL, vv_idxC, vv_idxT, vv_eqI, vv_eqB, vv_neI, vv_list, vv_listT, vv_tuple, vv_tupleT, vv_sum, vv_slL, vv_slS, vv_slT, vv_range, vv_index, vv_count, isL_l, isL_c, lenL_l, lenL_c, kindL, vv_maxL, vv_minL, vv_strI, vv_app, vv_minA, vv_maxA, strs_map, kindS, zk_l, zk_c, zk_t, zk_s, vv_isNN, vv_isIN, vv_isSN, vv_isBN, vv_isLN, vv_isTN, vv_isBB, vv_isNB, vv_isIB, vv_isSB, vv_isLB, vv_isTB, vv_inNN, vv_inIN, vv_inSN, vv_inBN, vv_inLN, vv_inTN, vv_inBB, atF0, atF1, atF2, atF3, atF4, atF5, okI, okB, okS, okN, okL, ix0, ix1, ix2, frzL_int, fzL_int, intsD_map, isiI_int, isiI_str, isiI_bool, isiI_list, isiI_tuple, isiS_int, isiS_str, isiS_bool, isiS_list, isiS_tuple, isiB_int, isiB_str, isiB_bool, isiB_list, isiB_tuple, isiL_int, isiL_str, isiL_bool, isiL_list, isiL_tuple, isiT_int, isiT_str, isiT_bool, isiT_list, isiT_tuple, isiN_int, isiN_str, isiN_bool, isiN_list, isiN_tuple, gIn_iF, gIn_iT, gEq_ii, gNe_ii, gEq_in, gNe_in, gEq_pp, gNe_pp, gEq_pn, gNe_pn, dec_self, mkS_len, mkS_app, gEq_mkS, okRt, mQ, qD_frz, qD_fz, okQ, inX_w, nS_f, nS_t, hAN, hON, hOA, decide_false, decide_true, not_is, and_is, or_is])
theorem ilist_pw (lo : Int) (n : Nat) : (ilist lo n).Pairwise (· < ·) := by
  unfold ilist
  rw [List.pairwise_map]
  exact List.Pairwise.imp (fun h => by omega) List.pairwise_lt_range
theorem getD_st (st : List (List (List Sg))) (k : Nat) (h : k < st.length) : st[k]? = some (st.getD k []) := by
  rw [List.getD_eq_getElem?_getD, List.getElem?_eq_getElem h]; rfl
theorem zip_il (st : List (List (List Sg))) : st.zipIdx.map (fun e => ((e.2 : Nat) : Int)) = ilist 0 st.length := by
  apply List.ext_getElem?
  intro i
  unfold ilist
  rw [List.getElem?_map, List.getElem?_map, List.getElem?_zipIdx]
  by_cases h : i < st.length
  · rw [List.getElem?_eq_getElem h, List.getElem?_range h]
    simp
  · rw [List.getElem?_eq_none (by omega), List.getElem?_eq_none (by rw [List.length_range]; omega)]
    rfl
theorem found_zip (st : List (List (List Sg))) (l : List Sg) : (st.zipIdx.filter fun e => decide (l ∈ e.1)).map (fun e => D.int (e.2 : Nat)) = (found st (.w l)).map D.int := by
  unfold found
  rw [← zip_il, List.filter_map, List.map_map]
  have : st.zipIdx.filter (fun e => decide (l ∈ e.1)) = st.zipIdx.filter ((fun k : Int => fits (st.getD k.toNat []) (.w l)) ∘ fun e : List (List Sg) × Nat => ((e.2 : Nat) : Int)) := by
    refine List.filter_congr fun e he => ?_
    have he := List.mem_zipIdx he
    simp only [Nat.zero_add, Nat.sub_zero] at he
    show decide (l ∈ e.1) = decide (l ∈ st.getD (Int.toNat (e.2 : Nat)) [])
    rw [Int.toNat_natCast, List.getD_eq_getElem?_getD, List.getElem?_eq_getElem he.2.1, Option.getD_some]
    exact congrArg (fun z => decide (l ∈ z)) he.2.2
  rw [this]
  rfl
theorem st_frz (st : List (List (List Sg))) : D.frzL (st.map wD) = true := frz_map wD_frz st
theorem mem_found {st : List (List (List Sg))} {q : Qn} {k : Int} : k ∈ found st q ↔ (0 ≤ k ∧ k < st.length) ∧ fits (st.getD k.toNat []) q = true := by
  unfold found
  rw [List.mem_filter, mem_ilist, Int.zero_add]
theorem found_len (st : List (List (List Sg))) (q : Qn) : (found st q).length ≤ st.length := Nat.le_trans (List.length_filter_le _ _) (Nat.le_of_eq ilist_len)
theorem found_no (st : List (List (List Sg))) (q : Qn) : (ilist 0 st.length).filter (fun k => !decide (k ∈ found st q)) = found st (.no q) := by
  show _ = (ilist 0 st.length).filter fun k => !fits (st.getD k.toNat []) q
  refine List.filter_congr fun k hk => ?_
  have hk := mem_ilist.mp hk
  rw [Int.zero_add] at hk
  congr 1
  by_cases h : fits (st.getD k.toNat []) q = true
  · rw [h, decide_eq_true (mem_found.mpr ⟨hk, h⟩)]
  · rw [decide_eq_false (fun c => h (mem_found.mp c).2), Bool.eq_false_iff.mpr h]
theorem found_and (st : List (List (List Sg))) (a b : Qn) : (found st a).filter (fun k => decide (k ∈ found st b)) = found st (.bi true a b) := by
  show List.filter _ ((ilist 0 st.length).filter fun k => fits (st.getD k.toNat []) a) = (ilist 0 st.length).filter fun k => fits (st.getD k.toNat []) a && fits (st.getD k.toNat []) b
  rw [List.filter_filter]
  refine List.filter_congr fun k hk => ?_
  have hk := mem_ilist.mp hk
  rw [Int.zero_add] at hk
  rw [Bool.and_comm]
  congr 1
  by_cases h : fits (st.getD k.toNat []) b = true
  · rw [h, decide_eq_true (mem_found.mpr ⟨hk, h⟩)]
  · rw [decide_eq_false (fun c => h (mem_found.mp c).2), Bool.eq_false_iff.mpr h]
theorem found_or (st : List (List (List Sg))) (a b : Qn) : sdd (found st a ++ found st b) = found st (.bi false a b) := by
  have pw : (found st (.bi false a b)).Pairwise (· < ·) := List.Pairwise.filter _ (ilist_pw 0 _)
  refine pw_ext (R := fun a b : Int => a < b) (fun a b h1 h2 => by omega) (sdd_pw _) pw fun x => ?_
  rw [mem_sdd, List.mem_append, mem_found, mem_found, mem_found]
  have : fits (st.getD x.toNat []) (.bi false a b) = (fits (st.getD x.toNat []) a || fits (st.getD x.toNat []) b) := rfl
  rw [this, Bool.or_eq_true]
  constructor
  · rintro (⟨h1, h2⟩ | ⟨h1, h2⟩)
    · exact ⟨h1, .inl h2⟩
    · exact ⟨h1, .inr h2⟩
  · rintro ⟨h1, h2 | h2⟩
    · exact .inl ⟨h1, h2⟩
    · exact .inr ⟨h1, h2⟩
theorem lfound_ok {o : Bool} (st : List (List (List Sg))) (q : Qn) (h : ht q ≤ 12) (hl : st.length ≤ 30) : F_law_found [.lst o (st.map wD), qD q] = some (.lst true ((found st q).map D.int), [.lst o (st.map wD), qD q]) := by
  apply of_W
  unfold F_law_found
  rw [W_fnD rfl]
  unfold d_law_found
  walk_at "eq"
  rw [W_ok (by omega)]
  refine W_compI (fun k => fits (st.getD k.toNat []) q) D.int (by omega) ?_ ?_
  · intro i i0 i1
    rw [Int.toNat_natCast] at i1
    have hi : i.toNat < st.length := by omega
    walk_at "eq"
    rw [show atF (st.map wD) i = some (wD (st.getD i.toNat [])) from ?_]
    · walk_at "eq"
      cases o <;> walk_at "eq"
      all_goals
        rw [W_eq (fits_ok _ _ q h)]
        walk_at "eq"
        first | done | (split <;> trivial) | (refine ⟨rfl, ?_⟩; split <;> trivial)
    · have e : i = ((i.toNat : Nat) : Int) := (Int.toNat_of_nonneg i0).symm
      rw [e, atF_map wD_frz hi, Int.toNat_natCast, List.getD_eq_getElem?_getD, List.getElem?_eq_getElem hi]
      rfl
  · walk_at "eq"
    rw [Int.toNat_natCast]
    rfl
theorem found_R {o : Bool} (st : List (List (List Sg))) (hl : st.length ≤ 30) : ∀ (n : Nat) (q : Qn), ht q ≤ n → R_found_by n [.lst o (st.map wD), qD q] = some (.lst true ((found st q).map D.int), [.lst o (st.map wD), qD q]) := by
  intro n
  induction n with
  | zero => intro q h; have := ht_pos q; omega
  | succ n ih =>
    intro q h
    show S_found_by (R_found_by n) _ = _
    apply of_W
    unfold S_found_by
    rw [W_fnD rfl]
    unfold d_found_by
    cases q with
    | w l =>
      simp only [qD]
      walk_at "eq"
      refine W_compM (fun e : List (List Sg) × Nat => D.tup [.int (e.2 : Nat), wD e.1]) st.zipIdx (fun e => decide (l ∈ e.1)) (fun e => D.int (e.2 : Nat)) (by rw [List.length_zipIdx]; omega) ?_ ?_ ?_
      · intro k
        rw [itE_at (xs := st.map wD) (fun k => itK_lst rfl (st_frz st) k), enum_map]
      · rintro ⟨x, k⟩ _
        walk_at "eq"
        first | done | (split <;> trivial) | (refine ⟨rfl, ?_⟩; split <;> trivial)
      · walk_at "eq"
        rw [found_zip]
    | no q =>
      have h : ht q + 1 ≤ n + 1 := h
      simp only [qD, not_is, and_is]
      walk_at "eq"
      cases o <;> walk_at "eq"
      all_goals
        rw [W_eq (ih q (by omega))]
        walk_at "eq"
        rw [W_ok (by omega)]
        refine W_compI (fun k => !decide (k ∈ found st q)) D.int (by omega) ?_ ?_
        · intro i i0 i1
          walk_at "eq"
          first | done | (split <;> trivial) | (refine ⟨rfl, ?_⟩; split <;> trivial)
        · walk_at "eq"
          rw [Int.toNat_natCast, found_no]
    | bi b q1 q2 =>
      have h : max (ht q1) (ht q2) + 1 ≤ n + 1 := h
      have l1 := found_len st q1
      have l2 := found_len st q2
      cases b
      · simp only [qD, not_is, and_is, nS_f]
        walk_at "eq"
        cases o <;> walk_at "eq"
        all_goals
          rw [W_eq (ih q1 (by omega))]
          walk_at "eq"
          rw [W_eq (ih q2 (by omega))]
          walk_at "eq"
          rw [W_ok (by omega)]
          rw [← List.map_append]
          walk_at "eq"
          refine W_compM D.int (found st q1 ++ found st q2) (fun k => true) D.int (by rw [List.length_append]; omega) (fun j => itK_tm (frzL_int _) j) ?_ ?_
          · intro x hx
            walk_at "eq"
          · walk_at "eq"
            rw [filter_yes, vv_sortSet (dd_lt (by rw [List.length_append]; omega))]
            walk_at "eq"
            rw [found_or]
      · simp only [qD, not_is, and_is, nS_t]
        walk_at "eq"
        cases o <;> walk_at "eq"
        all_goals
          rw [W_eq (ih q1 (by omega))]
          walk_at "eq"
          rw [W_eq (ih q2 (by omega))]
          walk_at "eq"
          refine W_compM D.int (found st q1) (fun k => decide (k ∈ found st q2)) D.int (by omega) (fun j => itK_lst rfl (frzL_int _) j) ?_ ?_
          · intro x hx
            walk_at "eq"
            first | done | (split <;> trivial) | (refine ⟨rfl, ?_⟩; split <;> trivial)
          · walk_at "eq"
            rw [found_and]

theorem found_ok {o : Bool} (st : List (List (List Sg))) (q : Qn) (hl : st.length ≤ 30) (h : ht q ≤ 12) : F_found_by [.lst o (st.map wD), qD q] = some (.lst true ((found st q).map D.int), [.lst o (st.map wD), qD q]) := found_R st hl 12 q h
theorem same_ans_ok {o : Bool} (st : List (List (List Sg))) (q p : Qn) (hl : st.length ≤ 30) (h : ht q ≤ 12) (h2 : ht p ≤ 12) : F_same_answers [.lst o (st.map wD), qD q, qD p] = some (.bl (decide (found st q = found st p)), [.lst o (st.map wD), qD q, qD p]) := by
  apply of_W
  unfold F_same_answers
  rw [W_fnD rfl]
  unfold d_same_answers
  cases o <;> walk_at "eq"
  all_goals
    rw [W_eq (found_ok st q hl h)]
    walk_at "eq"
    rw [W_eq (found_ok st p hl h2)]
    walk_at "eq"
end Lk60
end
section
set_option Elab.async false
set_option linter.all false
set_option maxRecDepth 100000
set_option maxHeartbeats 4000000
set_option exponentiation.threshold 5000
open PySem Mv Mv.PreA
local macro_rules | `(tactic| walk_at "ev") => `(tactic| try simp only [↓W_bCons, ↓W_bNil, ↓W_bBrk, ↓W_bCnt, ↓W_bExp, ↓W_bRet, ↓W_bRetN, ↓W_bIf, ↓W_bAsg, ↓W_bPar, ↓W_bPar3, ↓W_bAug, ↓W_eC, ↓W_eV, ↓W_eM, ↓W_hV, ↓W_hE, ↓W_eFz, ↓W_e1, ↓W_e2, ↓W_aNil, ↓W_aCons, ↓W_eN, ↓W_eTup, ↓W_eLst, ↓W_eCall, ↓W_eMut, ↓W_eMt, ↓W_eIf, ↓W_eAn, ↓W_eOr, ↓W_eNo, ↓W_eJ0, ↓W_eJ1, ↓W_tT, ↓W_tB, ↓W_tNo, ↓W_tAn, ↓W_tOr, ↓W_tAll, ↓W_gNm, ↓W_gsNil, ↓W_gsCons, ↓W_gTp, ↓W_gTpL, ↓W_gIx, ↓W_bFor, ↓W_bWhile, ↓W_iRg1, ↓W_iRg2, ↓W_iSq, ↓W_eLc, ↓W_eSortSet, ↓W_eSl, ↓W_eSlA, ↓W_eLc2, ↓W_bFzS, ↓W_pN, ↓W_pS, ↓W_iEn, ↓W_iZp, ↓W_iZpG, ↓W_iRv, ↓W_iRg3, ↓W_iRgV, ↓W_eCh, ↓W_chIf, ↓W_bind, ↓W_map, ↓W_some, ↓W_none,
  Hd.get, List.getElem?_cons_zero, List.getElem?_cons_succ, List.getD_cons_zero, List.getD_cons_succ, List.set_cons_zero, List.set_cons_succ, List.length_cons, List.length_nil, List.map_cons, List.map_nil, List.replicate, List.cons_append, List.nil_append, Nat.reduceAdd, Nat.reduceSub, Nat.reduceLeDiff, Nat.zero_add,
  D.frz, D.frzL, D.fz, D.fzL, tru_b, tru_i, tru_n, tru_l, tru_t, tru_c, tms, wipeD, unw, lend, unlend, keepL, Option.map_some, Option.bind_some, Bool.and_true, Bool.true_and, Bool.not_true, Bool.not_false, ↓reduceIte, if_true, if_false, Bool.false_eq_true, true_and, and_true, ite_b, ite_nb, vv_fmtI, vv_fmtS, vv_reprI, vv_reprS, vv_addS, vv_augI, vv_augS, vv_lenS, vv_eqS, vv_neS, vv_addL, vv_addT,
  vv_add, vv_sub, vv_mul, vv_mulI, Ti.d, frzL_sD, fzL_sD, Ti.row_len, ilist_len, List.length_map, Ti.rows_len, gIn_sg, revS_mkF, repS_mkF, mkF_app, mkF_len, mkF_inj, Ti.gEq_d, vv_mulS, vv_mulSS, vv_mulSL, vv_slAL, vv_slAT, vv_slAS, vv_revL, vv_tRevL, vv_tRevT, vv_revT, vv_revS, revS_mkS, vv_listR, vv_listRL, vv_listRT, vv_range1, gInS_s, gInS_sT, gInS_l, inX_iT, inX_iL, inX_tL, inX_s, vv_indexS, vv_div, vv_mod, vv_pow, vv_shl, vv_shr, vv_neg, vv_lt, vv_le, vv_gt, vv_ge, vv_ltX, vv_leX, vv_gtX, vv_geX, ltX_tI, gtX_tI, gEq_tI, gNe_tI, vv_int, vv_intS, vv_intb, vv_abs, vv_gcd, vv_max2, vv_min2, vv_lenL, vv_lenC, vv_lenT, vv_idxL, vv_idxC, vv_idxT, vv_eqI, vv_eqB, vv_neI, vv_list, vv_listT, vv_tuple, vv_tupleT, vv_sum, vv_slL, vv_slS, vv_slT, vv_range, vv_index, vv_count, isL_l, isL_c, lenL_l, lenL_c, kindL, vv_maxL, vv_minL, vv_strI, vv_app, vv_minA, vv_maxA, strs_map, kindS, zk_l, zk_c, zk_t, zk_s, vv_isNN, vv_isIN, vv_isSN, vv_isBN, vv_isLN, vv_isTN, vv_isBB, vv_isNB, vv_isIB, vv_isSB, vv_isLB, vv_isTB, vv_inNN, vv_inIN, vv_inSN, vv_inBN, vv_inLN, vv_inTN, vv_inBB, atF0, atF1, atF2, atF3, atF4, atF5, okI, okB, okS, okN, okL, ix0, ix1, ix2, frzL_int, fzL_int, intsD_map, isiI_int, isiI_str, isiI_bool, isiI_list, isiI_tuple, isiS_int, isiS_str, isiS_bool, isiS_list, isiS_tuple, isiB_int, isiB_str, isiB_bool, isiB_list, isiB_tuple, isiL_int, isiL_str, isiL_bool, isiL_list, isiL_tuple, isiT_int, isiT_str, isiT_bool, isiT_list, isiT_tuple, isiN_int, isiN_str, isiN_bool, isiN_list, isiN_tuple, gIn_iF, gIn_iT, gEq_ii, gNe_ii, gEq_in, gNe_in, gEq_pp, gNe_pp, gEq_pn, gNe_pn, dec_self, mkS_len, mkS_app, gEq_mkS, okRt])
local macro_rules | `(tactic| walk_at "mu") => `(tactic| repeat (first | (rw [W_ok (MulOk.right (by omega))]; walk_at "ev") | (rw [W_ok (MulOk.left (by omega))]; walk_at "ev") | (rw [W_ok (divok (by omega) (by omega))]; walk_at "ev") | (rw [W_ok (by omega)]; walk_at "ev")))
local macro_rules | `(tactic| walk_at "lens") => `(tactic| (simp only [Ti.row_len, List.length_drop, List.length_take, ilist_len, List.length_map, Ti.rows_len, mkF_len, List.length_append, List.length_cons, List.length_nil]; omega))
local macro_rules | `(tactic| walk_at "wk") => `(tactic| (walk_at "ev"; repeat (first | (rw [W_ok (by omega)]; walk_at "ev") | (rw [W_ok (by walk_at "lens")]; walk_at "ev"))))
local macro_rules | `(tactic| walk_at "fin") => `(tactic| first | rfl | exact ⟨rfl, rfl⟩ | exact ⟨_, rfl⟩ | exact ⟨_, _, rfl⟩)
local macro_rules | `(tactic| walk_at "nx") => `(tactic| (show W (bCons _ _ _) _; rw [W_bCons]))
namespace Lk60
theorem okNo (q : Qn) : okD (.tup [sD nN, qD q]) = some (.tup [sD nN, qD q]) := okQ (.no q)
theorem okBo (a b : Qn) : okD (.tup [sD nO, qD a, qD b]) = some (.tup [sD nO, qD a, qD b]) := okQ (.bi false a b)
theorem okBa (a b : Qn) : okD (.tup [sD nA, qD a, qD b]) = some (.tup [sD nA, qD a, qD b]) := okQ (.bi true a b)
local macro_rules | `(tactic| walk_at "eq") => `(tactic| try simp only [↓W_bCons, ↓W_bNil, ↓W_bBrk, ↓W_bCnt, ↓W_bExp, ↓W_bRet, ↓W_bRetN, ↓W_bIf, ↓W_bAsg, ↓W_bPar, ↓W_bPar3, ↓W_bAug, ↓W_eC, ↓W_eV, ↓W_eM, ↓W_hV, ↓W_hE, ↓W_eFz, ↓W_e1, ↓W_e2, ↓W_aNil, ↓W_aCons, ↓W_eN, ↓W_eTup, ↓W_eLst, ↓W_eCall, ↓W_eMut, ↓W_eMt, ↓W_eIf, ↓W_eAn, ↓W_eOr, ↓W_eNo, ↓W_eJ0, ↓W_eJ1, ↓W_tT, ↓W_tB, ↓W_tNo, ↓W_tAn, ↓W_tOr, ↓W_tAll, ↓W_gNm, ↓W_gsNil, ↓W_gsCons, ↓W_gTp, ↓W_gTpL, ↓W_gIx, ↓W_bFor, ↓W_bWhile, ↓W_iRg1, ↓W_iRg2, ↓W_iSq, ↓W_eLc, ↓W_eSortSet, ↓W_eSl, ↓W_eSlA, ↓W_eLc2, ↓W_bFzS, ↓W_pN, ↓W_pS, ↓W_iEn, ↓W_iZp, ↓W_iZpG, ↓W_iRv, ↓W_iRg3, ↓W_iRgV, ↓W_eCh, ↓W_chIf, ↓W_bind, ↓W_map, ↓W_some, ↓W_none,
  Hd.get, List.getElem?_cons_zero, List.getElem?_cons_succ, List.getD_cons_zero, List.getD_cons_succ, List.set_cons_zero, List.set_cons_succ, List.length_cons, List.length_nil, List.map_cons, List.map_nil, List.replicate, List.cons_append, List.nil_append, Nat.reduceAdd, Nat.reduceSub, Nat.reduceLeDiff, Nat.zero_add,
  D.frz, D.frzL, D.fz, D.fzL, tru_b, tru_i, tru_n, tru_l, tru_t, tru_c, tms, wipeD, unw, lend, unlend, keepL, Option.map_some, Option.bind_some, Bool.and_true, Bool.true_and, Bool.not_true, Bool.not_false, ↓reduceIte, if_true, if_false, Bool.false_eq_true, true_and, and_true, ite_b, ite_nb, vv_fmtI, vv_fmtS, vv_reprI, vv_reprS, vv_addS, vv_augI, vv_augS, vv_lenS, vv_eqS, vv_neS, vv_addL, vv_addT,
  vv_add, vv_sub, vv_mul, vv_mulI, Ti.d, frzL_sD, fzL_sD, Ti.row_len, ilist_len, List.length_map, Ti.rows_len, gIn_sg, revS_mkF, repS_mkF, mkF_app, mkF_len, mkF_inj, Ti.gEq_d, vv_mulS, vv_mulSS, vv_mulSL, vv_slAL, vv_slAT, vv_slAS, vv_revL, vv_tRevL, vv_tRevT, vv_revT, vv_revS, revS_mkS, vv_listR, vv_listRL, vv_listRT, vv_range1, gInS_s, gInS_sT, gInS_l, inX_iT, inX_iL, inX_tL, inX_s, vv_indexS, vv_div, vv_mod, vv_pow, vv_shl, vv_shr, vv_neg, vv_lt, vv_le, vv_gt, vv_ge, vv_ltX, vv_leX, vv_gtX, vv_geX, ltX_tI, gtX_tI, gEq_tI, gNe_tI, vv_int, vv_intS, vv_intb, vv_abs, vv_gcd, vv_max2, vv_min2, vv_lenL, vv_lenC, vv_lenT, vv_idxL, vv_idxC, vv_idxT, vv_eqI, vv_eqB, vv_neI, vv_list, vv_listT, vv_tuple, vv_tupleT, vv_sum, vv_slL, vv_slS, vv_slT, vv_range, vv_index, vv_count, isL_l, isL_c, lenL_l, lenL_c, kindL, vv_maxL, vv_minL, vv_strI, vv_app, vv_minA, vv_maxA, strs_map, kindS, zk_l, zk_c, zk_t, zk_s, vv_isNN, vv_isIN, vv_isSN, vv_isBN, vv_isLN, vv_isTN, vv_isBB, vv_isNB, vv_isIB, vv_isSB, vv_isLB, vv_isTB, vv_inNN, vv_inIN, vv_inSN, vv_inBN, vv_inLN, vv_inTN, vv_inBB, atF0, atF1, atF2, atF3, atF4, atF5, okI, okB, okS, okN, okL, ix0, ix1, ix2, frzL_int, fzL_int, intsD_map, isiI_int, isiI_str, isiI_bool, isiI_list, isiI_tuple, isiS_int, isiS_str, isiS_bool, isiS_list, isiS_tuple, isiB_int, isiB_str, isiB_bool, isiB_list, isiB_tuple, isiL_int, isiL_str, isiL_bool, isiL_list, isiL_tuple, isiT_int, isiT_str, isiT_bool, isiT_list, isiT_tuple, isiN_int, isiN_str, isiN_bool, isiN_list, isiN_tuple, gIn_iF, gIn_iT, gEq_ii, gNe_ii, gEq_in, gNe_in, gEq_pp, gNe_pp, gEq_pn, gNe_pn, dec_self, mkS_len, mkS_app, gEq_mkS, okRt, mQ, qD_frz, qD_fz, okQ, inX_w, nS_f, nS_t, hAN, hON, hOA, decide_false, decide_true, not_is, and_is, or_is, okNo, okBo, okBa])
theorem turned_R : ∀ (n : Nat) (q : Qn), ht q ≤ n → R_turned_in n [qD q] = some (qD (trn true q), [qD q]) := by
  intro n
  induction n with
  | zero => intro q h; have := ht_pos q; omega
  | succ n ih =>
    intro q h
    show S_turned_in (R_turned_in n) _ = _
    apply of_W
    unfold S_turned_in
    rw [W_fnD rfl]
    unfold d_turned_in
    cases q with
    | w l =>
      simp only [qD]
      walk_at "eq"
      rfl
    | bi b q1 q2 =>
      have h : max (ht q1) (ht q2) + 1 ≤ n + 1 := h
      have e : trn true (.bi b q1 q2) = .bi b (trn true q1) (trn true q2) := rfl
      rw [e]
      cases b <;> simp only [qD] <;> walk_at "eq"
      all_goals
        rw [W_eq (ih q1 (by omega))]
        walk_at "eq"
        rw [W_eq (ih q2 (by omega))]
        walk_at "eq"
        try rfl
    | no q =>
      have h : ht q + 1 ≤ n + 1 := h
      cases q with
      | w l =>
        simp only [qD]
        walk_at "eq"
        rfl
      | no q =>
        have h : ht q + 1 ≤ n := by have : ht (.no q) = ht q + 1 := rfl; omega
        have e : trn true (.no (.no q)) = trn true q := rfl
        rw [e]
        simp only [qD]
        walk_at "eq"
        rw [W_eq (ih q (by omega))]
        walk_at "eq"
      | bi b q1 q2 =>
        have h : max (ht q1) (ht q2) + 1 ≤ n := by have : ht (.bi b q1 q2) = max (ht q1) (ht q2) + 1 := rfl; omega
        have e : trn true (.no (.bi b q1 q2)) = .bi (!b) (trn true (.no q1)) (trn true (.no q2)) := rfl
        rw [e]
        have h1 : ht (.no q1) = ht q1 + 1 := rfl
        have h2 : ht (.no q2) = ht q2 + 1 := rfl
        have i1 := ih (.no q1) (by omega)
        have i2 := ih (.no q2) (by omega)
        rw [show qD (.no q1) = .tup [sD nN, qD q1] from rfl] at i1
        rw [show qD (.no q2) = .tup [sD nN, qD q2] from rfl] at i2
        cases b <;> simp only [qD] <;> walk_at "eq"
        all_goals
          rw [W_eq i1]
          walk_at "eq"
          rw [W_eq i2]
          walk_at "eq"
theorem turned_ok (q : Qn) (h : ht q ≤ 12) : F_turned_in [qD q] = some (qD (trn true q), [qD q]) := turned_R 12 q h
theorem lturned_R : ∀ (n : Nat) (q : Qn) (r : Bool), ht q ≤ n → R_law_turned n [qD q, .bl r] = some (qD (trn r q), [qD q, .bl r]) := by
  intro n
  induction n with
  | zero => intro q r h; have := ht_pos q; omega
  | succ n ih =>
    intro q r h
    show S_law_turned (R_law_turned n) _ = _
    apply of_W
    unfold S_law_turned
    rw [W_fnD rfl]
    unfold d_law_turned
    cases q with
    | w l =>
      simp only [qD]
      cases r <;> walk_at "eq"
      all_goals rfl
    | bi b q1 q2 =>
      have h : max (ht q1) (ht q2) + 1 ≤ n + 1 := h
      have e : trn r (.bi b q1 q2) = .bi (if r = true then b else !b) (trn r q1) (trn r q2) := rfl
      rw [e]
      cases b <;> cases r <;> simp only [qD] <;> walk_at "eq"
      all_goals
        rw [W_eq (ih q1 _ (by omega))]
        walk_at "eq"
        rw [W_eq (ih q2 _ (by omega))]
        walk_at "eq"
    | no q =>
      have h : ht q + 1 ≤ n + 1 := h
      have e : trn r (.no q) = trn (!r) q := rfl
      rw [e]
      cases r <;> simp only [qD] <;> walk_at "eq"
      all_goals
        rw [W_eq (ih q _ (by omega))]
        walk_at "eq"
        try rfl
theorem lturned_ok (q : Qn) (r : Bool) (h : ht q ≤ 12) : F_law_turned [qD q, .bl r] = some (qD (trn r q), [qD q, .bl r]) := lturned_R 12 q r h
end Lk60
end
section
set_option Elab.async false
set_option linter.all false
set_option maxRecDepth 100000
set_option maxHeartbeats 4000000
set_option exponentiation.threshold 5000
open PySem Mv Mv.PreA
local macro_rules | `(tactic| walk_at "ev") => `(tactic| try simp only [↓W_bCons, ↓W_bNil, ↓W_bBrk, ↓W_bCnt, ↓W_bExp, ↓W_bRet, ↓W_bRetN, ↓W_bIf, ↓W_bAsg, ↓W_bPar, ↓W_bPar3, ↓W_bAug, ↓W_eC, ↓W_eV, ↓W_eM, ↓W_hV, ↓W_hE, ↓W_eFz, ↓W_e1, ↓W_e2, ↓W_aNil, ↓W_aCons, ↓W_eN, ↓W_eTup, ↓W_eLst, ↓W_eCall, ↓W_eMut, ↓W_eMt, ↓W_eIf, ↓W_eAn, ↓W_eOr, ↓W_eNo, ↓W_eJ0, ↓W_eJ1, ↓W_tT, ↓W_tB, ↓W_tNo, ↓W_tAn, ↓W_tOr, ↓W_tAll, ↓W_gNm, ↓W_gsNil, ↓W_gsCons, ↓W_gTp, ↓W_gTpL, ↓W_gIx, ↓W_bFor, ↓W_bWhile, ↓W_iRg1, ↓W_iRg2, ↓W_iSq, ↓W_eLc, ↓W_eSortSet, ↓W_eSl, ↓W_eSlA, ↓W_eLc2, ↓W_bFzS, ↓W_pN, ↓W_pS, ↓W_iEn, ↓W_iZp, ↓W_iZpG, ↓W_iRv, ↓W_iRg3, ↓W_iRgV, ↓W_eCh, ↓W_chIf, ↓W_bind, ↓W_map, ↓W_some, ↓W_none,
  Hd.get, List.getElem?_cons_zero, List.getElem?_cons_succ, List.getD_cons_zero, List.getD_cons_succ, List.set_cons_zero, List.set_cons_succ, List.length_cons, List.length_nil, List.map_cons, List.map_nil, List.replicate, List.cons_append, List.nil_append, Nat.reduceAdd, Nat.reduceSub, Nat.reduceLeDiff, Nat.zero_add,
  D.frz, D.frzL, D.fz, D.fzL, tru_b, tru_i, tru_n, tru_l, tru_t, tru_c, tms, wipeD, unw, lend, unlend, keepL, Option.map_some, Option.bind_some, Bool.and_true, Bool.true_and, Bool.not_true, Bool.not_false, ↓reduceIte, if_true, if_false, Bool.false_eq_true, true_and, and_true, ite_b, ite_nb, vv_fmtI, vv_fmtS, vv_reprI, vv_reprS, vv_addS, vv_augI, vv_augS, vv_lenS, vv_eqS, vv_neS, vv_addL, vv_addT,
  vv_add, vv_sub, vv_mul, vv_mulI, Ti.d, frzL_sD, fzL_sD, Ti.row_len, ilist_len, List.length_map, Ti.rows_len, gIn_sg, revS_mkF, repS_mkF, mkF_app, mkF_len, mkF_inj, Ti.gEq_d, vv_mulS, vv_mulSS, vv_mulSL, vv_slAL, vv_slAT, vv_slAS, vv_revL, vv_tRevL, vv_tRevT, vv_revT, vv_revS, revS_mkS, vv_listR, vv_listRL, vv_listRT, vv_range1, gInS_s, gInS_sT, gInS_l, inX_iT, inX_iL, inX_tL, inX_s, vv_indexS, vv_div, vv_mod, vv_pow, vv_shl, vv_shr, vv_neg, vv_lt, vv_le, vv_gt, vv_ge, vv_ltX, vv_leX, vv_gtX, vv_geX, ltX_tI, gtX_tI, gEq_tI, gNe_tI, vv_int, vv_intS, vv_intb, vv_abs, vv_gcd, vv_max2, vv_min2, vv_lenL, vv_lenC, vv_lenT, vv_idxL, vv_idxC, vv_idxT, vv_eqI, vv_eqB, vv_neI, vv_list, vv_listT, vv_tuple, vv_tupleT, vv_sum, vv_slL, vv_slS, vv_slT, vv_range, vv_index, vv_count, isL_l, isL_c, lenL_l, lenL_c, kindL, vv_maxL, vv_minL, vv_strI, vv_app, vv_minA, vv_maxA, strs_map, kindS, zk_l, zk_c, zk_t, zk_s, vv_isNN, vv_isIN, vv_isSN, vv_isBN, vv_isLN, vv_isTN, vv_isBB, vv_isNB, vv_isIB, vv_isSB, vv_isLB, vv_isTB, vv_inNN, vv_inIN, vv_inSN, vv_inBN, vv_inLN, vv_inTN, vv_inBB, atF0, atF1, atF2, atF3, atF4, atF5, okI, okB, okS, okN, okL, ix0, ix1, ix2, frzL_int, fzL_int, intsD_map, isiI_int, isiI_str, isiI_bool, isiI_list, isiI_tuple, isiS_int, isiS_str, isiS_bool, isiS_list, isiS_tuple, isiB_int, isiB_str, isiB_bool, isiB_list, isiB_tuple, isiL_int, isiL_str, isiL_bool, isiL_list, isiL_tuple, isiT_int, isiT_str, isiT_bool, isiT_list, isiT_tuple, isiN_int, isiN_str, isiN_bool, isiN_list, isiN_tuple, gIn_iF, gIn_iT, gEq_ii, gNe_ii, gEq_in, gNe_in, gEq_pp, gNe_pp, gEq_pn, gNe_pn, dec_self, mkS_len, mkS_app, gEq_mkS, okRt])
local macro_rules | `(tactic| walk_at "mu") => `(tactic| repeat (first | (rw [W_ok (MulOk.right (by omega))]; walk_at "ev") | (rw [W_ok (MulOk.left (by omega))]; walk_at "ev") | (rw [W_ok (divok (by omega) (by omega))]; walk_at "ev") | (rw [W_ok (by omega)]; walk_at "ev")))
local macro_rules | `(tactic| walk_at "lens") => `(tactic| (simp only [Ti.row_len, List.length_drop, List.length_take, ilist_len, List.length_map, Ti.rows_len, mkF_len, List.length_append, List.length_cons, List.length_nil]; omega))
local macro_rules | `(tactic| walk_at "wk") => `(tactic| (walk_at "ev"; repeat (first | (rw [W_ok (by omega)]; walk_at "ev") | (rw [W_ok (by walk_at "lens")]; walk_at "ev"))))
local macro_rules | `(tactic| walk_at "fin") => `(tactic| first | rfl | exact ⟨rfl, rfl⟩ | exact ⟨_, rfl⟩ | exact ⟨_, _, rfl⟩)
local macro_rules | `(tactic| walk_at "nx") => `(tactic| (show W (bCons _ _ _) _; rw [W_bCons]))
namespace Lk60
local macro_rules | `(tactic| walk_at "eq") => `(tactic| try simp only [↓W_bCons, ↓W_bNil, ↓W_bBrk, ↓W_bCnt, ↓W_bExp, ↓W_bRet, ↓W_bRetN, ↓W_bIf, ↓W_bAsg, ↓W_bPar, ↓W_bPar3, ↓W_bAug, ↓W_eC, ↓W_eV, ↓W_eM, ↓W_hV, ↓W_hE, ↓W_eFz, ↓W_e1, ↓W_e2, ↓W_aNil, ↓W_aCons, ↓W_eN, ↓W_eTup, ↓W_eLst, ↓W_eCall, ↓W_eMut, ↓W_eMt, ↓W_eIf, ↓W_eAn, ↓W_eOr, ↓W_eNo, ↓W_eJ0, ↓W_eJ1, ↓W_tT, ↓W_tB, ↓W_tNo, ↓W_tAn, ↓W_tOr, ↓W_tAll, ↓W_gNm, ↓W_gsNil, ↓W_gsCons, ↓W_gTp, ↓W_gTpL, ↓W_gIx, ↓W_bFor, ↓W_bWhile, ↓W_iRg1, ↓W_iRg2, ↓W_iSq, ↓W_eLc, ↓W_eSortSet, ↓W_eSl, ↓W_eSlA, ↓W_eLc2, ↓W_bFzS, ↓W_pN, ↓W_pS, ↓W_iEn, ↓W_iZp, ↓W_iZpG, ↓W_iRv, ↓W_iRg3, ↓W_iRgV, ↓W_eCh, ↓W_chIf, ↓W_bind, ↓W_map, ↓W_some, ↓W_none,
  Hd.get, List.getElem?_cons_zero, List.getElem?_cons_succ, List.getD_cons_zero, List.getD_cons_succ, List.set_cons_zero, List.set_cons_succ, List.length_cons, List.length_nil, List.map_cons, List.map_nil, List.replicate, List.cons_append, List.nil_append, Nat.reduceAdd, Nat.reduceSub, Nat.reduceLeDiff, Nat.zero_add,
  D.frz, D.frzL, D.fz, D.fzL, tru_b, tru_i, tru_n, tru_l, tru_t, tru_c, tms, wipeD, unw, lend, unlend, keepL, Option.map_some, Option.bind_some, Bool.and_true, Bool.true_and, Bool.not_true, Bool.not_false, ↓reduceIte, if_true, if_false, Bool.false_eq_true, true_and, and_true, ite_b, ite_nb, vv_fmtI, vv_fmtS, vv_reprI, vv_reprS, vv_addS, vv_augI, vv_augS, vv_lenS, vv_eqS, vv_neS, vv_addL, vv_addT,
  vv_add, vv_sub, vv_mul, vv_mulI, Ti.d, frzL_sD, fzL_sD, Ti.row_len, ilist_len, List.length_map, Ti.rows_len, gIn_sg, revS_mkF, repS_mkF, mkF_app, mkF_len, mkF_inj, Ti.gEq_d, vv_mulS, vv_mulSS, vv_mulSL, vv_slAL, vv_slAT, vv_slAS, vv_revL, vv_tRevL, vv_tRevT, vv_revT, vv_revS, revS_mkS, vv_listR, vv_listRL, vv_listRT, vv_range1, gInS_s, gInS_sT, gInS_l, inX_iT, inX_iL, inX_tL, inX_s, vv_indexS, vv_div, vv_mod, vv_pow, vv_shl, vv_shr, vv_neg, vv_lt, vv_le, vv_gt, vv_ge, vv_ltX, vv_leX, vv_gtX, vv_geX, ltX_tI, gtX_tI, gEq_tI, gNe_tI, vv_int, vv_intS, vv_intb, vv_abs, vv_gcd, vv_max2, vv_min2, vv_lenL, vv_lenC, vv_lenT, vv_idxL, vv_idxC, vv_idxT, vv_eqI, vv_eqB, vv_neI, vv_list, vv_listT, vv_tuple, vv_tupleT, vv_sum, vv_slL, vv_slS, vv_slT, vv_range, vv_index, vv_count, isL_l, isL_c, lenL_l, lenL_c, kindL, vv_maxL, vv_minL, vv_strI, vv_app, vv_minA, vv_maxA, strs_map, kindS, zk_l, zk_c, zk_t, zk_s, vv_isNN, vv_isIN, vv_isSN, vv_isBN, vv_isLN, vv_isTN, vv_isBB, vv_isNB, vv_isIB, vv_isSB, vv_isLB, vv_isTB, vv_inNN, vv_inIN, vv_inSN, vv_inBN, vv_inLN, vv_inTN, vv_inBB, atF0, atF1, atF2, atF3, atF4, atF5, okI, okB, okS, okN, okL, ix0, ix1, ix2, frzL_int, fzL_int, intsD_map, isiI_int, isiI_str, isiI_bool, isiI_list, isiI_tuple, isiS_int, isiS_str, isiS_bool, isiS_list, isiS_tuple, isiB_int, isiB_str, isiB_bool, isiB_list, isiB_tuple, isiL_int, isiL_str, isiL_bool, isiL_list, isiL_tuple, isiT_int, isiT_str, isiT_bool, isiT_list, isiT_tuple, isiN_int, isiN_str, isiN_bool, isiN_list, isiN_tuple, gIn_iF, gIn_iT, gEq_ii, gNe_ii, gEq_in, gNe_in, gEq_pp, gNe_pp, gEq_pn, gNe_pn, dec_self, mkS_len, mkS_app, gEq_mkS, okRt, mQ, qD_frz, qD_fz, okQ, inX_w, nS_f, nS_t, hAN, hON, hOA, decide_false, decide_true, not_is, and_is, or_is, okNo, okBo, okBa, vv_augI, emp_app])
theorem erase_map {α β : Type} (f : α → β) : ∀ (l : List α) (k : Nat), (l.map f).eraseIdx k = (l.eraseIdx k).map f
  | [], k => rfl
  | x :: l, 0 => rfl
  | x :: l, k + 1 => by show f x :: (l.map f).eraseIdx k = f x :: (l.eraseIdx k).map f; rw [erase_map f l k]
theorem erase_p {α : Type} : ∀ (l : List α) (d : Nat) (h : d < l.length), (l[d] :: l.eraseIdx d).Perm l
  | x :: l, 0, _ => List.Perm.refl _
  | x :: l, d + 1, h => by
    show (l[d]'(by simpa using h) :: x :: l.eraseIdx d).Perm (x :: l)
    exact (List.Perm.swap _ _ _).trans (.cons _ (erase_p l d (by simpa using h)))
theorem pick_map {α : Type} {f : α → D} (hf : ∀ x, (f x).frz = true) {ds : List Int} {n : Int} {o : Bool} (ks : List α) (h0 : ds ≠ []) (hn : 0 ≤ n) (hk : ks ≠ []) : ∃ k ∈ ks, F_law_pick [bx ds n, .lst o (ks.map f)] = some (f k, [bx ds (n + 1), .lst o (ks.map f)]) := by
  obtain ⟨j, hj, e⟩ := PreB.pick_ok (ds := ds) (n := n) (o := o) (xs := ks.map f) h0 hn (by simpa using hk)
  rw [List.getElem_map, okD_of (hf _)] at e
  exact ⟨_, List.getElem_mem _, e⟩
theorem mixed_ok {α : Type} (f : α → D) (hf : ∀ x, (f x).frz = true) (hfz : ∀ x, (f x).fz = f x) {ds : List Int} {n : Int} (o : Bool) (l : List α) (h0 : ds ≠ []) (hn : 0 ≤ n) (hl : l.length ≤ 1000) : W (F_law_mixed [bx ds n, .lst o (l.map f)]) fun r => ∃ (l' : List α) (n' : Int), r = (.lst true (l'.map f), [bx ds n', .lst o (l.map f)]) ∧ n ≤ n' ∧ l'.Perm l := by
  have hz : ∀ l : List α, D.frzL (l.map f) = true := fun l => frz_map hf l
  unfold F_law_mixed
  rw [W_fnD rfl]
  unfold d_law_mixed
  walk_at "ev"
  rw [W_ok (hz l)]
  walk_at "ev"
  rw [W_ok (by omega)]
  refine W_range (lo := 0) (fun k ρ => ∃ (n' : Int) (a b : List α) (x4 : D), ρ = [bx ds n', .lst o (l.map f), .lst true (a.map f), .lst true (b.map f), x4] ∧ n ≤ n' ∧ (a ++ b).Perm l ∧ b.length = k) ⟨_, l, [], _, rfl, by omega, by rw [List.append_nil], rfl⟩ ?_ ?_
  · rintro k ρ hk ⟨n', a, b, x4, rfl, hn', hab, hb⟩
    have hk : k < l.length := by simpa using hk
    have hlen := hab.length_eq
    rw [List.length_append] at hlen
    walk_at "ev"
    unfold b_law_mixed_1
    walk_at "ev"
    obtain ⟨d, e, d1, d2⟩ := draw_ex (ds := ds) (n := n') (m := (a.length : Int)) h0 (by omega) (by omega)
    rw [W_eq e]
    obtain ⟨d, rfl⟩ := Int.eq_ofNat_of_zero_le d1
    walk_at "ev"
    have hd : d < (a.map f).length := by rw [List.length_map]; omega
    rw [gPopAt_nat hd (by rw [List.length_map] at hd; omega)]
    have hd' : d < a.length := by omega
    have e1 : (a.map f)[d] = f a[d] := List.getElem_map ..
    have e2 : (a.map f).eraseIdx d = (a.eraseIdx d).map f := erase_map f a d
    rw [e1, e2]
    walk_at "ev"
    rw [W_ok (by omega), hfz]
    refine ⟨_, a.eraseIdx d, b ++ [a[d]], _, by rw [List.map_append]; rfl, by omega, ?_, by rw [List.length_append, hb]; rfl⟩
    refine List.Perm.trans ?_ hab
    rw [← List.append_assoc]
    refine List.Perm.trans List.perm_append_comm ?_
    rw [← List.append_assoc]
    exact List.Perm.append_right b (erase_p a d hd')
  · rintro ρ ⟨n', a, b, x4, rfl, hn', hab, hb⟩
    have hlen := hab.length_eq
    rw [List.length_append, hb] at hlen
    have : a = [] := List.length_eq_zero_iff.mp (by simpa using hlen)
    subst this
    walk_at "ev"
    exact ⟨b, n', rfl, hn', hab⟩
def sgn : List Sg := cs [97, 101, 111, 110, 116]
abbrev sgD : D := .lst false (sgn.map fun c => sD [c])
theorem words_ok {ds : List Int} {n : Int} (hds : ds ≠ []) (hn : 0 ≤ n) : W (F_law_words [bx ds n, .int 6, sgD]) fun r => ∃ (ws : List (List Sg)) (n' : Int), r = (.lst true (ws.map sD), [bx ds n', .int 6, sgD]) ∧ n ≤ n' ∧ ws.length = 6 ∧ ∀ w ∈ ws, w.length ≤ 9 := by
  unfold F_law_words
  rw [W_fnD rfl]
  unfold d_law_words
  walk_at "ev"
  rw [W_ok (by omega)]
  refine W_range (lo := 0) (fun k ρ => ∃ (n' : Int) (ws : List (List Sg)) (x4 x5 x6 x7 : D), ρ = [bx ds n', .int 6, sgD, .lst true (ws.map sD), x4, x5, x6, x7] ∧ n ≤ n' ∧ ws.length = k ∧ ∀ w ∈ ws, w.length ≤ 9) ⟨_, [], _, _, _, _, rfl, by omega, rfl, fun _ h => absurd h List.not_mem_nil⟩ ?_ ?_
  · rintro k ρ hk ⟨n', ws, x4, x5, x6, x7, rfl, hn', hl, hw⟩
    have hk : k < 6 := by simpa using hk
    walk_at "ev"
    unfold b_law_words_2
    walk_at "nx"
    refine W_mono (Q := fun o => ∃ (n2 : Int) (w : List Sg), o = .nx [bx ds n2, .int 6, sgD, .lst true (ws.map sD), .int (0 + (k : Int)), sD w, x6, x7] ∧ n' ≤ n2 ∧ w.length ≤ 3) ?_ ?_
    · obtain ⟨g, e, g0, g1⟩ := draw_ex (ds := ds) (n := n') (m := 3) hds (by omega) (by omega)
      walk_at "ev"
      rw [W_eq e]
      walk_at "ev"
      rw [W_ok (by omega)]
      show W (lrun (cStep [6] (itR 0 1 (1 + g).toNat) _ _ _) ([], [bx ds (n' + 1), .int 6, sgD, .lst true (ws.map sD), .int (0 + (k : Int)), x5, x6, x7])) _
      refine W_compR (fun j acc ρ => ∃ (n2 : Int) (l : List Sg), acc = l.map (fun c => sD [c]) ∧ l.length = j ∧ ρ = [bx ds n2, .int 6, sgD, .lst true (ws.map sD), .int (0 + (k : Int)), x5, x6, x7] ∧ n' ≤ n2) ⟨_, [], rfl, rfl, rfl, by omega⟩ ?_ ?_
      · rintro j acc ρ hj ⟨n2, l, rfl, hl2, rfl, hn2⟩
        walk_at "ev"
        obtain ⟨c, _, e⟩ := pick_map (f := fun c => sD [c]) (fun _ => rfl) (ds := ds) (n := n2) (o := false) sgn hds (by omega) (by decide)
        rw [W_eq e]
        walk_at "ev"
        refine ⟨by omega, n2 + 1, l ++ [c], by rw [List.map_append]; rfl, by rw [List.length_append, hl2]; rfl, rfl, by omega⟩
      · rintro acc ρ ⟨n2, l, rfl, hl2, rfl, hn2⟩
        walk_at "ev"
        rw [show Str.ofString "" = Str.empty from rfl, gJoin_one l (by omega)]
        walk_at "ev"
        exact ⟨n2, l, rfl, by omega, by omega⟩
    rintro o ⟨n2, w, rfl, hn2, hw3⟩
    walk_at "nx"
    refine W_mono (Q := fun o => ∃ (n3 : Int) (w : List Sg) (x7 : D), o = .nx [bx ds n3, .int 6, sgD, .lst true (ws.map sD), .int (0 + (k : Int)), sD w, x6, x7] ∧ n' ≤ n3 ∧ w.length ≤ 9) ?_ ?_
    · walk_at "ev"
      rw [W_ok (by omega)]
      refine W_range (lo := 0) (fun j ρ => ∃ (n3 : Int) (w : List Sg) (x7 : D), ρ = [bx ds n3, .int 6, sgD, .lst true (ws.map sD), .int (0 + (k : Int)), sD w, x6, x7] ∧ n' ≤ n3 ∧ w.length ≤ 3 + j) ⟨_, w, _, rfl, by omega, by omega⟩ ?_ ?_
      · rintro j ρ hj ⟨n3, w, x7, rfl, hn3, hw4⟩
        have hj : j < 6 := by simpa using hj
        walk_at "ev"
        unfold b_law_words_1
        walk_at "eq"
        split
        · obtain ⟨c, _, e⟩ := pick_map (f := fun c => sD [c]) (fun _ => rfl) (ds := ds) (n := n3) (o := false) sgn hds (by omega) (by decide)
          rw [W_eq e]
          walk_at "ev"
          rw [W_ok (by omega)]
          walk_at "ev"
          exact ⟨_, w ++ [c], _, rfl, by omega, by rw [List.length_append]; simp only [List.length_cons, List.length_nil]; omega⟩
        · exact ⟨_, w, _, rfl, by omega, by omega⟩
      · rintro ρ ⟨n3, w, x7, rfl, hn3, hw4⟩
        exact ⟨n3, w, x7, rfl, hn3, hw4⟩
    rintro o ⟨n3, w, x7, rfl, hn3, hw9⟩
    walk_at "ev"
    rw [W_ok (by omega)]
    refine ⟨n3, ws ++ [w], _, _, _, _, by rw [List.map_append]; rfl, by omega, by rw [List.length_append, hl]; rfl, ?_⟩
    intro v hv
    rcases List.mem_append.mp hv with h | h
    · exact hw v h
    · rw [List.mem_singleton.mp h]; exact hw9
  · rintro ρ ⟨n', ws, x4, x5, x6, x7, rfl, hn', hl, hw⟩
    walk_at "ev"
    exact ⟨ws, n', rfl, hn', hl, hw⟩

theorem question_R {ds : List Int} (hds : ds ≠ []) (o : Bool) (ts : List (List Sg)) (ht0 : ts ≠ []) (htl : ∀ t ∈ ts, t.length ≤ 30) : ∀ (m : Nat) (n : Int) (k : Nat), 0 ≤ n → k < m → W (R_law_question m [bx ds n, .lst o (ts.map sD), .int k]) fun r => ∃ (q : Qn) (n' : Int), r = (qD q, [bx ds n', .lst o (ts.map sD), .int k]) ∧ n ≤ n' ∧ ht q ≤ k + 1 ∧ hb q ≤ k + 1 ∧ ok q := by
  intro m
  induction m with
  | zero => intro n k _ h; omega
  | succ m ih =>
    intro n k hn hk
    show W (S_law_question (R_law_question m) _) _
    unfold S_law_question
    rw [W_fnD rfl]
    unfold d_law_question
    obtain ⟨g, e, g0, g1⟩ := draw_ex (ds := ds) (n := n) (m := 7) hds (by omega) (by omega)
    show W (bCons _ _ [bx ds n, .lst o (ts.map sD), .int k, .any]) _
    rw [W_bCons]
    refine W_mono (Q := fun o' => o' = .nx [bx ds (n + 1), .lst o (ts.map sD), .int k, .int g]) ?_ ?_
    · walk_at "ev"
      rw [W_eq e]
      walk_at "ev"
    rintro _ rfl
    walk_at "nx"
    refine W_mono (Q := fun o' => (∃ t ∈ ts, o' = .rt (sD t) [bx ds (n + 1 + 1), .lst o (ts.map sD), .int k, .int g]) ∨ (o' = .nx [bx ds (n + 1), .lst o (ts.map sD), .int k, .int g] ∧ k ≠ 0)) ?_ ?_
    · obtain ⟨t, ht, e2⟩ := pick_map (f := sD) (fun _ => rfl) (ds := ds) (n := n + 1) (o := o) ts hds (by omega) ht0
      cases o <;> walk_at "ev"
      all_goals
        by_cases c : (k : Int) = 0
        · rw [if_pos c, W_eq e2]
          exact .inl ⟨t, ht, rfl⟩
        · rw [if_neg c]
          by_cases c2 : g = 0
          · rw [if_pos c2, W_eq e2]
            exact .inl ⟨t, ht, rfl⟩
          · rw [if_neg c2]
            exact .inr (by omega)
    rintro o' (⟨t, ht, rfl⟩ | ⟨rfl, hk0⟩)
    · exact ⟨.w t, _, rfl, by omega, Nat.le_add_left .., Nat.le_add_left .., htl t ht⟩
    obtain ⟨k, rfl⟩ : ∃ k', k = k' + 1 := ⟨k - 1, by omega⟩
    have e1 : ((k + 1 : Nat) : Int) - 1 = (k : Nat) := by omega
    walk_at "nx"
    refine W_mono (Q := fun o' => (∃ (q : Qn) (n' : Int), o' = .rt (qD q) [bx ds n', .lst o (ts.map sD), .int ((k + 1 : Nat) : Int), .int g] ∧ n ≤ n' ∧ ht q ≤ k + 2 ∧ hb q ≤ k + 2 ∧ ok q) ∨ (o' = .nx [bx ds (n + 1), .lst o (ts.map sD), .int ((k + 1 : Nat) : Int), .int g] ∧ 3 ≤ g)) ?_ ?_
    · simp only [not_is]
      walk_at "ev"
      rw [e1]
      by_cases c : g < 3
      · rw [if_pos c]
        cases o <;> walk_at "ev"
        all_goals
          refine W_mono (ih (n + 1) k (by omega) (by omega)) ?_
          rintro r ⟨q, n', rfl, h1, h2, h3, h4⟩
          walk_at "eq"
          exact .inl ⟨.no q, n', rfl, by omega, Nat.succ_le_succ h2, by show hb q ≤ _; omega, h4⟩
      · rw [if_neg c]
        exact .inr (by omega)
    rintro o' (⟨q, n', rfl, h1, h2, h3, h4⟩ | ⟨rfl, hg3⟩)
    · exact ⟨q, n', rfl, by omega, h2, h3, h4⟩
    simp only [and_is, or_is]
    walk_at "ev"
    rw [W_ok (by decide)]
    obtain ⟨b, hb2⟩ : ∃ b : Bool, gIdx (.lst true [sD nA, sD nO]) (.int (g % 2)) = some (sD (nS b)) := by
      rcases (show g % 2 = 0 ∨ g % 2 = 1 by omega) with h | h
      · rw [h]; exact ⟨true, rfl⟩
      · rw [h]; exact ⟨false, rfl⟩
    rw [hb2]
    cases o <;> walk_at "ev"
    all_goals
      rw [e1]
      refine W_mono (ih (n + 1) k (by omega) (by omega)) ?_
      rintro r ⟨q1, n1, rfl, h1, h2, h3, h4⟩
      walk_at "eq"
      rw [e1]
      refine W_mono (ih n1 k (by omega) (by omega)) ?_
      rintro r ⟨q2, n2, rfl, k1, k2, k3, k4⟩
      walk_at "eq"
      exact ⟨.bi b q1 q2, n2, rfl, by omega, Nat.succ_le_succ (Nat.max_le.mpr ⟨h2, k2⟩), Nat.succ_le_succ (Nat.max_le.mpr ⟨h3, k3⟩), h4, k4⟩
theorem question_ok {ds : List Int} (hds : ds ≠ []) (o : Bool) (ts : List (List Sg)) (ht0 : ts ≠ []) (htl : ∀ t ∈ ts, t.length ≤ 30) (n : Int) (k : Nat) (hn : 0 ≤ n) (hk : k < 12) : W (F_law_question [bx ds n, .lst o (ts.map sD), .int k]) fun r => ∃ (q : Qn) (n' : Int), r = (qD q, [bx ds n', .lst o (ts.map sD), .int k]) ∧ n ≤ n' ∧ ht q ≤ k + 1 ∧ hb q ≤ k + 1 ∧ ok q := question_R hds o ts ht0 htl 12 n k hn hk
theorem bent_R {ds : List Int} (hds : ds ≠ []) (ts : List (List Sg)) (ht0 : ts ≠ []) (htl : ∀ t ∈ ts, t.length ≤ 30) : ∀ (m : Nat) (n : Int) (q : Qn), 0 ≤ n → ht q ≤ m → ok q → W (R_law_bent m [bx ds n, qD q, .lst true (ts.map sD)]) fun r => ∃ (p : Qn) (n' : Int), r = (qD p, [bx ds n', qD q, .lst true (ts.map sD)]) ∧ n ≤ n' ∧ ht p ≤ ht q + 1 ∧ ok p := by
  intro m
  induction m with
  | zero => intro n q _ h; have := ht_pos q; omega
  | succ m ih =>
    intro n q hn hq hk
    show W (S_law_bent (R_law_bent m) _) _
    unfold S_law_bent
    rw [W_fnD rfl]
    unfold d_law_bent
    cases q with
    | w l =>
      obtain ⟨t, ht1, e2⟩ := pick_map (f := sD) (fun _ => rfl) (ds := ds) (n := n) (o := true) ts hds (by omega) ht0
      simp only [qD]
      walk_at "eq"
      rw [W_eq e2]
      walk_at "eq"
      obtain ⟨p, hp, e3⟩ := pick_map qD_frz (ds := ds) (n := n + 1) (o := false) [.no (.w l), .w t] hds (by omega) (by simp)
      have e3 : F_law_pick [bx ds (n + 1), .lst false [.tup [sD nN, sD l], sD t]] = some (qD p, [bx ds (n + 1 + 1), .lst false [.tup [sD nN, sD l], sD t]]) := e3
      rw [W_eq e3]
      walk_at "eq"
      simp only [List.mem_cons, List.not_mem_nil, or_false] at hp
      rcases hp with rfl | rfl
      · exact ⟨_, _, rfl, by omega, Nat.le_refl _, hk⟩
      · exact ⟨_, _, rfl, by omega, by show 1 ≤ 2; omega, htl t ht1⟩
    | no q =>
      have hq : ht q + 1 ≤ m + 1 := hq
      simp only [qD]
      walk_at "eq"
      refine W_mono (ih n q hn (by omega) hk) ?_
      rintro r ⟨p, n1, rfl, h1, h2, h3⟩
      walk_at "eq"
      obtain ⟨z, hz, e3⟩ := pick_map qD_frz (ds := ds) (n := n1) (o := false) [q, .no p] hds (by omega) (by simp)
      have e3 : F_law_pick [bx ds n1, .lst false [qD q, .tup [sD nN, qD p]]] = some (qD z, [bx ds (n1 + 1), .lst false [qD q, .tup [sD nN, qD p]]]) := e3
      rw [W_eq e3]
      walk_at "eq"
      simp only [List.mem_cons, List.not_mem_nil, or_false] at hz
      have e9 : ht (.no q) = ht q + 1 := rfl
      have e8 : ht (.no p) = ht p + 1 := rfl
      rcases hz with rfl | rfl
      · exact ⟨z, _, rfl, by omega, by omega, hk⟩
      · exact ⟨.no p, _, rfl, by omega, by omega, h3⟩
    | bi b q1 q2 =>
      have hq : max (ht q1) (ht q2) + 1 ≤ m + 1 := hq
      have e9 : ht (.bi b q1 q2) = max (ht q1) (ht q2) + 1 := rfl
      obtain ⟨g, e, g0, g1⟩ := draw_ex (ds := ds) (n := n) (m := 3) hds (by omega) (by omega)
      cases b
      all_goals
        simp only [qD]
        walk_at "eq"
        rw [W_eq e]
        walk_at "eq"
        rcases (show g = 0 ∨ g = 1 ∨ g = 2 by omega) with rfl | rfl | rfl
        · rw [if_pos rfl]
          walk_at "eq"
          first | exact ⟨.bi false q1 q2, _, rfl, by omega, by show max (ht q1) (ht q2) + 1 ≤ max (ht q1) (ht q2) + 1 + 1; omega, hk⟩ | exact ⟨.bi true q1 q2, _, rfl, by omega, by show max (ht q1) (ht q2) + 1 ≤ max (ht q1) (ht q2) + 1 + 1; omega, hk⟩
        · rw [if_neg (by decide)]
          walk_at "eq"
          refine W_mono (ih (n + 1) q1 (by omega) (by omega) hk.1) ?_
          rintro r ⟨p, n1, rfl, h1, h2, h3⟩
          walk_at "eq"
          first | exact ⟨.bi false p q2, _, rfl, by omega, by show max (ht p) (ht q2) + 1 ≤ max (ht q1) (ht q2) + 1 + 1; omega, h3, hk.2⟩ | exact ⟨.bi true p q2, _, rfl, by omega, by show max (ht p) (ht q2) + 1 ≤ max (ht q1) (ht q2) + 1 + 1; omega, h3, hk.2⟩
        · rw [if_neg (by decide)]
          walk_at "eq"
          rw [if_neg (by decide)]
          walk_at "eq"
          refine W_mono (ih (n + 1) q2 (by omega) (by omega) hk.2) ?_
          rintro r ⟨p, n1, rfl, h1, h2, h3⟩
          walk_at "eq"
          first | exact ⟨.bi false q1 p, _, rfl, by omega, by show max (ht q1) (ht p) + 1 ≤ max (ht q1) (ht q2) + 1 + 1; omega, hk.1, h3⟩ | exact ⟨.bi true q1 p, _, rfl, by omega, by show max (ht q1) (ht p) + 1 ≤ max (ht q1) (ht q2) + 1 + 1; omega, hk.1, h3⟩
theorem bent_ok {ds : List Int} (hds : ds ≠ []) (ts : List (List Sg)) (ht0 : ts ≠ []) (htl : ∀ t ∈ ts, t.length ≤ 30) (n : Int) (q : Qn) (hn : 0 ≤ n) (hq : ht q ≤ 12) (hk : ok q) : W (F_law_bent [bx ds n, qD q, .lst true (ts.map sD)]) fun r => ∃ (p : Qn) (n' : Int), r = (qD p, [bx ds n', qD q, .lst true (ts.map sD)]) ∧ n ≤ n' ∧ ht p ≤ ht q + 1 ∧ ok p := bent_R hds ts ht0 htl 12 n q hn hq hk
end Lk60
end
section
set_option Elab.async false
set_option linter.all false
set_option maxRecDepth 100000
set_option maxHeartbeats 4000000
set_option exponentiation.threshold 5000
open PySem Mv Mv.PreA
local macro_rules | `(tactic| walk_at "ev") => `(tactic| try simp only [↓W_bCons, ↓W_bNil, ↓W_bBrk, ↓W_bCnt, ↓W_bExp, ↓W_bRet, ↓W_bRetN, ↓W_bIf, ↓W_bAsg, ↓W_bPar, ↓W_bPar3, ↓W_bAug, ↓W_eC, ↓W_eV, ↓W_eM, ↓W_hV, ↓W_hE, ↓W_eFz, ↓W_e1, ↓W_e2, ↓W_aNil, ↓W_aCons, ↓W_eN, ↓W_eTup, ↓W_eLst, ↓W_eCall, ↓W_eMut, ↓W_eMt, ↓W_eIf, ↓W_eAn, ↓W_eOr, ↓W_eNo, ↓W_eJ0, ↓W_eJ1, ↓W_tT, ↓W_tB, ↓W_tNo, ↓W_tAn, ↓W_tOr, ↓W_tAll, ↓W_gNm, ↓W_gsNil, ↓W_gsCons, ↓W_gTp, ↓W_gTpL, ↓W_gIx, ↓W_bFor, ↓W_bWhile, ↓W_iRg1, ↓W_iRg2, ↓W_iSq, ↓W_eLc, ↓W_eSortSet, ↓W_eSl, ↓W_eSlA, ↓W_eLc2, ↓W_bFzS, ↓W_pN, ↓W_pS, ↓W_iEn, ↓W_iZp, ↓W_iZpG, ↓W_iRv, ↓W_iRg3, ↓W_iRgV, ↓W_eCh, ↓W_chIf, ↓W_bind, ↓W_map, ↓W_some, ↓W_none,
  Hd.get, List.getElem?_cons_zero, List.getElem?_cons_succ, List.getD_cons_zero, List.getD_cons_succ, List.set_cons_zero, List.set_cons_succ, List.length_cons, List.length_nil, List.map_cons, List.map_nil, List.replicate, List.cons_append, List.nil_append, Nat.reduceAdd, Nat.reduceSub, Nat.reduceLeDiff, Nat.zero_add,
  D.frz, D.frzL, D.fz, D.fzL, tru_b, tru_i, tru_n, tru_l, tru_t, tru_c, tms, wipeD, unw, lend, unlend, keepL, Option.map_some, Option.bind_some, Bool.and_true, Bool.true_and, Bool.not_true, Bool.not_false, ↓reduceIte, if_true, if_false, Bool.false_eq_true, true_and, and_true, ite_b, ite_nb, vv_fmtI, vv_fmtS, vv_reprI, vv_reprS, vv_addS, vv_augI, vv_augS, vv_lenS, vv_eqS, vv_neS, vv_addL, vv_addT,
  vv_add, vv_sub, vv_mul, vv_mulI, Ti.d, frzL_sD, fzL_sD, Ti.row_len, ilist_len, List.length_map, Ti.rows_len, gIn_sg, revS_mkF, repS_mkF, mkF_app, mkF_len, mkF_inj, Ti.gEq_d, vv_mulS, vv_mulSS, vv_mulSL, vv_slAL, vv_slAT, vv_slAS, vv_revL, vv_tRevL, vv_tRevT, vv_revT, vv_revS, revS_mkS, vv_listR, vv_listRL, vv_listRT, vv_range1, gInS_s, gInS_sT, gInS_l, inX_iT, inX_iL, inX_tL, inX_s, vv_indexS, vv_div, vv_mod, vv_pow, vv_shl, vv_shr, vv_neg, vv_lt, vv_le, vv_gt, vv_ge, vv_ltX, vv_leX, vv_gtX, vv_geX, ltX_tI, gtX_tI, gEq_tI, gNe_tI, vv_int, vv_intS, vv_intb, vv_abs, vv_gcd, vv_max2, vv_min2, vv_lenL, vv_lenC, vv_lenT, vv_idxL, vv_idxC, vv_idxT, vv_eqI, vv_eqB, vv_neI, vv_list, vv_listT, vv_tuple, vv_tupleT, vv_sum, vv_slL, vv_slS, vv_slT, vv_range, vv_index, vv_count, isL_l, isL_c, lenL_l, lenL_c, kindL, vv_maxL, vv_minL, vv_strI, vv_app, vv_minA, vv_maxA, strs_map, kindS, zk_l, zk_c, zk_t, zk_s, vv_isNN, vv_isIN, vv_isSN, vv_isBN, vv_isLN, vv_isTN, vv_isBB, vv_isNB, vv_isIB, vv_isSB, vv_isLB, vv_isTB, vv_inNN, vv_inIN, vv_inSN, vv_inBN, vv_inLN, vv_inTN, vv_inBB, atF0, atF1, atF2, atF3, atF4, atF5, okI, okB, okS, okN, okL, ix0, ix1, ix2, frzL_int, fzL_int, intsD_map, isiI_int, isiI_str, isiI_bool, isiI_list, isiI_tuple, isiS_int, isiS_str, isiS_bool, isiS_list, isiS_tuple, isiB_int, isiB_str, isiB_bool, isiB_list, isiB_tuple, isiL_int, isiL_str, isiL_bool, isiL_list, isiL_tuple, isiT_int, isiT_str, isiT_bool, isiT_list, isiT_tuple, isiN_int, isiN_str, isiN_bool, isiN_list, isiN_tuple, gIn_iF, gIn_iT, gEq_ii, gNe_ii, gEq_in, gNe_in, gEq_pp, gNe_pp, gEq_pn, gNe_pn, dec_self, mkS_len, mkS_app, gEq_mkS, okRt])
local macro_rules | `(tactic| walk_at "mu") => `(tactic| repeat (first | (rw [W_ok (MulOk.right (by omega))]; walk_at "ev") | (rw [W_ok (MulOk.left (by omega))]; walk_at "ev") | (rw [W_ok (divok (by omega) (by omega))]; walk_at "ev") | (rw [W_ok (by omega)]; walk_at "ev")))
local macro_rules | `(tactic| walk_at "lens") => `(tactic| (simp only [Ti.row_len, List.length_drop, List.length_take, ilist_len, List.length_map, Ti.rows_len, mkF_len, List.length_append, List.length_cons, List.length_nil]; omega))
local macro_rules | `(tactic| walk_at "wk") => `(tactic| (walk_at "ev"; repeat (first | (rw [W_ok (by omega)]; walk_at "ev") | (rw [W_ok (by walk_at "lens")]; walk_at "ev"))))
local macro_rules | `(tactic| walk_at "fin") => `(tactic| first | rfl | exact ⟨rfl, rfl⟩ | exact ⟨_, rfl⟩ | exact ⟨_, _, rfl⟩)
local macro_rules | `(tactic| walk_at "nx") => `(tactic| (show W (bCons _ _ _) _; rw [W_bCons]))
namespace Lk60
local macro_rules | `(tactic| walk_at "eq") => `(tactic| try simp only [↓W_bCons, ↓W_bNil, ↓W_bBrk, ↓W_bCnt, ↓W_bExp, ↓W_bRet, ↓W_bRetN, ↓W_bIf, ↓W_bAsg, ↓W_bPar, ↓W_bPar3, ↓W_bAug, ↓W_eC, ↓W_eV, ↓W_eM, ↓W_hV, ↓W_hE, ↓W_eFz, ↓W_e1, ↓W_e2, ↓W_aNil, ↓W_aCons, ↓W_eN, ↓W_eTup, ↓W_eLst, ↓W_eCall, ↓W_eMut, ↓W_eMt, ↓W_eIf, ↓W_eAn, ↓W_eOr, ↓W_eNo, ↓W_eJ0, ↓W_eJ1, ↓W_tT, ↓W_tB, ↓W_tNo, ↓W_tAn, ↓W_tOr, ↓W_tAll, ↓W_gNm, ↓W_gsNil, ↓W_gsCons, ↓W_gTp, ↓W_gTpL, ↓W_gIx, ↓W_bFor, ↓W_bWhile, ↓W_iRg1, ↓W_iRg2, ↓W_iSq, ↓W_eLc, ↓W_eSortSet, ↓W_eSl, ↓W_eSlA, ↓W_eLc2, ↓W_bFzS, ↓W_pN, ↓W_pS, ↓W_iEn, ↓W_iZp, ↓W_iZpG, ↓W_iRv, ↓W_iRg3, ↓W_iRgV, ↓W_eCh, ↓W_chIf, ↓W_bind, ↓W_map, ↓W_some, ↓W_none,
  Hd.get, List.getElem?_cons_zero, List.getElem?_cons_succ, List.getD_cons_zero, List.getD_cons_succ, List.set_cons_zero, List.set_cons_succ, List.length_cons, List.length_nil, List.map_cons, List.map_nil, List.replicate, List.cons_append, List.nil_append, Nat.reduceAdd, Nat.reduceSub, Nat.reduceLeDiff, Nat.zero_add,
  D.frz, D.frzL, D.fz, D.fzL, tru_b, tru_i, tru_n, tru_l, tru_t, tru_c, tms, wipeD, unw, lend, unlend, keepL, Option.map_some, Option.bind_some, Bool.and_true, Bool.true_and, Bool.not_true, Bool.not_false, ↓reduceIte, if_true, if_false, Bool.false_eq_true, true_and, and_true, ite_b, ite_nb, vv_fmtI, vv_fmtS, vv_reprI, vv_reprS, vv_addS, vv_augI, vv_augS, vv_lenS, vv_eqS, vv_neS, vv_addL, vv_addT,
  vv_add, vv_sub, vv_mul, vv_mulI, Ti.d, frzL_sD, fzL_sD, Ti.row_len, ilist_len, List.length_map, Ti.rows_len, gIn_sg, revS_mkF, repS_mkF, mkF_app, mkF_len, mkF_inj, Ti.gEq_d, vv_mulS, vv_mulSS, vv_mulSL, vv_slAL, vv_slAT, vv_slAS, vv_revL, vv_tRevL, vv_tRevT, vv_revT, vv_revS, revS_mkS, vv_listR, vv_listRL, vv_listRT, vv_range1, gInS_s, gInS_sT, gInS_l, inX_iT, inX_iL, inX_tL, inX_s, vv_indexS, vv_div, vv_mod, vv_pow, vv_shl, vv_shr, vv_neg, vv_lt, vv_le, vv_gt, vv_ge, vv_ltX, vv_leX, vv_gtX, vv_geX, ltX_tI, gtX_tI, gEq_tI, gNe_tI, vv_int, vv_intS, vv_intb, vv_abs, vv_gcd, vv_max2, vv_min2, vv_lenL, vv_lenC, vv_lenT, vv_idxL, vv_idxC, vv_idxT, vv_eqI, vv_eqB, vv_neI, vv_list, vv_listT, vv_tuple, vv_tupleT, vv_sum, vv_slL, vv_slS, vv_slT, vv_range, vv_index, vv_count, isL_l, isL_c, lenL_l, lenL_c, kindL, vv_maxL, vv_minL, vv_strI, vv_app, vv_minA, vv_maxA, strs_map, kindS, zk_l, zk_c, zk_t, zk_s, vv_isNN, vv_isIN, vv_isSN, vv_isBN, vv_isLN, vv_isTN, vv_isBB, vv_isNB, vv_isIB, vv_isSB, vv_isLB, vv_isTB, vv_inNN, vv_inIN, vv_inSN, vv_inBN, vv_inLN, vv_inTN, vv_inBB, atF0, atF1, atF2, atF3, atF4, atF5, okI, okB, okS, okN, okL, ix0, ix1, ix2, frzL_int, fzL_int, intsD_map, isiI_int, isiI_str, isiI_bool, isiI_list, isiI_tuple, isiS_int, isiS_str, isiS_bool, isiS_list, isiS_tuple, isiB_int, isiB_str, isiB_bool, isiB_list, isiB_tuple, isiL_int, isiL_str, isiL_bool, isiL_list, isiL_tuple, isiT_int, isiT_str, isiT_bool, isiT_list, isiT_tuple, isiN_int, isiN_str, isiN_bool, isiN_list, isiN_tuple, gIn_iF, gIn_iT, gEq_ii, gNe_ii, gEq_in, gNe_in, gEq_pp, gNe_pp, gEq_pn, gNe_pn, dec_self, mkS_len, mkS_app, gEq_mkS, okRt, mQ, qD_frz, qD_fz, okQ, inX_w, nS_f, nS_t, hAN, hON, hOA, decide_false, decide_true, not_is, and_is, or_is, okNo, okBo, okBa, vv_augI, emp_app])
theorem gNe_st {o o' : Bool} (st : List (List (List Sg))) : gNe (.lst o (st.map wD)) (.lst o' (st.map wD)) = some (.bl false) := gNe_same (ok_mono (ok_lst fun d hd => by obtain ⟨w, _, rfl⟩ := List.mem_map.mp hd; exact emb_lok emb_sD w) (by decide))
theorem sm_found {o o' : Bool} (n : Nat) (st : List (List (List Sg))) (q : Qn) (hs : st.length ≤ 30) : Sm (n + 2) (.lst o ((found st q).map D.int)) (.lst o' ((found st q).map D.int)) := by
  have := found_len st q
  refine sm_ints (by omega) fun x hx => ?_
  have := (mem_found.mp hx).1
  omega
theorem sm_txt (n : Nat) (q : Qn) (h : ht q ≤ 12) (hk : ok q) : Sm (n + 1) (sD (txt q)) (sD (txt q)) := by
  have hl := txt_len q hk
  have hp : 2 ^ ht q ≤ 2 ^ 12 := Nat.pow_le_pow_right (by omega) h
  have hp2 : (2 : Nat) ^ 12 = 4096 := rfl
  exact sm_mkF (by omega)
theorem trn_ok' (q : Qn) (r : Bool) (h : ok q) : ok (trn r q) := trn_ok q r h
theorem after_ok {ds : List Int} {n : Int} (hds : ds ≠ []) (hn : 0 ≤ n) (x0 x2 x4 x5 x7 x8 x10 x11 x12 x14 x15 x16 x17 x18 : D) (ws : List (List Sg)) (st : List (List (List Sg))) (q : Qn) (hw0 : ws ≠ []) (hw : ∀ w ∈ ws, w.length ≤ 30) (hs : st.length ≤ 30) (hq : ht q ≤ 8) (hb5 : hb q ≤ 5) (hk : ok q) :
    W (j_law_5 [x0, bx ds n, x2, .lst true (ws.map sD), x4, x5, .lst true (st.map wD), x7, x8, .lst true (st.map wD), x10, x11, x12, qD q, x14, x15, x16, x17, x18]) fun o => ∃ (n' : Int) (y14 y15 y16 y17 y18 : D), o = .nx [x0, bx ds n', x2, .lst true (ws.map sD), x4, x5, .lst true (st.map wD), x7, x8, .lst true (st.map wD), x10, x11, x12, qD q, y14, y15, y16, y17, y18] ∧ n ≤ n' := by
  have hf := found_len st q
  unfold j_law_5
  walk_at "nx"
  refine W_mono (Q := fun o => o = .nx [x0, bx ds n, x2, .lst true (ws.map sD), x4, x5, .lst true (st.map wD), x7, x8, .lst true (st.map wD), x10, x11, x12, qD q, .lst true ((found st q).map D.int), x15, x16, x17, x18]) ?_ ?_
  · walk_at "eq"
    rw [W_eq (lfound_ok st q (by omega) hs)]
    walk_at "eq"
  rintro _ rfl
  walk_at "nx"
  refine W_mono (Q := fun o => o = .nx [x0, bx ds n, x2, .lst true (ws.map sD), x4, x5, .lst true (st.map wD), x7, x8, .lst true (st.map wD), x10, x11, x12, qD q, .lst true ((found st q).map D.int), .lst true ((found st q).map D.int), x16, x17, x18]) ?_ ?_
  · walk_at "eq"
    rw [W_eq (found_ok st q hs (by omega))]
    walk_at "eq"
  rintro _ rfl
  walk_at "nx"
  refine W_mono (Q := fun o => o = .nx [x0, bx ds n, x2, .lst true (ws.map sD), x4, x5, .lst true (st.map wD), x7, x8, .lst true (st.map wD), x10, x11, x12, qD q, .lst true ((found st q).map D.int), .lst true ((found st q).map D.int), x16, x17, x18]) ?_ ?_
  · walk_at "eq"
    rw [W_eq (same_ex _ _ (sm_found 6 st q hs))]
    walk_at "eq"
    rw [W_eq (text_ok q (by omega) hk)]
    walk_at "eq"
    rw [W_eq (ltext_ok q (by omega) hk)]
    walk_at "eq"
    rw [W_eq (same_ex _ _ (sm_txt 7 q (by omega) hk))]
    walk_at "eq"
  rintro _ rfl
  walk_at "nx"
  refine W_mono (Q := fun o => o = .nx [x0, bx ds n, x2, .lst true (ws.map sD), x4, x5, .lst true (st.map wD), x7, x8, .lst true (st.map wD), x10, x11, x12, qD q, .lst true ((found st q).map D.int), .lst true ((found st q).map D.int ++ [.int 99]), x16, x17, x18]) ?_ ?_
  · walk_at "eq"
    rw [W_ok (by omega)]
  rintro _ rfl
  walk_at "nx"
  refine W_mono (Q := fun o => o = .nx [x0, bx ds n, x2, .lst true (ws.map sD), x4, x5, .lst true (st.map wD), x7, x8, .lst true (st.map wD), x10, x11, x12, qD q, .lst true ((found st q).map D.int), .lst true ((found st q).map D.int ++ [.int 99]), qD (trn true q), x17, x18]) ?_ ?_
  · walk_at "eq"
    rw [W_eq (turned_ok q (by omega))]
    walk_at "eq"
  rintro _ rfl
  have hm := trn_ht q true
  have hm2 := trn_ht q false
  walk_at "nx"
  refine W_mono (Q := fun o => o = .nx [x0, bx ds n, x2, .lst true (ws.map sD), x4, x5, .lst true (st.map wD), x7, x8, .lst true (st.map wD), x10, x11, x12, qD q, .lst true ((found st q).map D.int), .lst true ((found st q).map D.int ++ [.int 99]), qD (trn true q), x17, x18]) ?_ ?_
  · walk_at "eq"
    rw [W_eq (lturned_ok q true (by omega))]
    walk_at "eq"
    rw [W_eq (same_ex _ _ (sm_qD (trn true q) 8 (by omega) (trn_ok q true hk)))]
    walk_at "eq"
  rintro _ rfl
  walk_at "nx"
  refine W_mono (Q := fun o => o = .nx [x0, bx ds n, x2, .lst true (ws.map sD), x4, x5, .lst true (st.map wD), x7, x8, .lst true (st.map wD), x10, x11, x12, qD q, .lst true ((found st q).map D.int), .lst true ((found st q).map D.int ++ [.int 99]), qD (trn true q), x17, x18]) ?_ ?_
  · walk_at "eq"
    rw [W_eq (found_ok st (trn true q) hs (by omega))]
    walk_at "eq"
    rw [found_trn, W_eq (same_ex _ _ (sm_found 6 st q hs))]
    walk_at "eq"
    rw [gNe_st]
    walk_at "eq"
  rintro _ rfl
  walk_at "nx"
  refine W_mono (Q := fun o => ∃ (p : Qn) (n1 : Int), o = .nx [x0, bx ds n1, x2, .lst true (ws.map sD), x4, x5, .lst true (st.map wD), x7, x8, .lst true (st.map wD), x10, x11, x12, qD q, .lst true ((found st q).map D.int), .lst true ((found st q).map D.int ++ [.int 99]), qD (trn true q), qD p, x18] ∧ n ≤ n1 ∧ ht p ≤ 9) ?_ ?_
  · walk_at "eq"
    refine W_mono (bent_ok hds ws hw0 hw n q hn (by omega) hk) ?_
    rintro r ⟨p, n1, rfl, h1, h2, h3⟩
    walk_at "eq"
    exact ⟨p, n1, rfl, h1, by omega⟩
  rintro _ ⟨p, n1, rfl, hn1, hp9⟩
  walk_at "nx"
  refine W_mono (Q := fun o => ∃ (n2 : Int) (y18 : D), o = .nx [x0, bx ds n2, x2, .lst true (ws.map sD), x4, x5, .lst true (st.map wD), x7, x8, .lst true (st.map wD), x10, x11, x12, qD q, .lst true ((found st q).map D.int), .lst true ((found st q).map D.int ++ [.int 99]), qD (trn true q), qD p, y18] ∧ n ≤ n2) ?_ ?_
  · walk_at "eq"
    rw [W_eq (lturned_ok q true (by omega))]
    walk_at "eq"
    rw [W_eq (lturned_ok q false (by omega))]
    walk_at "eq"
    refine W_mono (question_ok hds true ws hw0 hw n1 2 (by omega) (by omega)) ?_
    rintro r ⟨q2, n2, rfl, h1, h2, h3, h4⟩
    walk_at "eq"
    refine W_listK (ds := [p, trn true q, .no q, .no (trn false q), q2].map qD) (fun k ρ => ∃ (y18 : D), ρ = [x0, bx ds n2, x2, .lst true (ws.map sD), x4, x5, .lst true (st.map wD), x7, x8, .lst true (st.map wD), x10, x11, x12, qD q, .lst true ((found st q).map D.int), .lst true ((found st q).map D.int ++ [.int 99]), qD (trn true q), qD p, y18]) ⟨_, rfl⟩ ?_ ?_ ?_
    · rintro k ρ hk ⟨y18, rfl⟩
      exact itK_tm (o := true) (xs := [p, trn true q, .no q, .no (trn false q), q2].map qD) (frz_map qD_frz _) k
    · rintro j d ρ hd ⟨y18, rfl⟩
      rw [List.getElem?_map] at hd
      obtain ⟨r, hr, rfl⟩ := Option.map_eq_some_iff.mp hd
      have hrm := List.mem_of_getElem? hr
      have e8 : ht (.no q) = ht q + 1 := rfl
      have e9 : ht (.no (trn false q)) = ht (trn false q) + 1 := rfl
      have hr12 : ht r ≤ 12 := by
        simp only [List.mem_cons, List.not_mem_nil, or_false] at hrm
        rcases hrm with rfl | rfl | rfl | rfl | rfl <;> omega
      walk_at "eq"
      unfold b_law_4
      walk_at "eq"
      rw [W_eq (same_ans_ok st q r hs (by omega) hr12)]
      walk_at "eq"
      rw [W_eq (lfound_ok st r hr12 hs)]
      walk_at "eq"
      rw [W_eq (same_ex _ _ (sm_bl (n := 7) (decide_eq_decide.mpr eq_comm)))]
      walk_at "eq"
      exact ⟨_, rfl⟩
    · rintro ρ ⟨y18, rfl⟩
      walk_at "eq"
      exact ⟨_, _, rfl, by omega⟩
  rintro _ ⟨n2, y18, rfl, hn2⟩
  walk_at "eq"
  rw [gNe_st]
  walk_at "eq"
  exact ⟨_, _, _, _, _, _, rfl, hn2⟩
end Lk60
end
section
set_option Elab.async false
set_option linter.all false
set_option maxRecDepth 100000
set_option maxHeartbeats 4000000
set_option exponentiation.threshold 5000
open PySem Mv Mv.PreA
local macro_rules | `(tactic| walk_at "ev") => `(tactic| try simp only [↓W_bCons, ↓W_bNil, ↓W_bBrk, ↓W_bCnt, ↓W_bExp, ↓W_bRet, ↓W_bRetN, ↓W_bIf, ↓W_bAsg, ↓W_bPar, ↓W_bPar3, ↓W_bAug, ↓W_eC, ↓W_eV, ↓W_eM, ↓W_hV, ↓W_hE, ↓W_eFz, ↓W_e1, ↓W_e2, ↓W_aNil, ↓W_aCons, ↓W_eN, ↓W_eTup, ↓W_eLst, ↓W_eCall, ↓W_eMut, ↓W_eMt, ↓W_eIf, ↓W_eAn, ↓W_eOr, ↓W_eNo, ↓W_eJ0, ↓W_eJ1, ↓W_tT, ↓W_tB, ↓W_tNo, ↓W_tAn, ↓W_tOr, ↓W_tAll, ↓W_gNm, ↓W_gsNil, ↓W_gsCons, ↓W_gTp, ↓W_gTpL, ↓W_gIx, ↓W_bFor, ↓W_bWhile, ↓W_iRg1, ↓W_iRg2, ↓W_iSq, ↓W_eLc, ↓W_eSortSet, ↓W_eSl, ↓W_eSlA, ↓W_eLc2, ↓W_bFzS, ↓W_pN, ↓W_pS, ↓W_iEn, ↓W_iZp, ↓W_iZpG, ↓W_iRv, ↓W_iRg3, ↓W_iRgV, ↓W_eCh, ↓W_chIf, ↓W_bind, ↓W_map, ↓W_some, ↓W_none,
  Hd.get, List.getElem?_cons_zero, List.getElem?_cons_succ, List.getD_cons_zero, List.getD_cons_succ, List.set_cons_zero, List.set_cons_succ, List.length_cons, List.length_nil, List.map_cons, List.map_nil, List.replicate, List.cons_append, List.nil_append, Nat.reduceAdd, Nat.reduceSub, Nat.reduceLeDiff, Nat.zero_add,
  D.frz, D.frzL, D.fz, D.fzL, tru_b, tru_i, tru_n, tru_l, tru_t, tru_c, tms, wipeD, unw, lend, unlend, keepL, Option.map_some, Option.bind_some, Bool.and_true, Bool.true_and, Bool.not_true, Bool.not_false, ↓reduceIte, if_true, if_false, Bool.false_eq_true, true_and, and_true, ite_b, ite_nb, vv_fmtI, vv_fmtS, vv_reprI, vv_reprS, vv_addS, vv_augI, vv_augS, vv_lenS, vv_eqS, vv_neS, vv_addL, vv_addT,
  vv_add, vv_sub, vv_mul, vv_mulI, Ti.d, frzL_sD, fzL_sD, Ti.row_len, ilist_len, List.length_map, Ti.rows_len, gIn_sg, revS_mkF, repS_mkF, mkF_app, mkF_len, mkF_inj, Ti.gEq_d, vv_mulS, vv_mulSS, vv_mulSL, vv_slAL, vv_slAT, vv_slAS, vv_revL, vv_tRevL, vv_tRevT, vv_revT, vv_revS, revS_mkS, vv_listR, vv_listRL, vv_listRT, vv_range1, gInS_s, gInS_sT, gInS_l, inX_iT, inX_iL, inX_tL, inX_s, vv_indexS, vv_div, vv_mod, vv_pow, vv_shl, vv_shr, vv_neg, vv_lt, vv_le, vv_gt, vv_ge, vv_ltX, vv_leX, vv_gtX, vv_geX, ltX_tI, gtX_tI, gEq_tI, gNe_tI, vv_int, vv_intS, vv_intb, vv_abs, vv_gcd, vv_max2, vv_min2, vv_lenL, vv_lenC, vv_lenT, vv_idxL, vv_idxC, vv_idxT, vv_eqI, vv_eqB, vv_neI, vv_list, vv_listT, vv_tuple, vv_tupleT, vv_sum, vv_slL, vv_slS, vv_slT, vv_range, vv_index, vv_count, isL_l, isL_c, lenL_l, lenL_c, kindL, vv_maxL, vv_minL, vv_strI, vv_app, vv_minA, vv_maxA, strs_map, kindS, zk_l, zk_c, zk_t, zk_s, vv_isNN, vv_isIN, vv_isSN, vv_isBN, vv_isLN, vv_isTN, vv_isBB, vv_isNB, vv_isIB, vv_isSB, vv_isLB, vv_isTB, vv_inNN, vv_inIN, vv_inSN, vv_inBN, vv_inLN, vv_inTN, vv_inBB, atF0, atF1, atF2, atF3, atF4, atF5, okI, okB, okS, okN, okL, ix0, ix1, ix2, frzL_int, fzL_int, intsD_map, isiI_int, isiI_str, isiI_bool, isiI_list, isiI_tuple, isiS_int, isiS_str, isiS_bool, isiS_list, isiS_tuple, isiB_int, isiB_str, isiB_bool, isiB_list, isiB_tuple, isiL_int, isiL_str, isiL_bool, isiL_list, isiL_tuple, isiT_int, isiT_str, isiT_bool, isiT_list, isiT_tuple, isiN_int, isiN_str, isiN_bool, isiN_list, isiN_tuple, gIn_iF, gIn_iT, gEq_ii, gNe_ii, gEq_in, gNe_in, gEq_pp, gNe_pp, gEq_pn, gNe_pn, dec_self, mkS_len, mkS_app, gEq_mkS, okRt])
local macro_rules | `(tactic| walk_at "mu") => `(tactic| repeat (first | (rw [W_ok (MulOk.right (by omega))]; walk_at "ev") | (rw [W_ok (MulOk.left (by omega))]; walk_at "ev") | (rw [W_ok (divok (by omega) (by omega))]; walk_at "ev") | (rw [W_ok (by omega)]; walk_at "ev")))
local macro_rules | `(tactic| walk_at "lens") => `(tactic| (simp only [Ti.row_len, List.length_drop, List.length_take, ilist_len, List.length_map, Ti.rows_len, mkF_len, List.length_append, List.length_cons, List.length_nil]; omega))
local macro_rules | `(tactic| walk_at "wk") => `(tactic| (walk_at "ev"; repeat (first | (rw [W_ok (by omega)]; walk_at "ev") | (rw [W_ok (by walk_at "lens")]; walk_at "ev"))))
local macro_rules | `(tactic| walk_at "fin") => `(tactic| first | rfl | exact ⟨rfl, rfl⟩ | exact ⟨_, rfl⟩ | exact ⟨_, _, rfl⟩)
local macro_rules | `(tactic| walk_at "nx") => `(tactic| (show W (bCons _ _ _) _; rw [W_bCons]))
namespace Lk60
local macro_rules | `(tactic| walk_at "eq") => `(tactic| try simp only [↓W_bCons, ↓W_bNil, ↓W_bBrk, ↓W_bCnt, ↓W_bExp, ↓W_bRet, ↓W_bRetN, ↓W_bIf, ↓W_bAsg, ↓W_bPar, ↓W_bPar3, ↓W_bAug, ↓W_eC, ↓W_eV, ↓W_eM, ↓W_hV, ↓W_hE, ↓W_eFz, ↓W_e1, ↓W_e2, ↓W_aNil, ↓W_aCons, ↓W_eN, ↓W_eTup, ↓W_eLst, ↓W_eCall, ↓W_eMut, ↓W_eMt, ↓W_eIf, ↓W_eAn, ↓W_eOr, ↓W_eNo, ↓W_eJ0, ↓W_eJ1, ↓W_tT, ↓W_tB, ↓W_tNo, ↓W_tAn, ↓W_tOr, ↓W_tAll, ↓W_gNm, ↓W_gsNil, ↓W_gsCons, ↓W_gTp, ↓W_gTpL, ↓W_gIx, ↓W_bFor, ↓W_bWhile, ↓W_iRg1, ↓W_iRg2, ↓W_iSq, ↓W_eLc, ↓W_eSortSet, ↓W_eSl, ↓W_eSlA, ↓W_eLc2, ↓W_bFzS, ↓W_pN, ↓W_pS, ↓W_iEn, ↓W_iZp, ↓W_iZpG, ↓W_iRv, ↓W_iRg3, ↓W_iRgV, ↓W_eCh, ↓W_chIf, ↓W_bind, ↓W_map, ↓W_some, ↓W_none,
  Hd.get, List.getElem?_cons_zero, List.getElem?_cons_succ, List.getD_cons_zero, List.getD_cons_succ, List.set_cons_zero, List.set_cons_succ, List.length_cons, List.length_nil, List.map_cons, List.map_nil, List.replicate, List.cons_append, List.nil_append, Nat.reduceAdd, Nat.reduceSub, Nat.reduceLeDiff, Nat.zero_add,
  D.frz, D.frzL, D.fz, D.fzL, tru_b, tru_i, tru_n, tru_l, tru_t, tru_c, tms, wipeD, unw, lend, unlend, keepL, Option.map_some, Option.bind_some, Bool.and_true, Bool.true_and, Bool.not_true, Bool.not_false, ↓reduceIte, if_true, if_false, Bool.false_eq_true, true_and, and_true, ite_b, ite_nb, vv_fmtI, vv_fmtS, vv_reprI, vv_reprS, vv_addS, vv_augI, vv_augS, vv_lenS, vv_eqS, vv_neS, vv_addL, vv_addT,
  vv_add, vv_sub, vv_mul, vv_mulI, Ti.d, frzL_sD, fzL_sD, Ti.row_len, ilist_len, List.length_map, Ti.rows_len, gIn_sg, revS_mkF, repS_mkF, mkF_app, mkF_len, mkF_inj, Ti.gEq_d, vv_mulS, vv_mulSS, vv_mulSL, vv_slAL, vv_slAT, vv_slAS, vv_revL, vv_tRevL, vv_tRevT, vv_revT, vv_revS, revS_mkS, vv_listR, vv_listRL, vv_listRT, vv_range1, gInS_s, gInS_sT, gInS_l, inX_iT, inX_iL, inX_tL, inX_s, vv_indexS, vv_div, vv_mod, vv_pow, vv_shl, vv_shr, vv_neg, vv_lt, vv_le, vv_gt, vv_ge, vv_ltX, vv_leX, vv_gtX, vv_geX, ltX_tI, gtX_tI, gEq_tI, gNe_tI, vv_int, vv_intS, vv_intb, vv_abs, vv_gcd, vv_max2, vv_min2, vv_lenL, vv_lenC, vv_lenT, vv_idxL, vv_idxC, vv_idxT, vv_eqI, vv_eqB, vv_neI, vv_list, vv_listT, vv_tuple, vv_tupleT, vv_sum, vv_slL, vv_slS, vv_slT, vv_range, vv_index, vv_count, isL_l, isL_c, lenL_l, lenL_c, kindL, vv_maxL, vv_minL, vv_strI, vv_app, vv_minA, vv_maxA, strs_map, kindS, zk_l, zk_c, zk_t, zk_s, vv_isNN, vv_isIN, vv_isSN, vv_isBN, vv_isLN, vv_isTN, vv_isBB, vv_isNB, vv_isIB, vv_isSB, vv_isLB, vv_isTB, vv_inNN, vv_inIN, vv_inSN, vv_inBN, vv_inLN, vv_inTN, vv_inBB, atF0, atF1, atF2, atF3, atF4, atF5, okI, okB, okS, okN, okL, ix0, ix1, ix2, frzL_int, fzL_int, intsD_map, isiI_int, isiI_str, isiI_bool, isiI_list, isiI_tuple, isiS_int, isiS_str, isiS_bool, isiS_list, isiS_tuple, isiB_int, isiB_str, isiB_bool, isiB_list, isiB_tuple, isiL_int, isiL_str, isiL_bool, isiL_list, isiL_tuple, isiT_int, isiT_str, isiT_bool, isiT_list, isiT_tuple, isiN_int, isiN_str, isiN_bool, isiN_list, isiN_tuple, gIn_iF, gIn_iT, gEq_ii, gNe_ii, gEq_in, gNe_in, gEq_pp, gNe_pp, gEq_pn, gNe_pn, dec_self, mkS_len, mkS_app, gEq_mkS, okRt, mQ, qD_frz, qD_fz, okQ, inX_w, nS_f, nS_t, hAN, hON, hOA, decide_false, decide_true, not_is, and_is, or_is, okNo, okBo, okBa, vv_augI, emp_app])
theorem deep_ok {ds : List Int} {n : Int} (hds : ds ≠ []) (hn : 0 ≤ n) (x0 x2 x4 x5 x7 x8 x10 x13 x14 x15 x16 x17 x18 : D) (k : Nat) (hk : k ≤ 4) (ws : List (List Sg)) (sr : List Sg) (st : List (List (List Sg))) (hw0 : ws.length = 6) (hw : ∀ w ∈ ws, w.length ≤ 9) (hsr : sr.length ≤ 30) (hs : st.length ≤ 30) :
    W (b_law_6 [x0, bx ds n, x2, .lst true (ws.map sD), x4, x5, .lst true (st.map wD), x7, x8, .lst true (st.map wD), x10, sD sr, .int (k : Nat), x13, x14, x15, x16, x17, x18]) fun o => ∃ (n' : Int) (y13 y14 y15 y16 y17 y18 : D), o = .nx [x0, bx ds n', x2, .lst true (ws.map sD), x4, x5, .lst true (st.map wD), x7, x8, .lst true (st.map wD), x10, sD sr, .int (k : Nat), y13, y14, y15, y16, y17, y18] ∧ n ≤ n' := by
  have hw1 : ws ≠ [] := by rintro rfl; simp at hw0
  unfold b_law_6
  walk_at "nx"
  refine W_mono (Q := fun o => ∃ (q : Qn) (n1 : Int), o = .nx [x0, bx ds n1, x2, .lst true (ws.map sD), x4, x5, .lst true (st.map wD), x7, x8, .lst true (st.map wD), x10, sD sr, .int (k : Nat), qD q, x14, x15, x16, x17, x18] ∧ n ≤ n1 ∧ ht q ≤ 5 ∧ hb q ≤ 5 ∧ ok q) ?_ ?_
  · walk_at "eq"
    have em : ws.map sD ++ [sD sr] = (ws ++ [sr]).map sD := by rw [List.map_append]; rfl
    rw [W_ok (by omega), em]
    walk_at "eq"
    refine W_mono (question_ok hds false (ws ++ [sr]) (by simp) (fun w h => ?_) n k hn (by omega)) ?_
    · rcases List.mem_append.mp h with h | h
      · exact Nat.le_trans (hw w h) (by decide)
      · rw [List.mem_singleton.mp h]; exact hsr
    rintro r ⟨q, n1, rfl, h1, h2, h3, h4⟩
    walk_at "eq"
    exact ⟨q, n1, rfl, h1, by omega, by omega, h4⟩
  rintro _ ⟨q, n1, rfl, hn1, hq, hb5, hk1⟩
  walk_at "nx"
  refine W_mono (Q := fun o => ∃ (q : Qn) (n2 : Int), o = .nx [x0, bx ds n2, x2, .lst true (ws.map sD), x4, x5, .lst true (st.map wD), x7, x8, .lst true (st.map wD), x10, sD sr, .int (k : Nat), qD q, x14, x15, x16, x17, x18] ∧ n ≤ n2 ∧ ht q ≤ 8 ∧ hb q ≤ 5 ∧ ok q) ?_ ?_
  · obtain ⟨g, e, g0, g1⟩ := draw_ex (ds := ds) (n := n1) (m := 2) hds (by omega) (by omega)
    walk_at "eq"
    split
    · rw [W_eq e]
      walk_at "eq"
      split
      · exact ⟨.no (.no (.no q)), _, rfl, by omega, by show ht q + 1 + 1 + 1 ≤ 8; omega, hb5, hk1⟩
      · exact ⟨q, _, rfl, by omega, by omega, hb5, hk1⟩
    · exact ⟨q, _, rfl, by omega, by omega, hb5, hk1⟩
  rintro _ ⟨q, n2, rfl, hn2, hq, hb5, hk1⟩
  refine W_mono (after_ok hds (by omega) x0 x2 x4 x5 x7 x8 x10 _ _ x14 x15 x16 x17 x18 ws st q hw1 (fun w h => Nat.le_trans (hw w h) (by decide)) hs hq hb5 hk1) ?_
  rintro _ ⟨n3, y14, y15, y16, y17, y18, rfl, hn3⟩
  exact ⟨n3, _, _, _, _, _, _, rfl, by omega⟩
end Lk60
end
section
set_option Elab.async false
set_option linter.all false
set_option maxRecDepth 100000
set_option maxHeartbeats 4000000
set_option exponentiation.threshold 5000
open PySem Mv Mv.PreA
local macro_rules | `(tactic| walk_at "ev") => `(tactic| try simp only [↓W_bCons, ↓W_bNil, ↓W_bBrk, ↓W_bCnt, ↓W_bExp, ↓W_bRet, ↓W_bRetN, ↓W_bIf, ↓W_bAsg, ↓W_bPar, ↓W_bPar3, ↓W_bAug, ↓W_eC, ↓W_eV, ↓W_eM, ↓W_hV, ↓W_hE, ↓W_eFz, ↓W_e1, ↓W_e2, ↓W_aNil, ↓W_aCons, ↓W_eN, ↓W_eTup, ↓W_eLst, ↓W_eCall, ↓W_eMut, ↓W_eMt, ↓W_eIf, ↓W_eAn, ↓W_eOr, ↓W_eNo, ↓W_eJ0, ↓W_eJ1, ↓W_tT, ↓W_tB, ↓W_tNo, ↓W_tAn, ↓W_tOr, ↓W_tAll, ↓W_gNm, ↓W_gsNil, ↓W_gsCons, ↓W_gTp, ↓W_gTpL, ↓W_gIx, ↓W_bFor, ↓W_bWhile, ↓W_iRg1, ↓W_iRg2, ↓W_iSq, ↓W_eLc, ↓W_eSortSet, ↓W_eSl, ↓W_eSlA, ↓W_eLc2, ↓W_bFzS, ↓W_pN, ↓W_pS, ↓W_iEn, ↓W_iZp, ↓W_iZpG, ↓W_iRv, ↓W_iRg3, ↓W_iRgV, ↓W_eCh, ↓W_chIf, ↓W_bind, ↓W_map, ↓W_some, ↓W_none,
  Hd.get, List.getElem?_cons_zero, List.getElem?_cons_succ, List.getD_cons_zero, List.getD_cons_succ, List.set_cons_zero, List.set_cons_succ, List.length_cons, List.length_nil, List.map_cons, List.map_nil, List.replicate, List.cons_append, List.nil_append, Nat.reduceAdd, Nat.reduceSub, Nat.reduceLeDiff, Nat.zero_add,
  D.frz, D.frzL, D.fz, D.fzL, tru_b, tru_i, tru_n, tru_l, tru_t, tru_c, tms, wipeD, unw, lend, unlend, keepL, Option.map_some, Option.bind_some, Bool.and_true, Bool.true_and, Bool.not_true, Bool.not_false, ↓reduceIte, if_true, if_false, Bool.false_eq_true, true_and, and_true, ite_b, ite_nb, vv_fmtI, vv_fmtS, vv_reprI, vv_reprS, vv_addS, vv_augI, vv_augS, vv_lenS, vv_eqS, vv_neS, vv_addL, vv_addT,
  vv_add, vv_sub, vv_mul, vv_mulI, Ti.d, frzL_sD, fzL_sD, Ti.row_len, ilist_len, List.length_map, Ti.rows_len, gIn_sg, revS_mkF, repS_mkF, mkF_app, mkF_len, mkF_inj, Ti.gEq_d, vv_mulS, vv_mulSS, vv_mulSL, vv_slAL, vv_slAT, vv_slAS, vv_revL, vv_tRevL, vv_tRevT, vv_revT, vv_revS, revS_mkS, vv_listR, vv_listRL, vv_listRT, vv_range1, gInS_s, gInS_sT, gInS_l, inX_iT, inX_iL, inX_tL, inX_s, vv_indexS, vv_div, vv_mod, vv_pow, vv_shl, vv_shr, vv_neg, vv_lt, vv_le, vv_gt, vv_ge, vv_ltX, vv_leX, vv_gtX, vv_geX, ltX_tI, gtX_tI, gEq_tI, gNe_tI, vv_int, vv_intS, vv_intb, vv_abs, vv_gcd, vv_max2, vv_min2, vv_lenL, vv_lenC, vv_lenT, vv_idxL, vv_idxC, vv_idxT, vv_eqI, vv_eqB, vv_neI, vv_list, vv_listT, vv_tuple, vv_tupleT, vv_sum, vv_slL, vv_slS, vv_slT, vv_range, vv_index, vv_count, isL_l, isL_c, lenL_l, lenL_c, kindL, vv_maxL, vv_minL, vv_strI, vv_app, vv_minA, vv_maxA, strs_map, kindS, zk_l, zk_c, zk_t, zk_s, vv_isNN, vv_isIN, vv_isSN, vv_isBN, vv_isLN, vv_isTN, vv_isBB, vv_isNB, vv_isIB, vv_isSB, vv_isLB, vv_isTB, vv_inNN, vv_inIN, vv_inSN, vv_inBN, vv_inLN, vv_inTN, vv_inBB, atF0, atF1, atF2, atF3, atF4, atF5, okI, okB, okS, okN, okL, ix0, ix1, ix2, frzL_int, fzL_int, intsD_map, isiI_int, isiI_str, isiI_bool, isiI_list, isiI_tuple, isiS_int, isiS_str, isiS_bool, isiS_list, isiS_tuple, isiB_int, isiB_str, isiB_bool, isiB_list, isiB_tuple, isiL_int, isiL_str, isiL_bool, isiL_list, isiL_tuple, isiT_int, isiT_str, isiT_bool, isiT_list, isiT_tuple, isiN_int, isiN_str, isiN_bool, isiN_list, isiN_tuple, gIn_iF, gIn_iT, gEq_ii, gNe_ii, gEq_in, gNe_in, gEq_pp, gNe_pp, gEq_pn, gNe_pn, dec_self, mkS_len, mkS_app, gEq_mkS, okRt])
local macro_rules | `(tactic| walk_at "mu") => `(tactic| repeat (first | (rw [W_ok (MulOk.right (by omega))]; walk_at "ev") | (rw [W_ok (MulOk.left (by omega))]; walk_at "ev") | (rw [W_ok (divok (by omega) (by omega))]; walk_at "ev") | (rw [W_ok (by omega)]; walk_at "ev")))
local macro_rules | `(tactic| walk_at "lens") => `(tactic| (simp only [Ti.row_len, List.length_drop, List.length_take, ilist_len, List.length_map, Ti.rows_len, mkF_len, List.length_append, List.length_cons, List.length_nil]; omega))
local macro_rules | `(tactic| walk_at "wk") => `(tactic| (walk_at "ev"; repeat (first | (rw [W_ok (by omega)]; walk_at "ev") | (rw [W_ok (by walk_at "lens")]; walk_at "ev"))))
local macro_rules | `(tactic| walk_at "fin") => `(tactic| first | rfl | exact ⟨rfl, rfl⟩ | exact ⟨_, rfl⟩ | exact ⟨_, _, rfl⟩)
local macro_rules | `(tactic| walk_at "nx") => `(tactic| (show W (bCons _ _ _) _; rw [W_bCons]))
namespace Lk60
local macro_rules | `(tactic| walk_at "eq") => `(tactic| try simp only [↓W_bCons, ↓W_bNil, ↓W_bBrk, ↓W_bCnt, ↓W_bExp, ↓W_bRet, ↓W_bRetN, ↓W_bIf, ↓W_bAsg, ↓W_bPar, ↓W_bPar3, ↓W_bAug, ↓W_eC, ↓W_eV, ↓W_eM, ↓W_hV, ↓W_hE, ↓W_eFz, ↓W_e1, ↓W_e2, ↓W_aNil, ↓W_aCons, ↓W_eN, ↓W_eTup, ↓W_eLst, ↓W_eCall, ↓W_eMut, ↓W_eMt, ↓W_eIf, ↓W_eAn, ↓W_eOr, ↓W_eNo, ↓W_eJ0, ↓W_eJ1, ↓W_tT, ↓W_tB, ↓W_tNo, ↓W_tAn, ↓W_tOr, ↓W_tAll, ↓W_gNm, ↓W_gsNil, ↓W_gsCons, ↓W_gTp, ↓W_gTpL, ↓W_gIx, ↓W_bFor, ↓W_bWhile, ↓W_iRg1, ↓W_iRg2, ↓W_iSq, ↓W_eLc, ↓W_eSortSet, ↓W_eSl, ↓W_eSlA, ↓W_eLc2, ↓W_bFzS, ↓W_pN, ↓W_pS, ↓W_iEn, ↓W_iZp, ↓W_iZpG, ↓W_iRv, ↓W_iRg3, ↓W_iRgV, ↓W_eCh, ↓W_chIf, ↓W_bind, ↓W_map, ↓W_some, ↓W_none,
  Hd.get, List.getElem?_cons_zero, List.getElem?_cons_succ, List.getD_cons_zero, List.getD_cons_succ, List.set_cons_zero, List.set_cons_succ, List.length_cons, List.length_nil, List.map_cons, List.map_nil, List.replicate, List.cons_append, List.nil_append, Nat.reduceAdd, Nat.reduceSub, Nat.reduceLeDiff, Nat.zero_add,
  D.frz, D.frzL, D.fz, D.fzL, tru_b, tru_i, tru_n, tru_l, tru_t, tru_c, tms, wipeD, unw, lend, unlend, keepL, Option.map_some, Option.bind_some, Bool.and_true, Bool.true_and, Bool.not_true, Bool.not_false, ↓reduceIte, if_true, if_false, Bool.false_eq_true, true_and, and_true, ite_b, ite_nb, vv_fmtI, vv_fmtS, vv_reprI, vv_reprS, vv_addS, vv_augI, vv_augS, vv_lenS, vv_eqS, vv_neS, vv_addL, vv_addT,
  vv_add, vv_sub, vv_mul, vv_mulI, Ti.d, frzL_sD, fzL_sD, Ti.row_len, ilist_len, List.length_map, Ti.rows_len, gIn_sg, revS_mkF, repS_mkF, mkF_app, mkF_len, mkF_inj, Ti.gEq_d, vv_mulS, vv_mulSS, vv_mulSL, vv_slAL, vv_slAT, vv_slAS, vv_revL, vv_tRevL, vv_tRevT, vv_revT, vv_revS, revS_mkS, vv_listR, vv_listRL, vv_listRT, vv_range1, gInS_s, gInS_sT, gInS_l, inX_iT, inX_iL, inX_tL, inX_s, vv_indexS, vv_div, vv_mod, vv_pow, vv_shl, vv_shr, vv_neg, vv_lt, vv_le, vv_gt, vv_ge, vv_ltX, vv_leX, vv_gtX, vv_geX, ltX_tI, gtX_tI, gEq_tI, gNe_tI, vv_int, vv_intS, vv_intb, vv_abs, vv_gcd, vv_max2, vv_min2, vv_lenL, vv_lenC, vv_lenT, vv_idxL, vv_idxC, vv_idxT, vv_eqI, vv_eqB, vv_neI, vv_list, vv_listT, vv_tuple, vv_tupleT, vv_sum, vv_slL, vv_slS, vv_slT, vv_range, vv_index, vv_count, isL_l, isL_c, lenL_l, lenL_c, kindL, vv_maxL, vv_minL, vv_strI, vv_app, vv_minA, vv_maxA, strs_map, kindS, zk_l, zk_c, zk_t, zk_s, vv_isNN, vv_isIN, vv_isSN, vv_isBN, vv_isLN, vv_isTN, vv_isBB, vv_isNB, vv_isIB, vv_isSB, vv_isLB, vv_isTB, vv_inNN, vv_inIN, vv_inSN, vv_inBN, vv_inLN, vv_inTN, vv_inBB, atF0, atF1, atF2, atF3, atF4, atF5, okI, okB, okS, okN, okL, ix0, ix1, ix2, frzL_int, fzL_int, intsD_map, isiI_int, isiI_str, isiI_bool, isiI_list, isiI_tuple, isiS_int, isiS_str, isiS_bool, isiS_list, isiS_tuple, isiB_int, isiB_str, isiB_bool, isiB_list, isiB_tuple, isiL_int, isiL_str, isiL_bool, isiL_list, isiL_tuple, isiT_int, isiT_str, isiT_bool, isiT_list, isiT_tuple, isiN_int, isiN_str, isiN_bool, isiN_list, isiN_tuple, gIn_iF, gIn_iT, gEq_ii, gNe_ii, gEq_in, gNe_in, gEq_pp, gNe_pp, gEq_pn, gNe_pn, dec_self, mkS_len, mkS_app, gEq_mkS, okRt, mQ, qD_frz, qD_fz, okQ, inX_w, nS_f, nS_t, hAN, hON, hOA, decide_false, decide_true, not_is, and_is, or_is, okNo, okBo, okBa, vv_augI, emp_app])
theorem stock_ok {ds : List Int} {n : Int} (hds : ds ≠ []) (hn : 0 ≤ n) (x0 x4 x7 x8 x9 x10 x11 x12 x13 x14 x15 x16 x17 x18 : D) (lap : Int) (own : List (List Sg)) (hown : own.length ≤ 6) (ws : List (List Sg)) (st : List (List (List Sg))) (hst : st.length ≤ 30) :
    W (b_law_3 [x0, bx ds n, .int lap, .lst true (ws.map sD), x4, .lst true (own.map sD), .lst true (st.map wD), x7, x8, x9, x10, x11, x12, x13, x14, x15, x16, x17, x18]) fun o => ∃ (n' : Int) (l : List (List Sg)) (y8 : D), o = .nx [x0, bx ds n', .int lap, .lst true (ws.map sD), x4, .lst true (own.map sD), .lst true ((st ++ [l]).map wD), x7, y8, x9, x10, x11, x12, x13, x14, x15, x16, x17, x18] ∧ n ≤ n' := by
  unfold b_law_3
  walk_at "nx"
  obtain ⟨g, e, g0, g1⟩ := draw_ex (ds := ds) (n := n) (m := 2) hds (by omega) (by omega)
  refine W_mono (Q := fun o => o = .nx [x0, bx ds (n + 1), .int lap, .lst true (ws.map sD), x4, .lst true (own.map sD), .lst true (st.map wD), x7, .int (2 + g), x9, x10, x11, x12, x13, x14, x15, x16, x17, x18]) ?_ ?_
  · walk_at "eq"
    rw [W_eq e]
    walk_at "eq"
  rintro _ rfl
  walk_at "eq"
  refine W_compL (ds := own.map sD) (fun k acc ρ => ∃ (n2 : Int) (l : List (List Sg)), acc = l.map sD ∧ l.length ≤ k ∧ ρ = [x0, bx ds n2, .int lap, .lst true (ws.map sD), x4, .lst true (own.map sD), .lst true (st.map wD), x7, .int (2 + g), x9, x10, x11, x12, x13, x14, x15, x16, x17, x18] ∧ n ≤ n2) ⟨_, [], rfl, Nat.le_refl _, rfl, by omega⟩ ?_ ?_ ?_
  · rintro k acc ρ ⟨n2, l, rfl, hl, rfl, hn2⟩
    exact itK_lst rfl (frzL_sD own) k
  · rintro k d acc ρ hd ⟨n2, l, rfl, hl, rfl, hn2⟩
    rw [List.getElem?_map] at hd
    obtain ⟨r, hr, rfl⟩ := Option.map_eq_some_iff.mp hd
    have hj := (List.getElem?_eq_some_iff.mp hr).1
    obtain ⟨v, e, v0, v1⟩ := draw_ex (ds := ds) (n := n2) (m := 2 + g) hds (by omega) (by omega)
    walk_at "eq"
    rw [W_eq e]
    walk_at "eq"
    split
    · exact ⟨by omega, n2 + 1, l ++ [r], by rw [List.map_append]; rfl, by rw [List.length_append]; simp only [List.length_cons, List.length_nil]; omega, rfl, by omega⟩
    · exact ⟨n2 + 1, l, rfl, by omega, rfl, by omega⟩
  · rintro acc ρ ⟨n2, l, rfl, hl, rfl, hn2⟩
    rw [List.length_map] at hl
    walk_at "eq"
    refine W_mono (mixed_ok sD (fun _ => rfl) (fun _ => rfl) false l hds (show 0 ≤ n2 by omega) (by omega)) ?_
    rintro r ⟨l', n3, rfl, hn3, hp⟩
    walk_at "eq"
    rw [W_ok (by omega)]
    exact ⟨n3, l', _, by rw [List.map_append]; rfl, by omega⟩
theorem lapb_ok {ds : List Int} {n : Int} (hds : ds ≠ []) (hn : 0 ≤ n) (x0 x4 x5 x6 x7 x8 x9 x10 x11 x12 x13 x14 x15 x16 x17 x18 : D) (lap : Int) (hlap : lap = 0 ∨ lap = 1) (ws : List (List Sg)) (hw0 : ws.length = 6) (hw : ∀ w ∈ ws, w.length ≤ 9) :
    W (j_law_7 [x0, bx ds n, .int lap, .lst true (ws.map sD), x4, x5, x6, x7, x8, x9, x10, x11, x12, x13, x14, x15, x16, x17, x18]) fun o => ∃ (n' : Int) (y3 y4 y5 y6 y7 y8 y9 y10 y11 y12 y13 y14 y15 y16 y17 y18 : D), o = .nx [x0, bx ds n', .int lap, y3, y4, y5, y6, y7, y8, y9, y10, y11, y12, y13, y14, y15, y16, y17, y18] ∧ n ≤ n' := by
  unfold j_law_7
  walk_at "nx"
  refine W_mono (Q := fun o => o = .nx [x0, bx ds n, .int lap, .lst true (ws.map sD), x4, .lst true [], x6, x7, x8, x9, x10, x11, x12, x13, x14, x15, x16, x17, x18]) ?_ ?_
  · walk_at "eq"
  rintro _ rfl
  walk_at "nx"
  refine W_mono (Q := fun o => ∃ (own : List (List Sg)) (y4 : D), o = .nx [x0, bx ds n, .int lap, .lst true (ws.map sD), y4, .lst true (own.map sD), x6, x7, x8, x9, x10, x11, x12, x13, x14, x15, x16, x17, x18] ∧ own.length ≤ 6) ?_ ?_
  · walk_at "eq"
    refine W_listK (ds := ws.map sD) (fun k ρ => ∃ (own : List (List Sg)) (y4 : D), ρ = [x0, bx ds n, .int lap, .lst true (ws.map sD), y4, .lst true (own.map sD), x6, x7, x8, x9, x10, x11, x12, x13, x14, x15, x16, x17, x18] ∧ own.length ≤ k) ⟨[], _, rfl, Nat.le_refl _⟩ ?_ ?_ ?_
    · rintro k ρ hk ⟨own, y4, rfl, ho⟩
      exact itK_lst rfl (frzL_sD ws) k
    · rintro j d ρ hd ⟨own, y4, rfl, ho⟩
      rw [List.getElem?_map] at hd
      obtain ⟨r, hr, rfl⟩ := Option.map_eq_some_iff.mp hd
      have hj := (List.getElem?_eq_some_iff.mp hr).1
      walk_at "eq"
      unfold b_law_2
      walk_at "eq"
      split
      · exact ⟨own, _, rfl, by omega⟩
      · rw [W_ok (by omega)]
        exact ⟨own ++ [r], _, by rw [List.map_append]; rfl, by rw [List.length_append]; simp only [List.length_cons, List.length_nil]; omega⟩
    · rintro ρ ⟨own, y4, rfl, ho⟩
      walk_at "eq"
      exact ⟨own, _, rfl, by rw [List.length_map] at ho; omega⟩
  rintro _ ⟨own, y4, rfl, hown⟩
  walk_at "nx"
  refine W_mono (Q := fun o => o = .nx [x0, bx ds n, .int lap, .lst true (ws.map sD), y4, .lst true (own.map sD), .lst true [], x7, x8, x9, x10, x11, x12, x13, x14, x15, x16, x17, x18]) ?_ ?_
  · walk_at "eq"
  rintro _ rfl
  walk_at "nx"
  refine W_mono (Q := fun o => ∃ (n1 : Int) (st : List (List (List Sg))) (y7 y8 : D), o = .nx [x0, bx ds n1, .int lap, .lst true (ws.map sD), y4, .lst true (own.map sD), .lst true (st.map wD), y7, y8, x9, x10, x11, x12, x13, x14, x15, x16, x17, x18] ∧ n ≤ n1 ∧ st.length ≤ 6) ?_ ?_
  · obtain ⟨g, e, g0, g1⟩ := draw_ex (ds := ds) (n := n) (m := 7) hds (by omega) (by omega)
    walk_at "eq"
    rw [W_eq e]
    walk_at "eq"
    rw [W_ok (by omega)]
    show W (lrun (fStep (itR 0 1 g.toNat) (gNm 7) b_law_3) [x0, bx ds (n + 1), .int lap, .lst true (ws.map sD), y4, .lst true (own.map sD), .lst true [], x7, x8, x9, x10, x11, x12, x13, x14, x15, x16, x17, x18]) _
    refine W_range (lo := 0) (fun k ρ => ∃ (n1 : Int) (st : List (List (List Sg))) (y7 y8 : D), ρ = [x0, bx ds n1, .int lap, .lst true (ws.map sD), y4, .lst true (own.map sD), .lst true (st.map wD), y7, y8, x9, x10, x11, x12, x13, x14, x15, x16, x17, x18] ∧ n ≤ n1 ∧ st.length ≤ k) ⟨_, [], _, _, rfl, by omega, Nat.le_refl _⟩ ?_ ?_
    · rintro k ρ hk ⟨n1, st, y7, y8, rfl, hn1, hst⟩
      walk_at "eq"
      refine W_mono (stock_ok hds (by omega) x0 y4 _ y8 x9 x10 x11 x12 x13 x14 x15 x16 x17 x18 lap own hown ws st (by omega)) ?_
      rintro _ ⟨n2, l, y8, rfl, hn2⟩
      exact ⟨n2, st ++ [l], _, _, rfl, by omega, by rw [List.length_append]; simp only [List.length_cons, List.length_nil]; omega⟩
    · rintro ρ ⟨n1, st, y7, y8, rfl, hn1, hst⟩
      exact ⟨n1, st, _, _, rfl, hn1, by omega⟩
  rintro _ ⟨n1, st, y7, y8, rfl, hn1, hst⟩
  walk_at "nx"
  refine W_mono (Q := fun o => o = .nx [x0, bx ds n1, .int lap, .lst true (ws.map sD), y4, .lst true (own.map sD), .lst true (st.map wD), y7, y8, .lst true (st.map wD), x10, x11, x12, x13, x14, x15, x16, x17, x18]) ?_ ?_
  · walk_at "eq"
    refine W_compM wD st (fun _ => true) wD (by omega) (fun j => itK_lst rfl (st_frz st) j) ?_ ?_
    · intro x hx
      walk_at "eq"
    · rw [filter_yes]
      walk_at "eq"
  rintro _ rfl
  walk_at "nx"
  refine W_mono (Q := fun o => ∃ sr : List Sg, o = .nx [x0, bx ds n1, .int lap, .lst true (ws.map sD), y4, .lst true (own.map sD), .lst true (st.map wD), y7, y8, .lst true (st.map wD), x10, sD sr, x12, x13, x14, x15, x16, x17, x18] ∧ sr.length ≤ 30) ?_ ?_
  · match ws, hw0 with
    | [a, b, c, d, e, f], _ =>
      have ha := hw a (by simp)
      have hb := hw b (by simp)
      rw [show Str.ofString "x" = mkF (cs [120]) from by decide +kernel]
      walk_at "eq"
      rw [W_ok (by omega)]
      walk_at "eq"
      rw [W_ok (by rw [List.length_append]; show _ + _ + 1 ≤ _; omega)]
      walk_at "eq"
      exact ⟨_, rfl, by rw [List.length_append, List.length_append]; show _ + _ + 1 ≤ _; omega⟩
  rintro _ ⟨sr, rfl, hsr⟩
  walk_at "eq"
  rcases hlap with rfl | rfl
  · walk_at "eq"
    refine W_listK (ds := ([0, 2, 4] : List Nat).map fun k => D.int (k : Nat)) (fun k ρ => ∃ (n2 : Int) (y12 y13 y14 y15 y16 y17 y18 : D), ρ = [x0, bx ds n2, .int 0, .lst true (ws.map sD), y4, .lst true (own.map sD), .lst true (st.map wD), y7, y8, .lst true (st.map wD), x10, sD sr, y12, y13, y14, y15, y16, y17, y18] ∧ n ≤ n2) ⟨_, _, _, _, _, _, _, _, rfl, by omega⟩ ?_ ?_ ?_
    · rintro k ρ hk ⟨n2, y12, y13, y14, y15, y16, y17, y18, rfl, hn2⟩
      exact itK_tm (o := false) (xs := ([0, 2, 4] : List Nat).map fun k => D.int (k : Nat)) (frz_map (fun _ => rfl) _) k
    · rintro j d ρ hd ⟨n2, y12, y13, y14, y15, y16, y17, y18, rfl, hn2⟩
      rw [List.getElem?_map] at hd
      obtain ⟨r, hr, rfl⟩ := Option.map_eq_some_iff.mp hd
      have hrm := List.mem_of_getElem? hr
      have hr4 : r ≤ 4 := by simp only [List.mem_cons, List.not_mem_nil, or_false] at hrm; omega
      walk_at "eq"
      refine W_mono (deep_ok hds (by omega) x0 _ y4 _ y7 y8 x10 y13 y14 y15 y16 y17 y18 r hr4 ws sr st hw0 hw hsr (by omega)) ?_
      rintro _ ⟨n3, z13, z14, z15, z16, z17, z18, rfl, hn3⟩
      exact ⟨n3, _, _, _, _, _, _, _, rfl, by omega⟩
    · rintro ρ ⟨n2, y12, y13, y14, y15, y16, y17, y18, rfl, hn2⟩
      exact ⟨n2, _, _, _, _, _, _, _, _, _, _, _, _, _, _, _, _, rfl, hn2⟩
  · walk_at "eq"
    refine W_listK (ds := ([1, 3] : List Nat).map fun k => D.int (k : Nat)) (fun k ρ => ∃ (n2 : Int) (y12 y13 y14 y15 y16 y17 y18 : D), ρ = [x0, bx ds n2, .int 1, .lst true (ws.map sD), y4, .lst true (own.map sD), .lst true (st.map wD), y7, y8, .lst true (st.map wD), x10, sD sr, y12, y13, y14, y15, y16, y17, y18] ∧ n ≤ n2) ⟨_, _, _, _, _, _, _, _, rfl, by omega⟩ ?_ ?_ ?_
    · rintro k ρ hk ⟨n2, y12, y13, y14, y15, y16, y17, y18, rfl, hn2⟩
      exact itK_tm (o := false) (xs := ([1, 3] : List Nat).map fun k => D.int (k : Nat)) (frz_map (fun _ => rfl) _) k
    · rintro j d ρ hd ⟨n2, y12, y13, y14, y15, y16, y17, y18, rfl, hn2⟩
      rw [List.getElem?_map] at hd
      obtain ⟨r, hr, rfl⟩ := Option.map_eq_some_iff.mp hd
      have hrm := List.mem_of_getElem? hr
      have hr4 : r ≤ 4 := by simp only [List.mem_cons, List.not_mem_nil, or_false] at hrm; omega
      walk_at "eq"
      refine W_mono (deep_ok hds (by omega) x0 _ y4 _ y7 y8 x10 y13 y14 y15 y16 y17 y18 r hr4 ws sr st hw0 hw hsr (by omega)) ?_
      rintro _ ⟨n3, z13, z14, z15, z16, z17, z18, rfl, hn3⟩
      exact ⟨n3, _, _, _, _, _, _, _, rfl, by omega⟩
    · rintro ρ ⟨n2, y12, y13, y14, y15, y16, y17, y18, rfl, hn2⟩
      exact ⟨n2, _, _, _, _, _, _, _, _, _, _, _, _, _, _, _, _, rfl, hn2⟩
end Lk60
end
section
set_option Elab.async false
set_option linter.all false
set_option maxRecDepth 100000
set_option maxHeartbeats 4000000
set_option exponentiation.threshold 5000
open PySem Mv Mv.PreA
local macro_rules | `(tactic| walk_at "ev") => `(tactic| try simp only [↓W_bCons, ↓W_bNil, ↓W_bBrk, ↓W_bCnt, ↓W_bExp, ↓W_bRet, ↓W_bRetN, ↓W_bIf, ↓W_bAsg, ↓W_bPar, ↓W_bPar3, ↓W_bAug, ↓W_eC, ↓W_eV, ↓W_eM, ↓W_hV, ↓W_hE, ↓W_eFz, ↓W_e1, ↓W_e2, ↓W_aNil, ↓W_aCons, ↓W_eN, ↓W_eTup, ↓W_eLst, ↓W_eCall, ↓W_eMut, ↓W_eMt, ↓W_eIf, ↓W_eAn, ↓W_eOr, ↓W_eNo, ↓W_eJ0, ↓W_eJ1, ↓W_tT, ↓W_tB, ↓W_tNo, ↓W_tAn, ↓W_tOr, ↓W_tAll, ↓W_gNm, ↓W_gsNil, ↓W_gsCons, ↓W_gTp, ↓W_gTpL, ↓W_gIx, ↓W_bFor, ↓W_bWhile, ↓W_iRg1, ↓W_iRg2, ↓W_iSq, ↓W_eLc, ↓W_eSortSet, ↓W_eSl, ↓W_eSlA, ↓W_eLc2, ↓W_bFzS, ↓W_pN, ↓W_pS, ↓W_iEn, ↓W_iZp, ↓W_iZpG, ↓W_iRv, ↓W_iRg3, ↓W_iRgV, ↓W_eCh, ↓W_chIf, ↓W_bind, ↓W_map, ↓W_some, ↓W_none,
  Hd.get, List.getElem?_cons_zero, List.getElem?_cons_succ, List.getD_cons_zero, List.getD_cons_succ, List.set_cons_zero, List.set_cons_succ, List.length_cons, List.length_nil, List.map_cons, List.map_nil, List.replicate, List.cons_append, List.nil_append, Nat.reduceAdd, Nat.reduceSub, Nat.reduceLeDiff, Nat.zero_add,
  D.frz, D.frzL, D.fz, D.fzL, tru_b, tru_i, tru_n, tru_l, tru_t, tru_c, tms, wipeD, unw, lend, unlend, keepL, Option.map_some, Option.bind_some, Bool.and_true, Bool.true_and, Bool.not_true, Bool.not_false, ↓reduceIte, if_true, if_false, Bool.false_eq_true, true_and, and_true, ite_b, ite_nb, vv_fmtI, vv_fmtS, vv_reprI, vv_reprS, vv_addS, vv_augI, vv_augS, vv_lenS, vv_eqS, vv_neS, vv_addL, vv_addT,
  vv_add, vv_sub, vv_mul, vv_mulI, Ti.d, frzL_sD, fzL_sD, Ti.row_len, ilist_len, List.length_map, Ti.rows_len, gIn_sg, revS_mkF, repS_mkF, mkF_app, mkF_len, mkF_inj, Ti.gEq_d, vv_mulS, vv_mulSS, vv_mulSL, vv_slAL, vv_slAT, vv_slAS, vv_revL, vv_tRevL, vv_tRevT, vv_revT, vv_revS, revS_mkS, vv_listR, vv_listRL, vv_listRT, vv_range1, gInS_s, gInS_sT, gInS_l, inX_iT, inX_iL, inX_tL, inX_s, vv_indexS, vv_div, vv_mod, vv_pow, vv_shl, vv_shr, vv_neg, vv_lt, vv_le, vv_gt, vv_ge, vv_ltX, vv_leX, vv_gtX, vv_geX, ltX_tI, gtX_tI, gEq_tI, gNe_tI, vv_int, vv_intS, vv_intb, vv_abs, vv_gcd, vv_max2, vv_min2, vv_lenL, vv_lenC, vv_lenT, vv_idxL, vv_idxC, vv_idxT, vv_eqI, vv_eqB, vv_neI, vv_list, vv_listT, vv_tuple, vv_tupleT, vv_sum, vv_slL, vv_slS, vv_slT, vv_range, vv_index, vv_count, isL_l, isL_c, lenL_l, lenL_c, kindL, vv_maxL, vv_minL, vv_strI, vv_app, vv_minA, vv_maxA, strs_map, kindS, zk_l, zk_c, zk_t, zk_s, vv_isNN, vv_isIN, vv_isSN, vv_isBN, vv_isLN, vv_isTN, vv_isBB, vv_isNB, vv_isIB, vv_isSB, vv_isLB, vv_isTB, vv_inNN, vv_inIN, vv_inSN, vv_inBN, vv_inLN, vv_inTN, vv_inBB, atF0, atF1, atF2, atF3, atF4, atF5, okI, okB, okS, okN, okL, ix0, ix1, ix2, frzL_int, fzL_int, intsD_map, isiI_int, isiI_str, isiI_bool, isiI_list, isiI_tuple, isiS_int, isiS_str, isiS_bool, isiS_list, isiS_tuple, isiB_int, isiB_str, isiB_bool, isiB_list, isiB_tuple, isiL_int, isiL_str, isiL_bool, isiL_list, isiL_tuple, isiT_int, isiT_str, isiT_bool, isiT_list, isiT_tuple, isiN_int, isiN_str, isiN_bool, isiN_list, isiN_tuple, gIn_iF, gIn_iT, gEq_ii, gNe_ii, gEq_in, gNe_in, gEq_pp, gNe_pp, gEq_pn, gNe_pn, dec_self, mkS_len, mkS_app, gEq_mkS, okRt])
local macro_rules | `(tactic| walk_at "mu") => `(tactic| repeat (first | (rw [W_ok (MulOk.right (by omega))]; walk_at "ev") | (rw [W_ok (MulOk.left (by omega))]; walk_at "ev") | (rw [W_ok (divok (by omega) (by omega))]; walk_at "ev") | (rw [W_ok (by omega)]; walk_at "ev")))
local macro_rules | `(tactic| walk_at "lens") => `(tactic| (simp only [Ti.row_len, List.length_drop, List.length_take, ilist_len, List.length_map, Ti.rows_len, mkF_len, List.length_append, List.length_cons, List.length_nil]; omega))
local macro_rules | `(tactic| walk_at "wk") => `(tactic| (walk_at "ev"; repeat (first | (rw [W_ok (by omega)]; walk_at "ev") | (rw [W_ok (by walk_at "lens")]; walk_at "ev"))))
local macro_rules | `(tactic| walk_at "fin") => `(tactic| first | rfl | exact ⟨rfl, rfl⟩ | exact ⟨_, rfl⟩ | exact ⟨_, _, rfl⟩)
local macro_rules | `(tactic| walk_at "nx") => `(tactic| (show W (bCons _ _ _) _; rw [W_bCons]))
namespace Lk60
local macro_rules | `(tactic| walk_at "eq") => `(tactic| try simp only [↓W_bCons, ↓W_bNil, ↓W_bBrk, ↓W_bCnt, ↓W_bExp, ↓W_bRet, ↓W_bRetN, ↓W_bIf, ↓W_bAsg, ↓W_bPar, ↓W_bPar3, ↓W_bAug, ↓W_eC, ↓W_eV, ↓W_eM, ↓W_hV, ↓W_hE, ↓W_eFz, ↓W_e1, ↓W_e2, ↓W_aNil, ↓W_aCons, ↓W_eN, ↓W_eTup, ↓W_eLst, ↓W_eCall, ↓W_eMut, ↓W_eMt, ↓W_eIf, ↓W_eAn, ↓W_eOr, ↓W_eNo, ↓W_eJ0, ↓W_eJ1, ↓W_tT, ↓W_tB, ↓W_tNo, ↓W_tAn, ↓W_tOr, ↓W_tAll, ↓W_gNm, ↓W_gsNil, ↓W_gsCons, ↓W_gTp, ↓W_gTpL, ↓W_gIx, ↓W_bFor, ↓W_bWhile, ↓W_iRg1, ↓W_iRg2, ↓W_iSq, ↓W_eLc, ↓W_eSortSet, ↓W_eSl, ↓W_eSlA, ↓W_eLc2, ↓W_bFzS, ↓W_pN, ↓W_pS, ↓W_iEn, ↓W_iZp, ↓W_iZpG, ↓W_iRv, ↓W_iRg3, ↓W_iRgV, ↓W_eCh, ↓W_chIf, ↓W_bind, ↓W_map, ↓W_some, ↓W_none,
  Hd.get, List.getElem?_cons_zero, List.getElem?_cons_succ, List.getD_cons_zero, List.getD_cons_succ, List.set_cons_zero, List.set_cons_succ, List.length_cons, List.length_nil, List.map_cons, List.map_nil, List.replicate, List.cons_append, List.nil_append, Nat.reduceAdd, Nat.reduceSub, Nat.reduceLeDiff, Nat.zero_add,
  D.frz, D.frzL, D.fz, D.fzL, tru_b, tru_i, tru_n, tru_l, tru_t, tru_c, tms, wipeD, unw, lend, unlend, keepL, Option.map_some, Option.bind_some, Bool.and_true, Bool.true_and, Bool.not_true, Bool.not_false, ↓reduceIte, if_true, if_false, Bool.false_eq_true, true_and, and_true, ite_b, ite_nb, vv_fmtI, vv_fmtS, vv_reprI, vv_reprS, vv_addS, vv_augI, vv_augS, vv_lenS, vv_eqS, vv_neS, vv_addL, vv_addT,
  vv_add, vv_sub, vv_mul, vv_mulI, Ti.d, frzL_sD, fzL_sD, Ti.row_len, ilist_len, List.length_map, Ti.rows_len, gIn_sg, revS_mkF, repS_mkF, mkF_app, mkF_len, mkF_inj, Ti.gEq_d, vv_mulS, vv_mulSS, vv_mulSL, vv_slAL, vv_slAT, vv_slAS, vv_revL, vv_tRevL, vv_tRevT, vv_revT, vv_revS, revS_mkS, vv_listR, vv_listRL, vv_listRT, vv_range1, gInS_s, gInS_sT, gInS_l, inX_iT, inX_iL, inX_tL, inX_s, vv_indexS, vv_div, vv_mod, vv_pow, vv_shl, vv_shr, vv_neg, vv_lt, vv_le, vv_gt, vv_ge, vv_ltX, vv_leX, vv_gtX, vv_geX, ltX_tI, gtX_tI, gEq_tI, gNe_tI, vv_int, vv_intS, vv_intb, vv_abs, vv_gcd, vv_max2, vv_min2, vv_lenL, vv_lenC, vv_lenT, vv_idxL, vv_idxC, vv_idxT, vv_eqI, vv_eqB, vv_neI, vv_list, vv_listT, vv_tuple, vv_tupleT, vv_sum, vv_slL, vv_slS, vv_slT, vv_range, vv_index, vv_count, isL_l, isL_c, lenL_l, lenL_c, kindL, vv_maxL, vv_minL, vv_strI, vv_app, vv_minA, vv_maxA, strs_map, kindS, zk_l, zk_c, zk_t, zk_s, vv_isNN, vv_isIN, vv_isSN, vv_isBN, vv_isLN, vv_isTN, vv_isBB, vv_isNB, vv_isIB, vv_isSB, vv_isLB, vv_isTB, vv_inNN, vv_inIN, vv_inSN, vv_inBN, vv_inLN, vv_inTN, vv_inBB, atF0, atF1, atF2, atF3, atF4, atF5, okI, okB, okS, okN, okL, ix0, ix1, ix2, frzL_int, fzL_int, intsD_map, isiI_int, isiI_str, isiI_bool, isiI_list, isiI_tuple, isiS_int, isiS_str, isiS_bool, isiS_list, isiS_tuple, isiB_int, isiB_str, isiB_bool, isiB_list, isiB_tuple, isiL_int, isiL_str, isiL_bool, isiL_list, isiL_tuple, isiT_int, isiT_str, isiT_bool, isiT_list, isiT_tuple, isiN_int, isiN_str, isiN_bool, isiN_list, isiN_tuple, gIn_iF, gIn_iT, gEq_ii, gNe_ii, gEq_in, gNe_in, gEq_pp, gNe_pp, gEq_pn, gNe_pn, dec_self, mkS_len, mkS_app, gEq_mkS, okRt, mQ, qD_frz, qD_fz, okQ, inX_w, nS_f, nS_t, hAN, hON, hOA, decide_false, decide_true, not_is, and_is, or_is, okNo, okBo, okBa, vv_augI, emp_app])
theorem d1_is : Str.ofString "a" = mkF (cs [97]) := by decide +kernel
theorem d2_is : Str.ofString "e" = mkF (cs [101]) := by decide +kernel
theorem d3_is : Str.ofString "o" = mkF (cs [111]) := by decide +kernel
theorem d4_is : Str.ofString "n" = mkF (cs [110]) := by decide +kernel
theorem d5_is : Str.ofString "t" = mkF (cs [116]) := by decide +kernel
theorem lap_ok {ds : List Int} {n : Int} (hds : ds ≠ []) (hn : 0 ≤ n) (x0 x3 x4 x5 x6 x7 x8 x9 x10 x11 x12 x13 x14 x15 x16 x17 x18 : D) (lap : Int) (hlap : lap = 0 ∨ lap = 1) :
    W (b_law_8 [x0, bx ds n, .int lap, x3, x4, x5, x6, x7, x8, x9, x10, x11, x12, x13, x14, x15, x16, x17, x18]) fun o => ∃ (n' : Int) (y3 y4 y5 y6 y7 y8 y9 y10 y11 y12 y13 y14 y15 y16 y17 y18 : D), o = .nx [x0, bx ds n', .int lap, y3, y4, y5, y6, y7, y8, y9, y10, y11, y12, y13, y14, y15, y16, y17, y18] ∧ n ≤ n' := by
  unfold b_law_8
  walk_at "nx"
  refine W_mono (Q := fun o => ∃ (ws : List (List Sg)) (n1 : Int), o = .nx [x0, bx ds n1, .int lap, .lst true (ws.map sD), x4, x5, x6, x7, x8, x9, x10, x11, x12, x13, x14, x15, x16, x17, x18] ∧ n ≤ n1 ∧ ws.length = 6 ∧ ∀ w ∈ ws, w.length ≤ 9) ?_ ?_
  · rw [d1_is, d2_is, d3_is, d4_is, d5_is]
    walk_at "eq"
    refine W_mono (words_ok hds hn) ?_
    rintro r ⟨ws, n1, rfl, h1, h2, h3⟩
    walk_at "eq"
    exact ⟨ws, n1, rfl, h1, h2, h3⟩
  rintro _ ⟨ws, n1, rfl, hn1, hw0, hw⟩
  walk_at "nx"
  refine W_mono (Q := fun o => ∃ (ws : List (List Sg)) (n1 : Int) (y4 : D), o = .nx [x0, bx ds n1, .int lap, .lst true (ws.map sD), y4, x5, x6, x7, x8, x9, x10, x11, x12, x13, x14, x15, x16, x17, x18] ∧ n ≤ n1 ∧ ws.length = 6 ∧ ∀ w ∈ ws, w.length ≤ 9) ?_ ?_
  · obtain ⟨g, e, g0, g1⟩ := draw_ex (ds := ds) (n := n1) (m := 2) hds (by omega) (by omega)
    walk_at "eq"
    rw [W_eq e]
    walk_at "eq"
    split
    · refine W_listK (ds := [nN, nA, nO].map sD) (fun k ρ => ∃ (ws : List (List Sg)) (n1 : Int) (y4 : D), ρ = [x0, bx ds n1, .int lap, .lst true (ws.map sD), y4, x5, x6, x7, x8, x9, x10, x11, x12, x13, x14, x15, x16, x17, x18] ∧ n ≤ n1 ∧ ws.length = 6 ∧ ∀ w ∈ ws, w.length ≤ 9) ⟨ws, _, _, rfl, by omega, hw0, hw⟩ ?_ ?_ ?_
      · rintro k ρ hk ⟨ws, n1, y4, rfl, hn1, hw0, hw⟩
        exact itK_tm (o := true) (xs := [nN, nA, nO].map sD) (frzL_sD _) k
      · rintro j d ρ hd ⟨ws, n1, y4, rfl, hn1, hw0, hw⟩
        rw [List.getElem?_map] at hd
        obtain ⟨r, hr, rfl⟩ := Option.map_eq_some_iff.mp hd
        have hrm := List.mem_of_getElem? hr
        have hr9 : r.length ≤ 9 := by
          simp only [List.mem_cons, List.not_mem_nil, or_false] at hrm
          rcases hrm with rfl | rfl | rfl <;> decide
        obtain ⟨v, e, v0, v1⟩ := draw_ex (ds := ds) (n := n1) (m := 6) hds (by omega) (by omega)
        walk_at "eq"
        unfold b_law_1
        walk_at "eq"
        split
        · exact ⟨ws, n1, _, rfl, hn1, hw0, hw⟩
        · rw [W_eq e]
          walk_at "eq"
          have ei : L2.ixN ws.length v = some v.toNat := by
            unfold L2.ixN
            rw [if_pos (by omega), if_pos (by omega)]
          rw [ei]
          walk_at "eq"
          rw [← List.map_set]
          refine ⟨ws.set v.toNat r, _, _, rfl, by omega, by rw [List.length_set]; exact hw0, fun w h => ?_⟩
          rcases List.mem_or_eq_of_mem_set h with h | rfl
          · exact hw w h
          · exact hr9
      · rintro ρ ⟨ws, n1, y4, rfl, hn1, hw0, hw⟩
        exact ⟨ws, n1, y4, rfl, hn1, hw0, hw⟩
    · exact ⟨ws, _, _, rfl, by omega, hw0, hw⟩
  rintro _ ⟨ws, n1, y4, rfl, hn1, hw0, hw⟩
  refine W_mono (lapb_ok hds (by omega) x0 y4 x5 x6 x7 x8 x9 x10 x11 x12 x13 x14 x15 x16 x17 x18 lap hlap ws hw0 hw) ?_
  rintro _ ⟨n2, y3, y4, y5, y6, y7, y8, y9, y10, y11, y12, y13, y14, y15, y16, y17, y18, rfl, hn2⟩
  exact ⟨n2, _, _, _, _, _, _, _, _, _, _, _, _, _, _, _, _, rfl, by omega⟩

def wa : List Sg := cs [97]
def wb : List Sg := cs [98]
def wc : List Sg := cs [99]
theorem da_is : Str.ofString "a" = mkF wa := by decide +kernel
theorem db_is : Str.ofString "b" = mkF wb := by decide +kernel
theorem dc_is : Str.ofString "c" = mkF wc := by decide +kernel
def q1 : Qn := .no (.bi false (.w wa) (.w wc))
def q2 : Qn := .no (.bi true (.w wa) (.no (.no (.bi false (.w wb) (.no (.w wc))))))
def q2' : Qn := .bi false (.no (.w wa)) (.bi true (.no (.w wb)) (.w wc))
def q3 : Qn := .bi true (.no (.w wa)) (.no (.bi false (.w wb) (.w nN)))
def q4 : Qn := .bi true (.w wb) (.w wa)
def st0 : List (List (List Sg)) := [[wa, wb], [wb], []]
theorem f1 : found st0 q1 = [1, 2] := by decide +kernel
theorem f2 : trn true q2 = q2' := rfl
theorem t3_is : Str.ofString "(not a and not (b or not))" = mkF (txt q3) := by decide +kernel
theorem f4 : found st0 (.w wa) = found st0 q4 := by decide +kernel
theorem law_true : ∀ ns : List Int, ns.length ≤ 63 → ∃ bs, F_law [.cst (ns.map D.int)] = some (.bl true, bs) := by
  intro ns hn
  obtain ⟨ds, hds, hd2, hd⟩ := digits_ex (ns := ns) (a := 0) (b := 16) hn (by omega) (by omega) (by omega)
  have key : W (F_law [.cst (ns.map D.int)]) fun r => r.1 = .bl true := by
    unfold F_law
    rw [W_fnD rfl]
    unfold d_law
    show W (bCons _ _ [.cst (ns.map D.int), .any, .any, .any, .any, .any, .any, .any, .any, .any, .any, .any, .any, .any, .any, .any, .any, .any, .any]) _
    rw [W_bCons]
    refine W_mono (Q := fun o => o = .nx [.cst (ns.map D.int), bx ds 0, .any, .any, .any, .any, .any, .any, .any, .any, .any, .any, .any, .any, .any, .any, .any, .any, .any]) (by walk_at "ev"; rw [W_eq hd]; walk_at "ev") ?_
    rintro o rfl
    walk_at "nx"
    refine W_mono (Q := fun o => ∃ (n' : Int) (ys : List D), o = .nx (.cst (ns.map D.int) :: bx ds n' :: ys) ∧ ys.length = 17) ?_ ?_
    · walk_at "ev"
      rw [W_ok (by decide)]
      refine W_range (lo := 0) (fun k ρ => ∃ (n' : Int) (ys : List D), ρ = .cst (ns.map D.int) :: bx ds n' :: ys ∧ ys.length = 17 ∧ 0 ≤ n') ⟨0, _, rfl, rfl, by omega⟩ ?_ ?_
      · rintro k ρ hk ⟨n', ys, rfl, hy, hn'⟩
        have hk : k < 2 := hk
        match ys, hy with
        | [x2, x3, x4, x5, x6, x7, x8, x9, x10, x11, x12, x13, x14, x15, x16, x17, x18], _ =>
          walk_at "ev"
          refine W_mono (lap_ok hds hn' _ x3 x4 x5 x6 x7 x8 x9 x10 x11 x12 x13 x14 x15 x16 x17 x18 (0 + (k : Int)) (by omega)) ?_
          rintro o ⟨n2, y3, y4, y5, y6, y7, y8, y9, y10, y11, y12, y13, y14, y15, y16, y17, y18, rfl, hn2⟩
          exact ⟨n2, _, rfl, rfl, by omega⟩
      · rintro ρ ⟨n', ys, rfl, hy, hn'⟩
        exact ⟨n', ys, rfl, hy⟩
    rintro o ⟨n1, ys, rfl, hy⟩
    match ys, hy with
    | [x2, x3, x4, x5, x6, x7, x8, x9, x10, x11, x12, x13, x14, x15, x16, x17, x18], _ =>
      rw [not_is, and_is, or_is, da_is, db_is, dc_is, t3_is]
      walk_at "nx"
      refine W_mono (Q := fun o => o = .nx [.cst (ns.map D.int), bx ds n1, x2, x3, x4, x5, .lst true (st0.map wD), x7, x8, x9, x10, x11, x12, x13, x14, x15, x16, x17, x18]) (by walk_at "ev"; rfl) ?_
      rintro o rfl
      have hb1 : F_found_by [.lst true (st0.map wD), .tup [sD nN, .tup [sD nO, sD wa, sD wc]]] = some (.lst true [.int 1, .int 2], [.lst true (st0.map wD), .tup [sD nN, .tup [sD nO, sD wa, sD wc]]]) := by
        have h := found_ok (o := true) st0 q1 (by decide) (by decide)
        rw [f1] at h
        exact h
      have hb0 : F_found_by [.lst false [], sD wa] = some (.lst true [], [.lst false [], sD wa]) := found_ok (o := false) [] (.w wa) (by decide) (by decide)
      have ht2 : F_turned_in [.tup [sD nN, .tup [sD nA, sD wa, .tup [sD nN, .tup [sD nN, .tup [sD nO, sD wb, .tup [sD nN, sD wc]]]]]]] = some (.tup [sD nO, .tup [sD nN, sD wa], .tup [sD nA, .tup [sD nN, sD wb], sD wc]], [.tup [sD nN, .tup [sD nA, sD wa, .tup [sD nN, .tup [sD nN, .tup [sD nO, sD wb, .tup [sD nN, sD wc]]]]]]]) := turned_ok q2 (by decide)
      have hk2 : ok q2' := by refine ⟨?_, ?_, ?_⟩ <;> (show List.length _ ≤ 30; decide)
      have hk3 : ok q3 := by refine ⟨?_, ?_, ?_⟩ <;> (show List.length _ ≤ 30; decide)
      have hm2 : Sm 8 (.tup [sD nO, .tup [sD nN, sD wa], .tup [sD nA, .tup [sD nN, sD wb], sD wc]]) (.tup [sD nO, .tup [sD nN, sD wa], .tup [sD nA, .tup [sD nN, sD wb], sD wc]]) := sm_qD q2' 8 (by decide) hk2
      have hx3 : F_text_of [.tup [sD nA, .tup [sD nN, sD wa], .tup [sD nN, .tup [sD nO, sD wb, sD nN]]]] = some (sD (txt q3), [.tup [sD nA, .tup [sD nN, sD wa], .tup [sD nN, .tup [sD nO, sD wb, sD nN]]]]) := text_ok q3 (by decide) hk3
      have hs4 : F_same_answers [.lst true (st0.map wD), sD wa, .tup [sD nA, sD wb, sD wa]] = some (.bl true, [.lst true (st0.map wD), sD wa, .tup [sD nA, sD wb, sD wa]]) := by
        have h := same_ans_ok (o := true) st0 (.w wa) q4 (by decide) (by decide) (by decide)
        rw [decide_eq_true f4] at h
        exact h
      have s12 : Sm 8 (.lst false [.int 1, .int 2]) (.lst false [.int 1, .int 2]) := sm_ints (n := 6) (l := [1, 2]) (by decide) (by decide)
      have s0 : Sm 8 (.lst false []) (.lst false []) := sm_ints (n := 6) (l := []) (by decide) (by decide)
      have z0 : D.frzL (st0.map wD) = true := st_frz st0
      generalize st0.map wD = s9 at *
      walk_at "nx"
      refine W_mono (Q := fun o => o = .nx [.cst (ns.map D.int), bx ds n1, x2, x3, x4, x5, .lst true s9, x7, x8, x9, x10, x11, x12, x13, x14, x15, x16, x17, x18]) ?_ ?_
      · walk_at "eq"
        rw [W_eq hb1]
        walk_at "eq"
        rw [W_eq (same_ex _ _ s12)]
        walk_at "eq"
        rw [W_eq hb0]
        walk_at "eq"
        rw [W_eq (same_ex _ _ s0)]
        walk_at "eq"
      rintro o rfl
      walk_at "nx"
      refine W_mono (Q := fun o => o = .nx [.cst (ns.map D.int), bx ds n1, x2, x3, x4, x5, .lst true s9, x7, x8, x9, x10, x11, x12, x13, x14, x15, x16, x17, x18]) ?_ ?_
      · walk_at "eq"
        rw [W_eq ht2]
        walk_at "eq"
        rw [W_eq (same_ex _ _ hm2)]
        walk_at "eq"
      rintro o rfl
      walk_at "eq"
      rw [W_eq hx3]
      walk_at "eq"
      rw [W_eq (same_ex _ _ (sm_txt 7 q3 (by decide) hk3))]
      walk_at "eq"
      rw [W_eq hs4]
      walk_at "eq"
  obtain ⟨r, e, hr⟩ := key
  obtain ⟨d, bs⟩ := r
  obtain rfl : d = _ := hr
  exact ⟨bs, e⟩
end Lk60
end
section
set_option Elab.async false
set_option linter.all false
set_option maxRecDepth 100000
set_option maxHeartbeats 4000000
open PySem PySem.W PyProof.Rows
set_option maxHeartbeats 0 in
theorem PySem.Challenge.cw_museumlands_k60_whole_questions_holds : PySem.Challenge.rw_museumlands_k60_whole_questions.Holds := by
  w_on; o_law; k_head; (case hw => w_witness2)
  k_fill
  refine L2.walk_of (l := PySem.Challenge.rw_museumlands_k60_whole_questions) (n := 63) (k := 15) (x := "script") (CX := fun _ => L2.CX0) (sp := fun w => Mv.spL _) rfl (by decide) rfl ⟨rfl, by decide, by decide⟩ (fun w h Y => PySem.W.kIn_of Y) ?F (fun _ _ a ns hl _ hS => ⟨a, ns, rfl, hS, hl, fun _ => rfl⟩) (fun _ _ _ _ _ h => h)
  case F =>
    intro w mg fa h KX G hmg
    refine' Lk60.all_mk KX G hmg Lk60.law_true ?a0 ?l0 ?c0 ?k0 ?a1 ?l1 ?c1 ?k1 ?a2 ?l2 ?c2 ?k2 ?a3 ?l3 ?c3 ?k3 ?a4 ?l4 ?c4 ?k4 ?a5 ?l5 ?c5 ?k5 ?a6 ?l6 ?c6 ?k6 ?a7 ?l7 ?c7 ?k7 ?a8 ?l8 ?c8 ?k8 ?a9 ?l9 ?c9 ?k9 ?a10 ?l10 ?c10 ?k10 ?a11 ?l11 ?c11 ?k11 ?a12 ?l12 ?c12 ?k12 ?a13 ?l13 ?c13 ?k13 ?a14 ?l14 ?c14 ?k14 ?a15 ?l15 ?c15 ?k15 ?a16 ?l16 ?c16 ?k16 ?a17 ?l17 ?c17 ?k17 ?z_bool ?z_enumerate ?z_int ?z_isinstance ?z_len ?z_list ?z_range ?z_repr ?z_sorted ?z_str ?z_tuple
    (case a0 => k_is); (case l0 => k_is); (case c0 => k_is); (case k0 => k_is); (case a1 => k_is); (case l1 => k_is); (case c1 => k_is); (case k1 => k_is)
    (case a2 => k_is); (case l2 => k_is); (case c2 => k_is); (case k2 => k_is); (case a3 => k_is); (case l3 => k_is); (case c3 => k_is); (case k3 => k_is)
    (case a4 => k_is); (case l4 => k_is); (case c4 => k_is); (case k4 => k_is); (case a5 => k_is); (case l5 => k_is); (case c5 => k_is); (case k5 => k_is)
    (case a6 => k_is); (case l6 => k_is); (case c6 => k_is); (case k6 => k_is); (case a7 => k_is); (case l7 => k_is); (case c7 => k_is); (case k7 => k_is)
    (case a8 => k_is); (case l8 => k_is); (case c8 => k_is); (case k8 => k_is); (case a9 => k_is); (case l9 => k_is); (case c9 => k_is); (case k9 => k_is)
    (case a10 => k_is); (case l10 => k_is); (case c10 => k_is); (case k10 => k_is); (case a11 => k_is); (case l11 => k_is); (case c11 => k_is); (case k11 => k_is)
    (case a12 => k_is); (case l12 => k_is); (case c12 => k_is); (case k12 => k_is); (case a13 => k_is); (case l13 => k_is); (case c13 => k_is); (case k13 => k_is)
    (case a14 => k_is); (case l14 => k_is); (case c14 => k_is); (case k14 => k_is); (case a15 => k_is); (case l15 => k_is); (case c15 => k_is); (case k15 => k_is)
    (case a16 => k_is); (case l16 => k_is); (case c16 => k_is); (case k16 => k_is); (case a17 => k_is); (case l17 => k_is); (case c17 => k_is); (case k17 => k_is)
    (case z_bool => k_is); (case z_enumerate => k_is); (case z_int => k_is); (case z_isinstance => k_is); (case z_len => k_is); (case z_list => k_is); (case z_range => k_is); (case z_repr => k_is)
    (case z_sorted => k_is); (case z_str => k_is); (case z_tuple => k_is)
end
