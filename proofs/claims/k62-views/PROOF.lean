import PyProof.Rows.All
import Wide.All
import OpenK.AllK
import Wide.FinOn
import HandS.ForMost
import HandS.Flow
import HandS.NoneIn
import HandS.TupAny
import HandS.Gcd
import HandS.Wide
import HandS.Style
import HandS.IsInst
import HandS.RaiseMore
import HandS.FStr
import HandS.Text
import HandS.SetFor
import HandS.Sort
import PyProof.StrLawsRepr
import HandS.Deep
import PySem.Challenge.RW_museumlands_k62_whole_views_and_lengths
section
set_option Elab.async false
set_option linter.all false
set_option maxRecDepth 100000
/-! Values as data: what a reader of the program needs, with lists that are owned (may be changed) or frozen. -/
namespace Mv
open PySem PySem.Spec PyProof.Rows L2

inductive D where
  | any | non
  | bl (b : Bool) | int (i : Int) | str (x : Str)
  | lst (o : Bool) (xs : List D)
  | tup (xs : List D)
  | cst (xs : List D)
  | rng (lo hi : Int)
  | ty (n : String)

abbrev Frg := PySem.W.Frag

mutual
def D.frz : D → Bool
  | .lst o _ => !o
  | .tup xs => D.frzL xs
  | .cst _ => true
  | .rng _ _ => true
  | .any => true
  | .non => true
  | .bl _ => true
  | .int _ => true
  | .str _ => true
  | .ty _ => true
def D.frzL : List D → Bool
  | [] => true
  | d :: ds => D.frz d && D.frzL ds
end
mutual
def D.fz : D → D
  | .lst _ xs => .lst false (D.fzL xs)
  | .tup xs => .tup (D.fzL xs)
  | .cst xs => .cst (D.fzL xs)
  | .rng a b => .rng a b
  | .any => .any
  | .non => .non
  | .bl b => .bl b
  | .int i => .int i
  | .str x => .str x
  | .ty n => .ty n
def D.fzL : List D → List D
  | [] => []
  | d :: ds => D.fz d :: D.fzL ds
end
theorem D.fzL_map : ∀ ds : List D, D.fzL ds = ds.map D.fz
  | [] => rfl
  | d :: ds => by rw [D.fzL, D.fzL_map ds]; rfl
theorem D.frzL_all : ∀ ds : List D, D.frzL ds = ds.all D.frz
  | [] => rfl
  | d :: ds => by rw [D.frzL, D.frzL_all ds]; rfl
mutual
theorem D.frz_fz : ∀ d : D, d.fz.frz = true
  | .lst _ xs => rfl
  | .tup xs => by show D.frzL (D.fzL xs) = true; exact D.frz_fzL xs
  | .cst xs => rfl
  | .rng _ _ => rfl
  | .any => rfl
  | .non => rfl
  | .bl _ => rfl
  | .int _ => rfl
  | .str _ => rfl
  | .ty _ => rfl
theorem D.frz_fzL : ∀ ds : List D, D.frzL (D.fzL ds) = true
  | [] => rfl
  | d :: ds => by show (d.fz.frz && D.frzL (D.fzL ds)) = true; rw [D.frz_fz d, D.frz_fzL ds]; rfl
end
/-! ### what a value is, read in a heap -/
mutual
def Fz (K : Frg) (G : Hp) : D → V → Prop
  | .any, _ => True
  | .non, v => v = .non
  | .bl b, v => v = .bl b
  | .int i, v => v = .int i
  | .str x, v => v = .str x
  | .ty n, v => v = .ty n
  | .lst _ ds, v => ∃ a xs, v = .ref a ∧ G a = some (.lst xs) ∧ FzL K G ds xs
  | .tup ds, v => ∃ a xs, v = .ref a ∧ SqT K G a xs ∧ FzL K G ds xs
  | .cst ds, v => ∃ a xs, v = .ref a ∧ SqL K G a xs ∧ FzL K G ds xs
  | .rng lo hi, v => ∃ a, v = .ref a ∧ G a = some (.rng lo hi)
def FzL (K : Frg) (G : Hp) : List D → List V → Prop
  | [], xs => xs = []
  | d :: ds, xs => ∃ x r, xs = x :: r ∧ Fz K G d x ∧ FzL K G ds r
end
mutual
def Ow (K : Frg) (G H : Hp) : D → V → List Addr → Prop
  | .any, _, fp => fp = []
  | .non, v, fp => v = .non ∧ fp = []
  | .bl b, v, fp => v = .bl b ∧ fp = []
  | .int i, v, fp => v = .int i ∧ fp = []
  | .str x, v, fp => v = .str x ∧ fp = []
  | .ty n, v, fp => v = .ty n ∧ fp = []
  | .lst false ds, v, fp => (∃ a xs, v = .ref a ∧ G a = some (.lst xs) ∧ FzL K G ds xs) ∧ fp = []
  | .cst ds, v, fp => (∃ a xs, v = .ref a ∧ SqL K G a xs ∧ FzL K G ds xs) ∧ fp = []
  | .rng lo hi, v, fp => (∃ a, v = .ref a ∧ G a = some (.rng lo hi)) ∧ fp = []
  | .lst true ds, v, fp => ∃ a xs fr, v = .ref a ∧ H a = some (.lst xs) ∧ OwL K G H ds xs fr ∧ fp = a :: fr
  | .tup ds, v, fp => ∃ a xs, v = .ref a ∧ SqT K G a xs ∧ OwL K G H ds xs fp
def OwL (K : Frg) (G H : Hp) : List D → List V → List Addr → Prop
  | [], xs, fp => xs = [] ∧ fp = []
  | d :: ds, xs, fp => ∃ x r f1 f2, xs = x :: r ∧ Ow K G H d x f1 ∧ OwL K G H ds r f2 ∧ fp = f1 ++ f2
end
section
variable {K : Frg} {G G' H H' : Hp}
theorem Same.sqT (e : Same G G') {a xs} (h : SqT K G a xs) : SqT K G' a xs := by
  rcases h with (h | ⟨o, h⟩) | h
  · exact .inl (.inl (e _ _ h))
  · exact .inl (.inr ⟨o, e _ _ h⟩)
  · exact .inr h
mutual
theorem Fz.mono (e : Same G G') : ∀ (d : D) (v : V), Fz K G d v → Fz K G' d v
  | .any, _, _ => trivial
  | .non, _, h => h
  | .bl _, _, h => h
  | .int _, _, h => h
  | .str _, _, h => h
  | .ty _, _, h => h
  | .lst _ ds, _, ⟨a, xs, ev, hs, hl⟩ => ⟨a, xs, ev, e _ _ hs, FzL.mono e ds xs hl⟩
  | .tup ds, _, ⟨a, xs, ev, hs, hl⟩ => ⟨a, xs, ev, Same.sqT e hs, FzL.mono e ds xs hl⟩
  | .cst ds, _, ⟨a, xs, ev, hs, hl⟩ => ⟨a, xs, ev, e.seq hs, FzL.mono e ds xs hl⟩
  | .rng _ _, _, ⟨a, ev, hs⟩ => ⟨a, ev, e _ _ hs⟩
theorem FzL.mono (e : Same G G') : ∀ (ds : List D) (xs : List V), FzL K G ds xs → FzL K G' ds xs
  | [], _, h => h
  | d :: ds, _, ⟨x, r, ex, h1, h2⟩ => ⟨x, r, ex, Fz.mono e d x h1, FzL.mono e ds r h2⟩
end
theorem FzL.length : ∀ {ds : List D} {xs : List V}, FzL K G ds xs → xs.length = ds.length
  | [], _, h => by rw [show _ = [] from h]; rfl
  | d :: ds, _, ⟨x, r, ex, h1, h2⟩ => by subst ex; simp [FzL.length h2]
theorem FzL.get : ∀ {ds : List D} {xs : List V} {i : Nat} {d : D}, FzL K G ds xs → ds[i]? = some d → ∃ x, xs[i]? = some x ∧ Fz K G d x
  | [], _, _, _, _, h => by simp at h
  | d :: ds, _, 0, _, ⟨x, r, ex, h1, h2⟩, h => by simp at h; subst ex h; exact ⟨x, rfl, h1⟩
  | d :: ds, _, i + 1, _, ⟨x, r, ex, h1, h2⟩, h => by
    subst ex
    obtain ⟨y, e1, e2⟩ := FzL.get (i := i) h2 (by simpa using h)
    exact ⟨y, by simpa using e1, e2⟩
theorem OwL.length : ∀ {ds : List D} {xs : List V} {fp : List Addr}, OwL K G H ds xs fp → xs.length = ds.length
  | [], _, _, h => by rw [h.1]; rfl
  | d :: ds, _, _, ⟨x, r, f1, f2, ex, h1, h2, _⟩ => by subst ex; simp [OwL.length h2]
mutual
theorem Ow.view (e : Same G H) : ∀ (d : D) (v : V) (fp : List Addr), Ow K G H d v fp → Fz K H d v
  | .any, _, _, _ => trivial
  | .non, _, _, h => h.1
  | .bl _, _, _, h => h.1
  | .int _, _, _, h => h.1
  | .str _, _, _, h => h.1
  | .ty _, _, _, h => h.1
  | .lst false ds, _, _, ⟨⟨a, xs, ev, hs, hl⟩, _⟩ => ⟨a, xs, ev, e _ _ hs, FzL.mono e ds xs hl⟩
  | .lst true ds, _, _, ⟨a, xs, fr, ev, hs, hl, _⟩ => ⟨a, xs, ev, hs, OwL.view e ds xs fr hl⟩
  | .tup ds, _, fp, ⟨a, xs, ev, hs, hl⟩ => ⟨a, xs, ev, Same.sqT e hs, OwL.view e ds xs fp hl⟩
  | .cst ds, _, _, ⟨⟨a, xs, ev, hs, hl⟩, _⟩ => ⟨a, xs, ev, e.seq hs, FzL.mono e ds xs hl⟩
  | .rng _ _, _, _, ⟨⟨a, ev, hs⟩, _⟩ => ⟨a, ev, e _ _ hs⟩
theorem OwL.view (e : Same G H) : ∀ (ds : List D) (xs : List V) (fp : List Addr), OwL K G H ds xs fp → FzL K H ds xs
  | [], _, _, h => h.1
  | d :: ds, _, _, ⟨x, r, f1, f2, ex, h1, h2, _⟩ => ⟨x, r, ex, Ow.view e d x f1 h1, OwL.view e ds r f2 h2⟩
end
mutual
theorem Ow.frozen : ∀ (d : D) (v : V) (fp : List Addr), d.frz = true → Ow K G H d v fp → Fz K G d v ∧ fp = []
  | .any, _, _, _, h => ⟨trivial, h⟩
  | .non, _, _, _, h => h
  | .bl _, _, _, _, h => h
  | .int _, _, _, _, h => h
  | .str _, _, _, _, h => h
  | .ty _, _, _, _, h => h
  | .lst false ds, _, _, _, h => h
  | .lst true ds, _, _, z, _ => by cases z
  | .tup ds, _, fp, z, ⟨a, xs, ev, hs, hl⟩ => by
    obtain ⟨h1, h2⟩ := OwL.frozen ds xs fp z hl
    exact ⟨⟨a, xs, ev, hs, h1⟩, h2⟩
  | .cst ds, _, _, _, h => h
  | .rng _ _, _, _, _, h => h
theorem OwL.frozen : ∀ (ds : List D) (xs : List V) (fp : List Addr), D.frzL ds = true → OwL K G H ds xs fp → FzL K G ds xs ∧ fp = []
  | [], _, _, _, h => h
  | d :: ds, _, _, z, ⟨x, r, f1, f2, ex, h1, h2, ef⟩ => by
    have z' : (d.frz && D.frzL ds) = true := z
    rw [Bool.and_eq_true] at z'
    obtain ⟨a1, a2⟩ := Ow.frozen d x f1 z'.1 h1
    obtain ⟨b1, b2⟩ := OwL.frozen ds r f2 z'.2 h2
    subst a2 b2 ef
    exact ⟨⟨x, r, ex, a1, b1⟩, rfl⟩
end
mutual
theorem Ow.of_fz : ∀ (d : D) (v : V), d.frz = true → Fz K G d v → Ow K G H d v []
  | .any, _, _, h => rfl
  | .non, _, _, h => ⟨h, rfl⟩
  | .bl _, _, _, h => ⟨h, rfl⟩
  | .int _, _, _, h => ⟨h, rfl⟩
  | .str _, _, _, h => ⟨h, rfl⟩
  | .ty _, _, _, h => ⟨h, rfl⟩
  | .lst false ds, _, _, h => ⟨h, rfl⟩
  | .lst true ds, _, z, _ => by cases z
  | .tup ds, _, z, ⟨a, xs, ev, hs, hl⟩ => ⟨a, xs, ev, hs, OwL.of_fz ds xs z hl⟩
  | .cst ds, _, _, h => ⟨h, rfl⟩
  | .rng _ _, _, _, h => ⟨h, rfl⟩
theorem OwL.of_fz : ∀ (ds : List D) (xs : List V), D.frzL ds = true → FzL K G ds xs → OwL K G H ds xs []
  | [], _, _, h => ⟨h, rfl⟩
  | d :: ds, _, z, ⟨x, r, ex, h1, h2⟩ => by
    have z' : (d.frz && D.frzL ds) = true := z
    rw [Bool.and_eq_true] at z'
    exact ⟨x, r, [], [], ex, Ow.of_fz d x z'.1 h1, OwL.of_fz ds r z'.2 h2, rfl⟩
end
mutual
theorem Ow.mono (e : Same G G') : ∀ (d : D) (v : V) (fp : List Addr), (∀ a ∈ fp, H' a = H a) → Ow K G H d v fp → Ow K G' H' d v fp
  | .any, _, _, _, h => h
  | .non, _, _, _, h => h
  | .bl _, _, _, _, h => h
  | .int _, _, _, _, h => h
  | .str _, _, _, _, h => h
  | .ty _, _, _, _, h => h
  | .lst false ds, _, _, _, ⟨⟨a, xs, ev, hs, hl⟩, ef⟩ => ⟨⟨a, xs, ev, e _ _ hs, FzL.mono e ds xs hl⟩, ef⟩
  | .cst ds, _, _, _, ⟨⟨a, xs, ev, hs, hl⟩, ef⟩ => ⟨⟨a, xs, ev, e.seq hs, FzL.mono e ds xs hl⟩, ef⟩
  | .rng _ _, _, _, _, ⟨⟨a, ev, hs⟩, ef⟩ => ⟨⟨a, ev, e _ _ hs⟩, ef⟩
  | .lst true ds, _, _, k, ⟨a, xs, fr, ev, hs, hl, ef⟩ => by
    subst ef
    exact ⟨a, xs, fr, ev, by rw [k a (by simp)]; exact hs, OwL.mono e ds xs fr (fun b hb => k b (by simp [hb])) hl, rfl⟩
  | .tup ds, _, fp, k, ⟨a, xs, ev, hs, hl⟩ => ⟨a, xs, ev, Same.sqT e hs, OwL.mono e ds xs fp k hl⟩
theorem OwL.mono (e : Same G G') : ∀ (ds : List D) (xs : List V) (fp : List Addr), (∀ a ∈ fp, H' a = H a) → OwL K G H ds xs fp → OwL K G' H' ds xs fp
  | [], _, _, _, h => h
  | d :: ds, _, _, k, ⟨x, r, f1, f2, ex, h1, h2, ef⟩ => by
    subst ef
    exact ⟨x, r, f1, f2, ex, Ow.mono e d x f1 (fun b hb => k b (by simp [hb])) h1, OwL.mono e ds r f2 (fun b hb => k b (by simp [hb])) h2, rfl⟩
end
mutual
theorem Ow.there : ∀ (d : D) (v : V) (fp : List Addr), Ow K G H d v fp → ∀ a ∈ fp, ∃ xs, H a = some (.lst xs)
  | .any, _, _, h, a, ha => by rw [show _ = [] from h] at ha; cases ha
  | .non, _, _, h, a, ha => by rw [h.2] at ha; cases ha
  | .bl _, _, _, h, a, ha => by rw [h.2] at ha; cases ha
  | .int _, _, _, h, a, ha => by rw [h.2] at ha; cases ha
  | .str _, _, _, h, a, ha => by rw [h.2] at ha; cases ha
  | .ty _, _, _, h, a, ha => by rw [h.2] at ha; cases ha
  | .lst false ds, _, _, h, a, ha => by rw [h.2] at ha; cases ha
  | .lst true ds, _, _, ⟨b, xs, fr, ev, hs, hl, ef⟩, a, ha => by
    subst ef
    rcases List.mem_cons.mp ha with rfl | ha
    · exact ⟨xs, hs⟩
    · exact OwL.there ds xs fr hl a ha
  | .tup ds, _, fp, ⟨b, xs, ev, hs, hl⟩, a, ha => OwL.there ds xs fp hl a ha
  | .cst ds, _, _, h, a, ha => by rw [h.2] at ha; cases ha
  | .rng _ _, _, _, h, a, ha => by rw [h.2] at ha; cases ha
theorem OwL.there : ∀ (ds : List D) (xs : List V) (fp : List Addr), OwL K G H ds xs fp → ∀ a ∈ fp, ∃ xs, H a = some (.lst xs)
  | [], _, _, h, a, ha => by rw [h.2] at ha; cases ha
  | d :: ds, _, _, ⟨x, r, f1, f2, ex, h1, h2, ef⟩, a, ha => by
    subst ef
    rcases List.mem_append.mp ha with ha | ha
    · exact Ow.there d x f1 h1 a ha
    · exact OwL.there ds r f2 h2 a ha
end
/-- frozen: all its owned lists go into the frozen heap -/
def addL (G H : Hp) (fp : List Addr) : Hp := fun a => if a ∈ fp then H a else G a
theorem addL_same {fp : List Addr} (hn : ∀ a ∈ fp, G a = none) : Same G (addL G H fp) := fun a o h => by
  unfold addL
  by_cases ha : a ∈ fp
  · rw [hn a ha] at h; cases h
  · rw [if_neg ha]; exact h
theorem addL_le {fp : List Addr} (e : Same G H) : Same (addL G H fp) H := fun a o h => by
  unfold addL at h
  by_cases ha : a ∈ fp
  · rw [if_pos ha] at h; exact h
  · rw [if_neg ha] at h; exact e a o h
mutual
theorem Fz.fzd (e : Same G G') : ∀ (d : D) (v : V), Fz K G d v → Fz K G' d.fz v
  | .any, _, _ => trivial
  | .non, _, h => h
  | .bl _, _, h => h
  | .int _, _, h => h
  | .str _, _, h => h
  | .ty _, _, h => h
  | .lst _ ds, _, ⟨a, xs, ev, hs, hl⟩ => ⟨a, xs, ev, e _ _ hs, FzL.fzd e ds xs hl⟩
  | .tup ds, _, ⟨a, xs, ev, hs, hl⟩ => ⟨a, xs, ev, Same.sqT e hs, FzL.fzd e ds xs hl⟩
  | .cst ds, _, ⟨a, xs, ev, hs, hl⟩ => ⟨a, xs, ev, e.seq hs, FzL.fzd e ds xs hl⟩
  | .rng _ _, _, ⟨a, ev, hs⟩ => ⟨a, ev, e _ _ hs⟩
theorem FzL.fzd (e : Same G G') : ∀ (ds : List D) (xs : List V), FzL K G ds xs → FzL K G' (D.fzL ds) xs
  | [], _, h => h
  | d :: ds, _, ⟨x, r, ex, h1, h2⟩ => ⟨x, r, ex, Fz.fzd e d x h1, FzL.fzd e ds r h2⟩
end
mutual
theorem Ow.freeze : ∀ (d : D) (v : V) (fp : List Addr), Ow K G H d v fp → ∀ J : Hp, Same G J → (∀ a ∈ fp, J a = H a) → Fz K J d.fz v
  | .any, _, _, h, _, _, _ => trivial
  | .non, _, _, h, _, _, _ => h.1
  | .bl _, _, _, h, _, _, _ => h.1
  | .int _, _, _, h, _, _, _ => h.1
  | .str _, _, _, h, _, _, _ => h.1
  | .ty _, _, _, h, _, _, _ => h.1
  | .lst false ds, _, _, ⟨⟨a, xs, ev, hs, hl⟩, ef⟩, J, e, k => ⟨a, xs, ev, e _ _ hs, FzL.fzd e ds xs hl⟩
  | .rng _ _, _, _, ⟨⟨a, ev, hs⟩, ef⟩, J, e, k => ⟨a, ev, e _ _ hs⟩
  | .cst ds, _, _, ⟨⟨a, xs, ev, hs, hl⟩, _⟩, J, e, k => ⟨a, xs, ev, e.seq hs, FzL.fzd e ds xs hl⟩
  | .lst true ds, _, _, ⟨a, xs, fr, ev, hs, hl, ef⟩, J, e, k => by
    subst ef
    exact ⟨a, xs, ev, (by rw [k a (by simp)]; exact hs), OwL.freeze ds xs fr hl J e fun b hb => k b (by simp [hb])⟩
  | .tup ds, _, fp, ⟨a, xs, ev, hs, hl⟩, J, e, k => ⟨a, xs, ev, Same.sqT e hs, OwL.freeze ds xs fp hl J e k⟩
theorem OwL.freeze : ∀ (ds : List D) (xs : List V) (fp : List Addr), OwL K G H ds xs fp → ∀ J : Hp, Same G J → (∀ a ∈ fp, J a = H a) → FzL K J (D.fzL ds) xs
  | [], _, _, h, _, _, _ => h.1
  | d :: ds, _, _, ⟨x, r, f1, f2, ex, h1, h2, ef⟩, J, e, k => by
    subst ef
    exact ⟨x, r, ex, Ow.freeze d x f1 h1 J e fun b hb => k b (by simp [hb]), OwL.freeze ds r f2 h2 J e fun b hb => k b (by simp [hb])⟩
end
end

/-! ### what is held: slots, values on the way, what callers hold -/
abbrev Itm := Option V × D
def OwO (K : Frg) (G H : Hp) (o : Option V) (d : D) (fp : List Addr) : Prop :=
  match o with
  | none => d = .any ∧ fp = []
  | some v => Ow K G H d v fp
def OwI (K : Frg) (G H : Hp) : List Itm → List Addr → Prop
  | [], fp => fp = []
  | i :: l, fp => ∃ f1 f2, OwO K G H i.1 i.2 f1 ∧ OwI K G H l f2 ∧ fp = f1 ++ f2
def Items (K : Frg) (E : List Addr) (H : Hp) (l : List Itm) : Prop :=
  ∃ G fp, Same G H ∧ OwI K G H l fp ∧ (E ++ fp).Nodup ∧ ∀ a ∈ E ++ fp, G a = none
section
variable {K : Frg} {G G' H H' : Hp} {E : List Addr} {l l' : List Itm} {o : Option V} {d : D} {v : V}
theorem OwO.mono (e : Same G G') {fp} (k : ∀ a ∈ fp, H' a = H a) (h : OwO K G H o d fp) : OwO K G' H' o d fp := by
  cases o with
  | none => exact h
  | some v => exact Ow.mono e d v fp k h
theorem OwI.mono (e : Same G G') : ∀ {l : List Itm} {fp}, (∀ a ∈ fp, H' a = H a) → OwI K G H l fp → OwI K G' H' l fp
  | [], _, _, h => h
  | i :: l, _, k, ⟨f1, f2, h1, h2, ef⟩ => by
    subst ef
    exact ⟨f1, f2, h1.mono e fun b hb => k b (by simp [hb]), OwI.mono e (fun b hb => k b (by simp [hb])) h2, rfl⟩
theorem OwI.there : ∀ {l : List Itm} {fp}, OwI K G H l fp → ∀ a ∈ fp, ∃ xs, H a = some (.lst xs)
  | [], _, h, a, ha => by rw [show _ = [] from h] at ha; cases ha
  | i :: l, _, ⟨f1, f2, h1, h2, ef⟩, a, ha => by
    subst ef
    rcases List.mem_append.mp ha with ha | ha
    · obtain ⟨o, d⟩ := i
      cases o with
      | none => rw [(show _ ∧ f1 = [] from h1).2] at ha; cases ha
      | some v => exact Ow.there d v f1 h1 a ha
    · exact OwI.there h2 a ha
theorem OwI.app : ∀ {l l' : List Itm} {fp}, OwI K G H (l ++ l') fp ↔ ∃ f1 f2, OwI K G H l f1 ∧ OwI K G H l' f2 ∧ fp = f1 ++ f2
  | [], l', fp => ⟨fun h => ⟨[], fp, rfl, h, rfl⟩, fun ⟨f1, f2, h1, h2, ef⟩ => by rw [show f1 = [] from h1] at ef; subst ef; exact h2⟩
  | i :: l, l', fp => by
    constructor
    · rintro ⟨f1, f2, h1, h2, ef⟩
      obtain ⟨g1, g2, k1, k2, eg⟩ := OwI.app.mp h2
      exact ⟨f1 ++ g1, g2, ⟨f1, g1, h1, k1, rfl⟩, k2, by subst ef eg; simp⟩
    · rintro ⟨f1, f2, ⟨g1, g2, k1, k2, eg⟩, h2, ef⟩
      exact ⟨g1, g2 ++ f2, k1, OwI.app.mpr ⟨g2, f2, k2, h2, rfl⟩, by subst ef eg; simp⟩
theorem OwI.perm (p : l.Perm l') : ∀ {fp}, OwI K G H l fp → ∃ fp', OwI K G H l' fp' ∧ fp.Perm fp' := by
  induction p with
  | nil => exact fun h => ⟨_, h, .refl _⟩
  | cons x _ ih =>
    rintro fp ⟨f1, f2, h1, h2, ef⟩
    obtain ⟨g, k, pg⟩ := ih h2
    subst ef
    exact ⟨f1 ++ g, ⟨f1, g, h1, k, rfl⟩, List.Perm.append_left f1 pg⟩
  | swap x y r =>
    rintro fp ⟨f1, f2, h1, ⟨g1, g2, k1, k2, eg⟩, ef⟩
    subst ef eg
    refine ⟨g1 ++ (f1 ++ g2), ⟨g1, _, k1, ⟨f1, g2, h1, k2, rfl⟩, rfl⟩, ?_⟩
    rw [← List.append_assoc, ← List.append_assoc]
    exact List.Perm.append_right g2 List.perm_append_comm
  | trans _ _ ih1 ih2 =>
    intro fp h
    obtain ⟨f1, h1, p1⟩ := ih1 h
    obtain ⟨f2, h2, p2⟩ := ih2 h1
    exact ⟨f2, h2, p1.trans p2⟩
theorem Items.perm (h : Items K E H l) (p : l.Perm l') : Items K E H l' := by
  obtain ⟨G, fp, e, ho, nd, hn⟩ := h
  obtain ⟨fp', h', pf⟩ := ho.perm p
  have pe : (E ++ fp).Perm (E ++ fp') := List.Perm.append_left E pf
  exact ⟨G, fp', e, h', pe.nodup_iff.mp nd, fun a ha => hn a (pe.mem_iff.mpr ha)⟩
theorem Items.drop (h : Items K E H (l ++ l')) : Items K E H l' := by
  obtain ⟨G, fp, e, ho, nd, hn⟩ := h
  obtain ⟨f1, f2, h1, h2, ef⟩ := OwI.app.mp ho
  subst ef
  refine ⟨G, f2, e, h2, ?_, fun a ha => hn a ?_⟩
  · refine List.Nodup.sublist ?_ nd
    exact List.Sublist.append_left (List.sublist_append_right f1 f2) E
  · rcases List.mem_append.mp ha with ha | ha <;> simp [ha]
theorem Items.tail {i : Itm} (h : Items K E H (i :: l)) : Items K E H l := Items.drop (l := [i]) h
theorem Items.nil (H : Hp) : Items K [] H [] := ⟨H, [], Same.refl H, rfl, .nil, fun a ha => by cases ha⟩
theorem Items.add (h : Items K E H l) (z : d.frz = true) (hf : ∀ G, Same G H → Fz K G d v) : Items K E H ((some v, d) :: l) := by
  obtain ⟨G, fp, e, ho, nd, hn⟩ := h
  exact ⟨G, fp, e, ⟨[], fp, Ow.of_fz d v z (hf G e), ho, rfl⟩, nd, hn⟩
theorem OwI.mem : ∀ {l : List Itm} {fp}, OwI K G H l fp → ∀ {i : Itm}, i ∈ l → ∃ f, OwO K G H i.1 i.2 f ∧ ∀ a ∈ f, a ∈ fp
  | [], _, _, _, hi => by cases hi
  | j :: l, _, ⟨f1, f2, h1, h2, ef⟩, i, hi => by
    subst ef
    rcases List.mem_cons.mp hi with rfl | hi
    · exact ⟨f1, h1, fun a ha => by simp [ha]⟩
    · obtain ⟨f, hf, k⟩ := OwI.mem h2 hi
      exact ⟨f, hf, fun a ha => by simp [k a ha]⟩
/-- a frozen thing that is held is held once more -/
theorem Items.dup (h : Items K E H l) (hm : (some v, d) ∈ l) (z : d.frz = true) : Items K E H ((some v, d) :: l) := by
  obtain ⟨G, fp, e, ho, nd, hn⟩ := h
  obtain ⟨f, hf, _⟩ := ho.mem hm
  obtain ⟨hz, ef⟩ := Ow.frozen d v f z hf
  exact ⟨G, fp, e, ⟨[], fp, Ow.of_fz d v z hz, ho, rfl⟩, nd, hn⟩
theorem Items.view (h : Items K E H l) (hm : (some v, d) ∈ l) : Fz K H d v := by
  obtain ⟨G, fp, e, ho, nd, hn⟩ := h
  obtain ⟨f, hf, _⟩ := ho.mem hm
  exact Ow.view e d v f hf
/-- a frozen part of what is held (a list's or a tuple's item) -/
theorem Ow.item {ds : List D} {xs : List V} : ∀ {fp}, OwL K G H ds xs fp → ∀ {i : Nat} {c : D} {x : V}, ds[i]? = some c → xs[i]? = some x → c.frz = true → Fz K G c x := by
  induction ds generalizing xs with
  | nil => intro _ _ i c x h; simp at h
  | cons d ds ih =>
    rintro fp ⟨y, r, f1, f2, ex, h1, h2, ef⟩ i c x hc hx hz
    subst ex
    cases i with
    | zero => simp at hc hx; subst hc hx; exact (Ow.frozen _ _ _ hz h1).1
    | succ i => exact ih h2 (by simpa using hc) (by simpa using hx) hz
theorem FzL.item {ds : List D} {xs : List V} : FzL K G ds xs → ∀ {i : Nat} {c : D} {x : V}, ds[i]? = some c → xs[i]? = some x → Fz K G c x := by
  intro h i c x hc hx
  obtain ⟨y, e, f⟩ := h.get hc
  rw [e] at hx; cases hx
  exact f
theorem Items.list (h : Items K E H l) {b : Bool} {ds : List D} (hm : (some v, .lst b ds) ∈ l) :
    ∃ a xs, v = .ref a ∧ H a = some (.lst xs) ∧ xs.length = ds.length ∧ FzL K H ds xs ∧ (∀ i : Nat, ∀ c x, ds[i]? = some c → xs[i]? = some x → c.frz = true → Items K E H ((some x, c) :: l)) := by
  obtain ⟨G, fp, e, ho, nd, hn⟩ := h
  obtain ⟨f, hf, _⟩ := ho.mem hm
  cases b with
  | false =>
    obtain ⟨⟨a, xs, ev, hs, hl⟩, _⟩ := hf
    refine ⟨a, xs, ev, e _ _ hs, hl.length, FzL.mono e _ _ hl, fun i c x hc hx z => ?_⟩
    exact ⟨G, fp, e, ⟨[], fp, Ow.of_fz c x z (hl.item hc hx), ho, rfl⟩, nd, hn⟩
  | true =>
    obtain ⟨a, xs, fr, ev, hs, hl, _⟩ := hf
    refine ⟨a, xs, ev, hs, hl.length, OwL.view e _ _ _ hl, fun i c x hc hx z => ?_⟩
    exact ⟨G, fp, e, ⟨[], fp, Ow.of_fz c x z (Ow.item hl hc hx z), ho, rfl⟩, nd, hn⟩
theorem Items.const (h : Items K E H l) {ds : List D} (hm : (some v, .cst ds) ∈ l) :
    ∃ a xs, v = .ref a ∧ SqL K H a xs ∧ xs.length = ds.length ∧ FzL K H ds xs ∧ (∀ i : Nat, ∀ c x, ds[i]? = some c → xs[i]? = some x → c.frz = true → Items K E H ((some x, c) :: l)) := by
  obtain ⟨G, fp, e, ho, nd, hn⟩ := h
  obtain ⟨f, hf, _⟩ := ho.mem hm
  obtain ⟨⟨a, xs, ev, hs, hl⟩, _⟩ := hf
  refine ⟨a, xs, ev, e.seq hs, hl.length, FzL.mono e _ _ hl, fun i c x hc hx z => ?_⟩
  exact ⟨G, fp, e, ⟨[], fp, Ow.of_fz c x z (hl.item hc hx), ho, rfl⟩, nd, hn⟩
theorem Items.range (h : Items K E H l) {lo hi : Int} (hm : (some v, .rng lo hi) ∈ l) : ∃ a, v = .ref a ∧ H a = some (.rng lo hi) := h.view hm
theorem Items.tuple (h : Items K E H l) {ds : List D} (hm : (some v, .tup ds) ∈ l) :
    ∃ a xs, v = .ref a ∧ SqT K H a xs ∧ xs.length = ds.length ∧ FzL K H ds xs ∧ (∀ i : Nat, ∀ c x, ds[i]? = some c → xs[i]? = some x → c.frz = true → Items K E H ((some x, c) :: l)) := by
  obtain ⟨G, fp, e, ho, nd, hn⟩ := h
  obtain ⟨f, hf, _⟩ := ho.mem hm
  obtain ⟨a, xs, ev, hs, hl⟩ := hf
  refine ⟨a, xs, ev, Same.sqT e hs, hl.length, OwL.view e _ _ _ hl, fun i c x hc hx z => ?_⟩
  exact ⟨G, fp, e, ⟨[], fp, Ow.of_fz c x z (Ow.item hl hc hx z), ho, rfl⟩, nd, hn⟩
def prs (vs : List V) (ds : List D) : List Itm := (vs.map some).zip ds
theorem OwL.items : ∀ {ds : List D} {xs : List V} {fp}, OwL K G H ds xs fp ↔ (xs.length = ds.length ∧ OwI K G H (prs xs ds) fp)
  | [], xs, fp => by
    constructor
    · rintro ⟨rfl, rfl⟩; exact ⟨rfl, rfl⟩
    · rintro ⟨h1, h2⟩
      cases xs with
      | nil => exact ⟨rfl, h2⟩
      | cons _ _ => simp at h1
  | d :: ds, xs, fp => by
    constructor
    · rintro ⟨x, r, f1, f2, rfl, h1, h2, rfl⟩
      obtain ⟨k1, k2⟩ := OwL.items.mp h2
      exact ⟨by simp [k1], ⟨f1, f2, h1, k2, rfl⟩⟩
    · rintro ⟨h1, h2⟩
      cases xs with
      | nil => simp at h1
      | cons x r =>
        obtain ⟨f1, f2, k1, k2, rfl⟩ := h2
        exact ⟨x, r, f1, f2, rfl, k1, OwL.items.mpr ⟨by simpa using h1, k2⟩, rfl⟩
/-- a frozen list's items, all of them -/
theorem OwI.of_fzL : ∀ {ds : List D} {xs : List V}, D.frzL ds = true → FzL K G ds xs → OwI K G H (prs xs ds) []
  | ds, xs, z, h => (OwL.items.mp (OwL.of_fz ds xs z h)).2
/-- an owned list: what it holds apart, its own place kept out -/
theorem Items.open {a : Addr} {ds : List D} (h : Items K E H ((some (.ref a), .lst true ds) :: l)) :
    ∃ xs, H a = some (.lst xs) ∧ xs.length = ds.length ∧ Items K (a :: E) H (prs xs ds ++ l) := by
  obtain ⟨G, fp, e, ⟨f1, f2, ⟨a', xs, fr, ev, hs, hl, ef⟩, h2, ef2⟩, nd, hn⟩ := h
  cases ev
  subst ef ef2
  obtain ⟨k1, k2⟩ := OwL.items.mp hl
  have pe : (E ++ (a :: fr ++ f2)).Perm (a :: E ++ (fr ++ f2)) := by
    have : E ++ (a :: fr ++ f2) = E ++ a :: (fr ++ f2) := rfl
    rw [this]
    exact List.perm_middle
  exact ⟨xs, hs, k1, G, fr ++ f2, e, OwI.app.mpr ⟨fr, f2, k2, h2, rfl⟩, pe.nodup_iff.mp nd, fun b hb => hn b (pe.mem_iff.mpr hb)⟩
theorem Items.close {a : Addr} {xs ys : List V} {ds : List D} (ha : H a = some (.lst ys)) (hx : xs.length = ds.length) (h : Items K (a :: E) H (prs xs ds ++ l)) :
    Items K E (upd H a (.lst xs)) ((some (.ref a), .lst true ds) :: l) := by
  obtain ⟨G, fp, e, ho, nd, hn⟩ := h
  obtain ⟨f1, f2, h1, h2, ef⟩ := OwI.app.mp ho
  subst ef
  have ga : G a = none := hn a (by simp)
  have hnd : a ∉ f1 ++ f2 := fun z => by
    have : (a :: (E ++ (f1 ++ f2))).Nodup := nd
    exact (List.nodup_cons.mp this).1 (by simp at z ⊢; rcases z with z | z <;> simp [z])
  have keep : ∀ b ∈ f1 ++ f2, upd H a (.lst xs) b = H b := fun b hb => upd_ne fun z => hnd (z ▸ hb)
  have pe : (a :: E ++ (f1 ++ f2)).Perm (E ++ (a :: f1 ++ f2)) := by
    have : E ++ (a :: f1 ++ f2) = E ++ a :: (f1 ++ f2) := rfl
    rw [this]
    exact List.perm_middle.symm
  have hl : OwL K G H ds xs f1 := OwL.items.mpr ⟨hx, h1⟩
  refine ⟨G, a :: f1 ++ f2, fun b o hb => ?_, ⟨a :: f1, f2, ⟨a, xs, f1, rfl, upd_same, OwL.mono (Same.refl G) ds xs f1 (fun b hb => keep b (by simp [hb])) hl, rfl⟩, h2.mono (Same.refl G) (fun b hb => keep b (by simp [hb])), rfl⟩,
    pe.nodup_iff.mp nd, fun b hb => hn b (pe.mem_iff.mpr hb)⟩
  rw [upd_ne (ne_of_none hb ga)]
  exact e b o hb
/-- a new list -/
theorem Items.new {a : Addr} {xs : List V} {ds : List D} (ha : H a = none) (hx : xs.length = ds.length) (h : Items K E H (prs xs ds ++ l)) (hE : ∀ b ∈ E, H b ≠ none) :
    Items K E (upd H a (.lst xs)) ((some (.ref a), .lst true ds) :: l) := by
  obtain ⟨G, fp, e, ho, nd, hn⟩ := h
  obtain ⟨f1, f2, h1, h2, ef⟩ := OwI.app.mp ho
  subst ef
  have ga : G a = none := e.free ha
  have hnd : a ∉ f1 ++ f2 := fun z => by
    obtain ⟨ys, q⟩ := ho.there a z
    rw [ha] at q; cases q
  have keep : ∀ b ∈ f1 ++ f2, upd H a (.lst xs) b = H b := fun b hb => upd_ne fun z => hnd (z ▸ hb)
  have haE : a ∉ E := fun z => hE a z ha
  have pe : (a :: E ++ (f1 ++ f2)).Perm (E ++ (a :: f1 ++ f2)) := by
    have : E ++ (a :: f1 ++ f2) = E ++ a :: (f1 ++ f2) := rfl
    rw [this]
    exact List.perm_middle.symm
  have hl : OwL K G H ds xs f1 := OwL.items.mpr ⟨hx, h1⟩
  refine ⟨G, a :: f1 ++ f2, fun b o hb => ?_, ⟨a :: f1, f2, ⟨a, xs, f1, rfl, upd_same, OwL.mono (Same.refl G) ds xs f1 (fun b hb => keep b (by simp [hb])) hl, rfl⟩, h2.mono (Same.refl G) (fun b hb => keep b (by simp [hb])), rfl⟩,
    pe.nodup_iff.mp (List.nodup_cons.mpr ⟨fun z => ?_, nd⟩), fun b hb => ?_⟩
  · rw [upd_ne (ne_of_none hb ga)]
    exact e b o hb
  · rcases List.mem_append.mp z with z | z
    · exact haE z
    · exact hnd z
  · rcases List.mem_cons.mp (pe.mem_iff.mpr hb) with rfl | hb
    · exact ga
    · exact hn b hb
/-- a new tuple -/
theorem Items.newT {a : Addr} {xs : List V} {ds : List D} (ha : H a = none) (hx : xs.length = ds.length) (h : Items K [] H (prs xs ds ++ l)) :
    Items K [] (upd H a (.tup xs)) ((some (.ref a), .tup ds) :: l) := by
  obtain ⟨G, fp, e, ho, nd, hn⟩ := h
  obtain ⟨f1, f2, h1, h2, ef⟩ := OwI.app.mp ho
  subst ef
  have ga : G a = none := e.free ha
  have hnd : a ∉ f1 ++ f2 := fun z => by
    obtain ⟨ys, q⟩ := ho.there a z
    rw [ha] at q; cases q
  have keep : ∀ b ∈ f1 ++ f2, upd H a (.tup xs) b = H b := fun b hb => upd_ne fun z => hnd (z ▸ hb)
  have hl : OwL K G H ds xs f1 := OwL.items.mpr ⟨hx, h1⟩
  have sG : Same G (upd G a (.tup xs)) := fun b o hb => by rw [upd_ne (ne_of_none hb ga)]; exact hb
  refine ⟨upd G a (.tup xs), f1 ++ f2, fun b o hb => ?_, ⟨f1, f2, ⟨a, xs, rfl, SqT.of upd_same, OwL.mono sG ds xs f1 (fun b hb => keep b (by simp [hb])) hl⟩, h2.mono sG (fun b hb => keep b (by simp [hb])), rfl⟩,
    nd, fun b hb => ?_⟩
  · by_cases z : b = a
    · subst z; rw [upd_same] at hb ⊢; exact hb
    · rw [upd_ne z] at hb ⊢; exact e b o hb
  · rw [upd_ne (show b ≠ a from fun z => hnd (z ▸ (by simpa using hb)))]
    exact hn b hb
/-- a new object that nobody needs to know -/
theorem Items.more {a : Addr} {x : HO} (ha : H a = none) (h : Items K [] H l) : Items K [] (upd H a x) l := by
  obtain ⟨G, fp, e, ho, nd, hn⟩ := h
  have ga : G a = none := e.free ha
  have hnd : a ∉ fp := fun z => by
    obtain ⟨ys, q⟩ := ho.there a z
    rw [ha] at q; cases q
  refine ⟨G, fp, fun b o hb => ?_, ho.mono (Same.refl G) (fun b hb => upd_ne fun z => hnd (z ▸ hb)), nd, hn⟩
  rw [upd_ne (ne_of_none hb ga)]
  exact e b o hb
/-- a tuple taken apart -/
theorem Items.openT {ds : List D} (h : Items K E H ((some v, .tup ds) :: l)) :
    ∃ a xs, v = .ref a ∧ SqT K H a xs ∧ xs.length = ds.length ∧ Items K E H (prs xs ds ++ l) := by
  obtain ⟨G, fp, e, ⟨f1, f2, ⟨a, xs, ev, hs, hl⟩, h2, ef2⟩, nd, hn⟩ := h
  subst ef2
  obtain ⟨k1, k2⟩ := OwL.items.mp hl
  exact ⟨a, xs, ev, Same.sqT e hs, k1, G, f1 ++ f2, e, OwI.app.mpr ⟨f1, f2, k2, h2, rfl⟩, nd, hn⟩
theorem Items.freeze (h : Items K E H ((o, d) :: l)) : Items K E H ((o, d.fz) :: l) := by
  obtain ⟨G, fp, e, ⟨f1, f2, h1, h2, ef⟩, nd, hn⟩ := h
  subst ef
  cases o with
  | none =>
    obtain ⟨rfl, rfl⟩ := (show d = .any ∧ f1 = [] from h1)
    exact ⟨G, [] ++ f2, e, ⟨[], f2, ⟨rfl, rfl⟩, h2, rfl⟩, nd, hn⟩
  | some v =>
    have hn1 : ∀ a ∈ f1, G a = none := fun a ha => hn a (by simp [ha])
    have dj : ∀ a ∈ E ++ f2, a ∉ f1 := fun a ha z => by
      rw [List.nodup_append] at nd
      obtain ⟨n1, n2, n3⟩ := nd
      rcases List.mem_append.mp ha with ha | ha
      · exact n3 a ha a (by simp [z]) rfl
      · rw [List.nodup_append] at n2
        exact n2.2.2 a z a ha rfl
    have hz : Fz K (addL G H f1) d.fz v := Ow.freeze d v f1 h1 _ (addL_same hn1) fun a ha => by unfold addL; rw [if_pos ha]
    refine ⟨addL G H f1, f2, addL_le e, ⟨[], f2, Ow.of_fz _ _ (D.frz_fz d) hz, h2.mono (addL_same hn1) (fun _ _ => rfl), rfl⟩, ?_, fun a ha => ?_⟩
    · refine List.Nodup.sublist ?_ nd
      exact List.Sublist.append_left (List.sublist_append_right f1 f2) E
    · unfold addL
      rw [if_neg (dj a ha)]
      exact hn a (by rcases List.mem_append.mp ha with ha | ha <;> simp [ha])
theorem Items.forget (h : Items K E H ((o, d) :: l)) : Items K E H ((o, .any) :: l) := by
  obtain ⟨G, fp, e, ⟨f1, f2, h1, h2, ef⟩, nd, hn⟩ := h
  subst ef
  refine ⟨G, f2, e, ⟨[], f2, ?_, h2, rfl⟩, ?_, fun a ha => hn a ?_⟩
  · cases o with
    | none => exact ⟨rfl, rfl⟩
    | some v => exact rfl
  · refine List.Nodup.sublist ?_ nd
    exact List.Sublist.append_left (List.sublist_append_right f1 f2) E
  · rcases List.mem_append.mp ha with ha | ha <;> simp [ha]
theorem Items.blank (h : Items K E H l) : Items K E H ((o, .any) :: l) := by
  obtain ⟨G, fp, e, ho, nd, hn⟩ := h
  refine ⟨G, fp, e, ⟨[], fp, ?_, ho, rfl⟩, nd, hn⟩
  cases o with
  | none => exact ⟨rfl, rfl⟩
  | some v => exact rfl
end
end Mv
namespace Mv
open PySem PySem.Spec PyProof.Rows L2
section
variable {K : Frg} {H : Hp} {E : List Addr} {l : List Itm} {v : V}
theorem Items.listAll (h : Items K E H l) {b : Bool} {ds : List D} (hm : (some v, .lst b ds) ∈ l) (z : D.frzL ds = true) :
    ∃ a xs, v = .ref a ∧ H a = some (.lst xs) ∧ xs.length = ds.length ∧ Items K E H (prs xs ds ++ l) := by
  obtain ⟨G, fp, e, ho, nd, hn⟩ := h
  obtain ⟨f, hf, _⟩ := ho.mem hm
  cases b with
  | false =>
    obtain ⟨⟨a, xs, ev, hs, hl⟩, _⟩ := hf
    exact ⟨a, xs, ev, e _ _ hs, hl.length, G, fp, e, OwI.app.mpr ⟨[], fp, OwI.of_fzL z hl, ho, rfl⟩, nd, hn⟩
  | true =>
    obtain ⟨a, xs, fr, ev, hs, hl, _⟩ := hf
    obtain ⟨hl', rfl⟩ := OwL.frozen ds xs fr z hl
    exact ⟨a, xs, ev, hs, hl.length, G, fp, e, OwI.app.mpr ⟨[], fp, OwI.of_fzL z hl', ho, rfl⟩, nd, hn⟩
theorem Items.tupleAll (h : Items K E H l) {ds : List D} (hm : (some v, .tup ds) ∈ l) (z : D.frzL ds = true) :
    ∃ a xs, v = .ref a ∧ SqT K H a xs ∧ xs.length = ds.length ∧ Items K E H (prs xs ds ++ l) := by
  obtain ⟨G, fp, e, ho, nd, hn⟩ := h
  obtain ⟨f, hf, _⟩ := ho.mem hm
  obtain ⟨a, xs, ev, hs, hl⟩ := hf
  obtain ⟨hl', _⟩ := OwL.frozen ds xs f z hl
  exact ⟨a, xs, ev, Same.sqT e hs, hl.length, G, fp, e, OwI.app.mpr ⟨[], fp, OwI.of_fzL z hl', ho, rfl⟩, nd, hn⟩
theorem Items.sub {l l' : List Itm} (h : Items K E H l) (p : ∃ r, l.Perm (r ++ l')) : Items K E H l' := by
  obtain ⟨r, p⟩ := p
  exact (h.perm p).drop
theorem mem_of_getElem {A : List Itm} {i : Nat} {x : Itm} (h : A[i]? = some x) : x ∈ A := List.mem_of_getElem? h
end
end Mv
end
section
set_option Elab.async false
set_option linter.all false
set_option maxRecDepth 100000
/-! Judgements: what an expression, a test, a statement makes of data. -/
namespace Mv
open PySem PySem.Spec PyProof.Rows L2

/-- the data in a def's slots -/
abbrev Ev := List D
abbrev Sl := List (Option V)
/-- where an operand lies: in a slot (not taken out), or by itself -/
inductive Hd where
  | sl (i : Nat) | tm (d : D)
def Hd.get (ρ : Ev) : Hd → D
  | .sl i => ρ.getD i .any
  | .tm d => d
def Hd.its : Hd → V → List Itm
  | .sl _, _ => []
  | .tm d, v => [(some v, d)]
def Hd.at' (σ : Sl) : Hd → V → Prop
  | .sl i, v => σ[i]? = some (some v)
  | .tm _, _ => True
def hits : List Hd → List V → List Itm
  | h :: hs, v :: vs => h.its v ++ hits hs vs
  | _, _ => []
def hats (σ : Sl) : List Hd → List V → Prop
  | [], [] => True
  | h :: hs, v :: vs => h.at' σ v ∧ hats σ hs vs
  | _, _ => False
/-- how a statement ends -/
inductive Out where
  | nx (ρ : Ev) | rt (d : D) (ρ : Ev) | bk (ρ : Ev) | ct (ρ : Ev)

section
variable (X : Cx)
structure DE (e : Expr) (f : Ev → Option (D × Ev)) : Prop where
  ex : ∃ t, PE X e t ∧ ∀ (σ : Sl) (H : Hp) (ρ : Ev) (l : List Itm) (Q : VK) (r : D) (ρ' : Ev), σ.length = ρ.length → Items X.K [] H (σ.zip ρ ++ l) → f ρ = some (r, ρ') →
    (∀ v H', ρ'.length = ρ.length → Items X.K [] H' ((some v, r) :: (σ.zip ρ' ++ l)) → Q v H') → t σ H Q
structure DH (e : Expr) (f : Ev → Option (Hd × Ev)) : Prop where
  ex : ∃ t, PE X e t ∧ ∀ (σ : Sl) (H : Hp) (ρ : Ev) (l : List Itm) (Q : VK) (r : Hd) (ρ' : Ev), σ.length = ρ.length → Items X.K [] H (σ.zip ρ ++ l) → f ρ = some (r, ρ') →
    (∀ v H', ρ'.length = ρ.length → r.at' σ v → Items X.K [] H' (r.its v ++ (σ.zip ρ' ++ l)) → Q v H') → t σ H Q
structure DA (es : List Expr) (f : Ev → Option (List Hd × Ev)) : Prop where
  ex : ∃ t, PA X es t ∧ ∀ (σ : Sl) (H : Hp) (ρ : Ev) (l : List Itm) (Q : List V → Hp → Prop) (r : List Hd) (ρ' : Ev), σ.length = ρ.length → Items X.K [] H (σ.zip ρ ++ l) → f ρ = some (r, ρ') →
    (∀ vs H', ρ'.length = ρ.length → hats σ r vs → Items X.K [] H' (hits r vs ++ (σ.zip ρ' ++ l)) → Q vs H') → t σ H Q
structure DT (e : Expr) (f : Ev → Option (Bool × Ev)) : Prop where
  ex : ∃ t, PT X e t ∧ ∀ (σ : Sl) (H : Hp) (ρ : Ev) (l : List Itm) (Q : Bool → Hp → Prop) (r : Bool) (ρ' : Ev), σ.length = ρ.length → Items X.K [] H (σ.zip ρ ++ l) → f ρ = some (r, ρ') →
    (∀ H', ρ'.length = ρ.length → Items X.K [] H' (σ.zip ρ' ++ l) → Q r H') → t σ H Q
structure DW (e : Expr) (f : Ev → Option (Bool × Ev)) : Prop where
  ex : ∃ t, PW X e t ∧ ∀ (σ : Sl) (H : Hp) (ρ : Ev) (l : List Itm) (Q : Bool → Hp → Prop) (r : Bool) (ρ' : Ev), σ.length = ρ.length → Items X.K [] H (σ.zip ρ ++ l) → f ρ = some (r, ρ') →
    (∀ H', ρ'.length = ρ.length → Items X.K [] H' (σ.zip ρ' ++ l) → Q r H') → t σ H Q
/-- the slots in C keep what they hold -/
def Agr (C : List Nat) (σ σ' : Sl) : Prop := ∀ i ∈ C, σ'[i]? = σ[i]?
def EndOk (C : List Nat) (D' : Ends) (σ : Sl) (l : List Itm) (o : Out) : Prop :=
  match o with
  | .nx ρ' => ∀ σ' H', σ'.length = σ.length → ρ'.length = σ.length → Agr C σ σ' → Items X.K [] H' (σ'.zip ρ' ++ l) → D'.nx σ' H'
  | .bk ρ' => ∀ σ' H', σ'.length = σ.length → ρ'.length = σ.length → Agr C σ σ' → Items X.K [] H' (σ'.zip ρ' ++ l) → D'.bk σ' H'
  | .ct ρ' => ∀ σ' H', σ'.length = σ.length → ρ'.length = σ.length → Agr C σ σ' → Items X.K [] H' (σ'.zip ρ' ++ l) → D'.ct σ' H'
  | .rt d ρ' => ∀ v σ' H', σ'.length = σ.length → ρ'.length = σ.length → Agr C σ σ' → Items X.K [] H' ((some v, d) :: (σ'.zip ρ' ++ l)) → D'.rt v H'
structure DS (C : List Nat) (st : Stmt) (f : Ev → Option Out) : Prop where
  ex : ∃ t, PS X st t ∧ ∀ (D' : Ends) (σ : Sl) (H : Hp) (ρ : Ev) (l : List Itm) (o : Out), σ.length = ρ.length → Items X.K [] H (σ.zip ρ ++ l) → f ρ = some o → EndOk X C D' σ l o → t D' σ H
structure DSs (C : List Nat) (st : List Stmt) (f : Ev → Option Out) : Prop where
  ex : ∃ t, PSs X st t ∧ ∀ (D' : Ends) (σ : Sl) (H : Hp) (ρ : Ev) (l : List Itm) (o : Out), σ.length = ρ.length → Items X.K [] H (σ.zip ρ ++ l) → f ρ = some o → EndOk X C D' σ l o → t D' σ H
structure DG (C : List Nat) (tg : Expr) (f : D → Ev → Option Ev) : Prop where
  ex : ∃ t, PG X tg t ∧ ∀ (v : V) (d : D) (σ : Sl) (H : Hp) (ρ : Ev) (l : List Itm) (Q : Sl → Hp → Prop) (ρ' : Ev), σ.length = ρ.length → Items X.K [] H ((some v, d) :: (σ.zip ρ ++ l)) → f d ρ = some ρ' →
    (∀ σ' H', σ'.length = σ.length → ρ'.length = σ.length → Agr C σ σ' → Items X.K [] H' (σ'.zip ρ' ++ l) → Q σ' H') → t v σ H Q
structure DGs (C : List Nat) (tgs : List Expr) (f : List D → Ev → Option Ev) : Prop where
  ex : ∃ t, PGs X tgs t ∧ ∀ (vs : List V) (ds : List D) (σ : Sl) (H : Hp) (ρ : Ev) (l : List Itm) (Q : Sl → Hp → Prop) (ρ' : Ev), σ.length = ρ.length → vs.length = ds.length → Items X.K [] H (prs vs ds ++ (σ.zip ρ ++ l)) → f ds ρ = some ρ' →
    (∀ σ' H', σ'.length = σ.length → ρ'.length = σ.length → Agr C σ σ' → Items X.K [] H' (σ'.zip ρ' ++ l) → Q σ' H') → t vs σ H Q
end

/-! ### slots -/
theorem zip_at {σ : Sl} {ρ : Ev} {i : Nat} {o : Option V} {d : D} (h1 : σ[i]? = some o) (h2 : ρ[i]? = some d) :
    ∃ A B, σ.zip ρ = A ++ (o, d) :: B ∧ (∀ d', σ.zip (ρ.set i d') = A ++ (o, d') :: B) ∧ ∀ o' d', (σ.set i o').zip (ρ.set i d') = A ++ (o', d') :: B := by
  induction σ generalizing ρ i with
  | nil => simp at h1
  | cons s σ ih =>
    cases ρ with
    | nil => simp at h2
    | cons r ρ =>
      cases i with
      | zero =>
        simp at h1 h2
        subst h1 h2
        exact ⟨[], σ.zip ρ, rfl, fun _ => rfl, fun _ _ => rfl⟩
      | succ i =>
        obtain ⟨A, B, e1, e2, e3⟩ := ih (by simpa using h1) (by simpa using h2)
        exact ⟨(s, r) :: A, B, by simp [e1], fun d' => by simp [e2], fun o' d' => by simp [e3]⟩
theorem zip_mem {σ : Sl} {ρ : Ev} {i : Nat} {o : Option V} {d : D} (h1 : σ[i]? = some o) (h2 : ρ[i]? = some d) : (o, d) ∈ σ.zip ρ := by
  obtain ⟨A, B, e, _⟩ := zip_at h1 h2
  rw [e]; simp
theorem getD_of {ρ : Ev} {i : Nat} {d : D} (h : ρ[i]? = some d) : ρ.getD i .any = d := by
  rw [List.getD_eq_getElem?_getD, h]; rfl
theorem at_ex {σ : Sl} {ρ : Ev} (hl : σ.length = ρ.length) {i : Nat} {d : D} (h : ρ[i]? = some d) : ∃ o, σ[i]? = some o := by
  have : i < ρ.length := (List.getElem?_eq_some_iff.mp h).1
  exact ⟨σ[i]'(by omega), List.getElem?_eq_getElem (by omega)⟩
section
variable {K : Frg} {H : Hp} {l : List Itm} {σ : Sl} {ρ : Ev}
/-- a slot that holds something has a value -/
theorem slot_val {E : List Addr} (h : Items K E H (σ.zip ρ ++ l)) (hl : σ.length = ρ.length) {i : Nat} {d : D} (e : ρ[i]? = some d) (hd : d ≠ .any) : ∃ v, σ[i]? = some (some v) := by
  obtain ⟨o, ho⟩ := at_ex hl e
  cases o with
  | some v => exact ⟨v, ho⟩
  | none =>
    obtain ⟨G, fp, _, hi, _⟩ := h
    obtain ⟨f, hf, _⟩ := hi.mem (i := (none, d)) (List.mem_append_left _ (zip_mem ho e))
    exact absurd hf.1 hd
theorem Items.perm1 {E : List Addr} {A B C : List Itm} {x : Itm} (h : Items K E H (A ++ (x :: B) ++ C)) : Items K E H (x :: (A ++ B ++ C)) := by
  refine h.perm ?_
  simp only [List.append_assoc, List.cons_append]
  exact List.perm_middle
theorem Items.perm2 {E : List Addr} {A B C : List Itm} {x : Itm} (h : Items K E H (x :: (A ++ B ++ C))) : Items K E H (A ++ (x :: B) ++ C) := by
  refine h.perm ?_
  simp only [List.append_assoc, List.cons_append]
  exact List.perm_middle.symm
/-- the slot's data first, and back -/
theorem Items.slot {E : List Addr} (h : Items K E H (σ.zip ρ ++ l)) {i : Nat} {o : Option V} {d : D} (h1 : σ[i]? = some o) (h2 : ρ[i]? = some d) :
    ∃ A B, Items K E H ((o, d) :: (A ++ B ++ l)) ∧ ∀ (E' : List Addr) (H' : Hp) (l' : List Itm) (d' : D), Items K E' H' ((o, d') :: (A ++ B ++ l')) → Items K E' H' (σ.zip (ρ.set i d') ++ l') := by
  obtain ⟨A, B, e1, e2, _⟩ := zip_at h1 h2
  refine ⟨A, B, Items.perm1 (by rw [e1] at h; exact h), fun E' H' l' d' h' => ?_⟩
  rw [e2]
  exact Items.perm2 h'
end

/-! ### expressions -/
section
variable {X : Cx}
theorem DH.of (h : DE X e f) : DH X e fun ρ => (f ρ).map fun p => (.tm p.1, p.2) := by
  obtain ⟨t, ht, k⟩ := h.ex
  refine ⟨t, ht, fun σ H ρ l Q r ρ' hl hi hf q => ?_⟩
  obtain ⟨⟨d, ρ1⟩, h1, h2⟩ := Option.map_eq_some_iff.mp hf
  cases h2
  exact k σ H ρ l Q d ρ1 hl hi h1 fun v H' hl' hi' => q v H' hl' trivial hi'
/-- an operand that stays in its slot -/
def hV (i : Nat) : Ev → Option (Hd × Ev) := fun ρ => match ρ[i]? with
  | some .any => none
  | some _ => some (.sl i, ρ)
  | none => none
def hE (f : Ev → Option (D × Ev)) : Ev → Option (Hd × Ev) := fun ρ => (f ρ).map fun p => (.tm p.1, p.2)
theorem dh_of {e : Expr} {f : Ev → Option (D × Ev)} (h : DE X e f) : DH X e (hE f) := DH.of h
theorem dh_var (i : Nat) {x : Str} {pos : Pos} (hN : X.N[i]? = some x := by rfl) (hv : Vis X.env.scope x := by first | exact Or.inl rfl | exact Or.inr (Or.inl rfl) | exact Or.inr (Or.inr rfl)) (hd : (x == ("__debug__" : Str)) = false := by decide)
    (hcd : (x == ("__classdict__" : Str)) = false := by decide) : DH X (.Name x pos) (hV i) := by
  refine ⟨tVar i, pe_var hN hv hd hcd, fun σ H ρ l Q r ρ' hl hi hf q => ?_⟩
  unfold hV at hf
  split at hf
  · cases hf
  · rename_i d hd e
    cases hf
    obtain ⟨v, hv⟩ := slot_val hi hl e hd
    exact ⟨v, hv, q v H rfl hv hi⟩
  · cases hf
/-- a name's value: what it owned is frozen -/
def eV (i : Nat) : Ev → Option (D × Ev) := fun ρ => match ρ[i]? with
  | some .any => none
  | some d => if d.frz = true then some (d, ρ) else some (d.fz, ρ.set i d.fz)
  | none => none
theorem de_var (i : Nat) {x : Str} {pos : Pos} (hN : X.N[i]? = some x := by rfl) (hv : Vis X.env.scope x := by first | exact Or.inl rfl | exact Or.inr (Or.inl rfl) | exact Or.inr (Or.inr rfl)) (hd : (x == ("__debug__" : Str)) = false := by decide)
    (hcd : (x == ("__classdict__" : Str)) = false := by decide) : DE X (.Name x pos) (eV i) := by
  refine ⟨tVar i, pe_var hN hv hd hcd, fun σ H ρ l Q r ρ' hl hi hf q => ?_⟩
  unfold eV at hf
  split at hf
  · cases hf
  · rename_i d hd e
    obtain ⟨v, hv⟩ := slot_val hi hl e hd
    refine ⟨v, hv, ?_⟩
    split at hf
    · rename_i z
      cases hf
      exact q v H rfl (hi.dup (List.mem_append_left _ (zip_mem hv e)) z)
    · cases hf
      obtain ⟨A, B, h1, h2⟩ := hi.slot hv e
      have h3 := h2 [] H l d.fz h1.freeze
      have e' : (ρ.set i d.fz)[i]? = some d.fz := by
        have : i < ρ.length := (List.getElem?_eq_some_iff.mp e).1
        rw [List.getElem?_set_self this]
      exact q v H (by simp) (h3.dup (List.mem_append_left _ (zip_mem hv e')) (D.frz_fz d))
  · cases hf
/-- a name's value, the name not used again -/
def eM (i : Nat) : Ev → Option (D × Ev) := fun ρ => match ρ[i]? with
  | some .any => none
  | some d => some (d, ρ.set i .any)
  | none => none
theorem de_mov (i : Nat) {x : Str} {pos : Pos} (hN : X.N[i]? = some x := by rfl) (hv : Vis X.env.scope x := by first | exact Or.inl rfl | exact Or.inr (Or.inl rfl) | exact Or.inr (Or.inr rfl)) (hd : (x == ("__debug__" : Str)) = false := by decide)
    (hcd : (x == ("__classdict__" : Str)) = false := by decide) : DE X (.Name x pos) (eM i) := by
  refine ⟨tVar i, pe_var hN hv hd hcd, fun σ H ρ l Q r ρ' hl hi hf q => ?_⟩
  unfold eM at hf
  split at hf
  · cases hf
  · rename_i d hd e
    obtain ⟨v, hv⟩ := slot_val hi hl e hd
    refine ⟨v, hv, ?_⟩
    cases hf
    obtain ⟨A, B, h1, h2⟩ := hi.slot hv e
    refine q v H (by simp) ?_
    have h3 := h2 [] H ((some v, r) :: l) .any
    have h4 : Items X.K [] H ((some v, D.any) :: (A ++ B ++ ((some v, r) :: l))) := by
      have h5 : Items X.K [] H ((some v, D.any) :: ((some v, r) :: (A ++ B ++ l))) := h1.blank
      refine h5.perm (.cons _ ?_)
      exact List.perm_middle.symm
    refine (h3 h4).perm ?_
    exact List.perm_middle
  · cases hf
def eC (d : D) : Ev → Option (D × Ev) := fun ρ => some (d, ρ)
theorem de_const {e : Expr} {v : V} {d : D} (h : PE X e (tC v)) (z : d.frz = true) (hz : ∀ G, Fz X.K G d v) : DE X e (eC d) :=
  ⟨tC v, h, fun σ H ρ l Q r ρ' hl hi hf q => by
    cases hf
    exact q v H rfl (hi.add z fun G _ => hz G)⟩
theorem de_int {i j pos} : DE X (.Constant (.int i) j pos) (eC (.int i)) := de_const pe_int rfl fun _ => rfl
theorem de_bl {b j pos} : DE X (.Constant (.bool b) j pos) (eC (.bl b)) := de_const pe_bl rfl fun _ => rfl
theorem de_non {j pos} : DE X (.Constant .none j pos) (eC .non) := de_const pe_non rfl fun _ => rfl
theorem de_str {x j pos} : DE X (.Constant (.str x) j pos) (eC (.str x)) := de_const pe_str rfl fun _ => rfl

theorem mem_hd {h : Hd} {v : V} {ρ : Ev} {l : List Itm} {σ : Sl} {hl : σ.length = ρ.length} {H : Hp} (ha : h.at' σ v) (hi : Items X.K [] H (h.its v ++ (σ.zip ρ ++ l))) :
    (some v, h.get ρ) ∈ h.its v ++ (σ.zip ρ ++ l) := by
  cases h with
  | tm d => simp [Hd.its, Hd.get]
  | sl i =>
    have h1 : σ[i]? = some (some v) := ha
    have h2 : i < ρ.length := by
      have := (List.getElem?_eq_some_iff.mp h1).1
      omega
    have h3 : ρ[i]? = some ρ[i] := List.getElem?_eq_getElem h2
    simp only [Hd.its, Hd.get, List.nil_append, getD_of h3]
    exact List.mem_append_left _ (zip_mem h1 h3)

/-- what an operation on two values makes of their data -/
def Op2 (K : Frg) (r : R2) (g : D → D → Option D) : Prop := ∀ (x y : V) (H : Hp) (dx dy : D) (l : List Itm) (Q : VK) (d : D), Items K [] H l → (some x, dx) ∈ l → (some y, dy) ∈ l → g dx dy = some d →
  (∀ v H', Items K [] H' ((some v, d) :: l) → Q v H') → r x y H Q
def e2 (g : D → D → Option D) (fa fb : Ev → Option (Hd × Ev)) : Ev → Option (D × Ev) := fun ρ => (fa ρ).bind fun p => (fb p.2).bind fun q => (g (p.1.get q.2) (q.1.get q.2)).map fun d => (d, q.2)
theorem two {a b : Expr} {fa fb : Ev → Option (Hd × Ev)} {g : D → D → Option D} {r : R2} (hg : Op2 X.K r g) (ha : DH X a fa) (hb : DH X b fb) :
    ∃ ta tb, PE X a ta ∧ PE X b tb ∧ ∀ (σ : Sl) (H : Hp) (ρ : Ev) (l : List Itm) (Q : VK) (d : D) (ρ' : Ev), σ.length = ρ.length → Items X.K [] H (σ.zip ρ ++ l) → e2 g fa fb ρ = some (d, ρ') →
      (∀ v H', ρ'.length = ρ.length → Items X.K [] H' ((some v, d) :: (σ.zip ρ' ++ l)) → Q v H') → tOp r ta tb σ H Q := by
  obtain ⟨ta, pa, ka⟩ := ha.ex
  obtain ⟨tb, pb, kb⟩ := hb.ex
  refine ⟨ta, tb, pa, pb, fun σ H ρ l Q d ρ' hl hi hf q => ?_⟩
  obtain ⟨⟨h1, ρ1⟩, e1, hf⟩ := Option.bind_eq_some_iff.mp hf
  obtain ⟨⟨h2, ρ2⟩, e2, hf⟩ := Option.bind_eq_some_iff.mp hf
  obtain ⟨d', e3, hf⟩ := Option.map_eq_some_iff.mp hf
  cases hf
  refine ka σ H ρ l _ h1 ρ1 hl hi e1 fun v1 H1 l1 a1 i1 => ?_
  have i1' : Items X.K [] H1 (σ.zip ρ1 ++ (h1.its v1 ++ l)) := i1.perm (by
    rw [← List.append_assoc, ← List.append_assoc]
    exact List.Perm.append_right l List.perm_append_comm)
  refine kb σ H1 ρ1 _ _ h2 ρ2 (by omega) i1' e2 fun v2 H2 l2 a2 i2 => ?_
  have m2 := mem_hd (X := X) (hl := by omega) a2 i2
  have i2' : Items X.K [] H2 (h1.its v1 ++ (σ.zip ρ2 ++ (h2.its v2 ++ l))) := i2.perm (by
    have p1 : (h2.its v2 ++ (σ.zip ρ2 ++ (h1.its v1 ++ l))).Perm ((σ.zip ρ2 ++ (h1.its v1 ++ l)) ++ h2.its v2) := List.perm_append_comm
    refine p1.trans ?_
    have p2 : (σ.zip ρ2 ++ (h1.its v1 ++ l)).Perm (h1.its v1 ++ (σ.zip ρ2 ++ l)) := by
      rw [← List.append_assoc, ← List.append_assoc]
      exact List.Perm.append_right l List.perm_append_comm
    refine (List.Perm.append_right _ p2).trans ?_
    simp only [List.append_assoc]
    exact List.Perm.append_left _ (List.Perm.append_left _ List.perm_append_comm))
  have m1 := mem_hd (X := X) (hl := by omega) a1 i2'
  have m1' : (some v1, h1.get ρ2) ∈ h2.its v2 ++ (σ.zip ρ2 ++ (h1.its v1 ++ l)) := by
    simp only [List.mem_append] at m1 ⊢
    rcases m1 with m | m | m | m
    · exact .inr (.inr (.inl m))
    · exact .inr (.inl m)
    · exact .inl m
    · exact .inr (.inr (.inr m))
  refine hg v1 v2 H2 _ _ _ Q _ i2 m1' m2 e3 fun v H3 i3 => ?_
  refine q v H3 (by show ρ2.length = ρ.length; omega) (i3.sub ⟨h2.its v2 ++ h1.its v1, ?_⟩)
  have p3 : (h2.its v2 ++ (σ.zip ρ2 ++ (h1.its v1 ++ l))).Perm ((h2.its v2 ++ h1.its v1) ++ (σ.zip ρ2 ++ l)) := by
    rw [List.append_assoc]
    refine List.Perm.append_left _ ?_
    rw [← List.append_assoc, ← List.append_assoc]
    exact List.Perm.append_right l List.perm_append_comm
  exact (List.Perm.cons _ p3).trans List.perm_middle.symm
theorem de_op {a b : Expr} {op : Operator} {fa fb : Ev → Option (Hd × Ev)} {g : D → D → Option D} {r : R2} {pos : Pos} (ho : OpR X (binaryOp op) r) (hg : Op2 X.K r g) (ha : DH X a fa) (hb : DH X b fb) : DE X (.BinOp a op b pos) (e2 g fa fb) := by
  obtain ⟨ta, tb, pa, pb, k⟩ := two hg ha hb
  exact ⟨_, pe_op ho pa pb, k⟩
theorem de_cmp {a b : Expr} {op : CmpOp} {fa fb : Ev → Option (Hd × Ev)} {g : D → D → Option D} {r : R2} {pos : Pos} (ho : OpR X (compareOp op) r) (hg : Op2 X.K r g) (ha : DH X a fa) (hb : DH X b fb)
    (hm : behindInMarks op b = false) : DE X (.Compare a [op] [b] pos) (e2 g fa fb) := by
  obtain ⟨ta, tb, pa, pb, k⟩ := two hg ha hb
  exact ⟨_, pe_cmpR ho pa pb hm, k⟩
theorem de_ix {a b : Expr} {fa fb : Ev → Option (Hd × Ev)} {g : D → D → Option D} {r : R2} {pos : Pos} (ho : IxR X r) (hg : Op2 X.K r g) (ha : DH X a fa) (hb : DH X b fb)
    (hs : PlainIx b) : DE X (.Subscript a b pos) (e2 g fa fb) := by
  obtain ⟨ta, tb, pa, pb, k⟩ := two hg ha hb
  exact ⟨_, pe_ix ho pa pb hs, k⟩
/-- the bool that a value is -/
def tB' (f : Ev → Option (D × Ev)) : Ev → Option (Bool × Ev) := fun ρ => (f ρ).bind fun p => match p.1 with
  | .bl b => some (b, p.2)
  | _ => none
theorem dt_cmp {a b : Expr} {op : CmpOp} {fa fb : Ev → Option (Hd × Ev)} {g : D → D → Option D} {r : R2} {pos : Pos} (ho : OpR X (compareOp op) r) (hg : Op2 X.K r g) (ha : DH X a fa) (hb : DH X b fb)
    (hm : behindInMarks op b = false) : DT X (.Compare a [op] [b] pos) (tB' (e2 g fa fb)) := by
  obtain ⟨ta, tb, pa, pb, k⟩ := two hg ha hb
  refine ⟨_, pt_cmpR ho pa pb hm, fun σ H ρ l Q c ρ' hl hi hf q => ?_⟩
  obtain ⟨⟨d, ρ1⟩, e1, hf⟩ := Option.bind_eq_some_iff.mp hf
  cases d with
  | bl b' =>
    cases hf
    refine k σ H ρ l _ _ _ hl hi e1 fun v H' hl' hi' => ?_
    have hv : v = .bl c := hi'.view (List.mem_cons_self)
    subst hv
    exact ⟨c, rfl, q H' hl' hi'.tail⟩
  | _ => cases hf
end
end Mv
end
section
set_option Elab.async false
set_option linter.all false
set_option maxRecDepth 100000
/-! Judgements, second part: tests, arguments, calls, statements, loops, defs. -/
namespace Mv
open PySem PySem.Spec PyProof.Rows L2

theorem perm_mid {A B C : List Itm} : (A ++ (B ++ C)).Perm (B ++ (A ++ C)) := by
  rw [← List.append_assoc, ← List.append_assoc]
  exact List.Perm.append_right C List.perm_append_comm
section
variable {X : Cx}
/-! ### truth -/
def D.tru : D → Option Bool
  | .non => some false
  | .bl b => some b
  | .int i => some (i != 0)
  | .str y => if y.length ≤ sizeLine then some ((y.length : Int) != 0) else none
  | .lst _ xs => some (!xs.isEmpty)
  | .tup xs => some (!xs.isEmpty)
  | .cst xs => some (!xs.isEmpty)
  | _ => none
theorem isEmpty_len {α β : Type} {xs : List α} {ys : List β} (h : xs.length = ys.length) : xs.isEmpty = ys.isEmpty := by
  cases xs <;> cases ys <;> simp at h ⊢
theorem tru_of {K : Frg} {E : List Addr} {H : Hp} {l : List Itm} {v : V} {d : D} {b : Bool} (hi : Items K E H l) (hm : (some v, d) ∈ l) (h : d.tru = some b) : TruV K v H b := by
  have hz := hi.view hm
  cases d with
  | non => cases hz; cases h; rfl
  | bl c => cases hz; cases h; rfl
  | int i => cases hz; cases h; rfl
  | str y =>
    cases hz
    replace h : (if y.length ≤ sizeLine then some ((y.length : Int) != 0) else none) = some b := h
    split at h
    · rename_i k
      cases h
      exact ⟨k, rfl⟩
    · cases h
  | lst o xs =>
    obtain ⟨a, ys, rfl, hs, hl⟩ := hz
    cases h
    exact .inl ⟨ys, SqL.of hs, by rw [isEmpty_len hl.length]⟩
  | tup xs =>
    obtain ⟨a, ys, rfl, hs, hl⟩ := hz
    cases h
    exact .inr (.inl ⟨ys, hs, by rw [isEmpty_len hl.length]⟩)
  | cst xs =>
    obtain ⟨a, ys, rfl, hs, hl⟩ := hz
    cases h
    exact .inl ⟨ys, hs, by rw [isEmpty_len hl.length]⟩
  | any => cases h
  | rng _ _ => cases h
  | ty _ => cases h
def tT (f : Ev → Option (Hd × Ev)) : Ev → Option (Bool × Ev) := fun ρ => (f ρ).bind fun p => ((p.1.get p.2).tru).map fun b => (b, p.2)
theorem dt_truth {e : Expr} {f : Ev → Option (Hd × Ev)} (h : DH X e f) (he : ∀ whole, isTrue e X.env whole = (do let v ← whole; standAt e.pos; holding [v] (truthy v)) := by exact fun _ => rfl) : DT X e (tT f) := by
  obtain ⟨t, ht, k⟩ := h.ex
  refine ⟨_, pt_truth ht he, fun σ H ρ l Q r ρ' hl hi hf q => ?_⟩
  obtain ⟨⟨hd, ρ1⟩, e1, hf⟩ := Option.bind_eq_some_iff.mp hf
  obtain ⟨b, e2, hf⟩ := Option.map_eq_some_iff.mp hf
  cases hf
  refine k σ H ρ l _ hd _ hl hi e1 fun v H' hl' ha hi' => ?_
  exact ⟨r, tru_of hi' (mem_hd (X := X) (hl := by omega) ha hi') e2, q H' hl' hi'.drop⟩
def tNo (f : Ev → Option (Bool × Ev)) : Ev → Option (Bool × Ev) := fun ρ => (f ρ).map fun p => (!p.1, p.2)
theorem dt_not {a : Expr} {pos : Pos} {f : Ev → Option (Bool × Ev)} (h : DT X a f) : DT X (.UnaryOp .Not a pos) (tNo f) := by
  obtain ⟨t, ht, k⟩ := h.ex
  refine ⟨_, pt_not ht, fun σ H ρ l Q r ρ' hl hi hf q => ?_⟩
  obtain ⟨⟨b, ρ1⟩, e1, hf⟩ := Option.map_eq_some_iff.mp hf
  cases hf
  exact k σ H ρ l _ b _ hl hi e1 fun H' hl' hi' => q H' hl' hi'
theorem dt_w {e : Expr} {f : Ev → Option (Bool × Ev)} (h : DW X e f) : DT X e f := by
  obtain ⟨t, ht, k⟩ := h.ex
  exact ⟨t, ht.pt, k⟩
theorem dw_and1 {a : Expr} {pos : Pos} {f : Ev → Option (Bool × Ev)} (h : DT X a f) : DW X (.BoolOp .And [a] pos) f := by
  obtain ⟨t, ht, k⟩ := h.ex
  exact ⟨t, pw_and1 ht, k⟩
theorem dw_or1 {a : Expr} {pos : Pos} {f : Ev → Option (Bool × Ev)} (h : DT X a f) : DW X (.BoolOp .Or [a] pos) f := by
  obtain ⟨t, ht, k⟩ := h.ex
  exact ⟨t, pw_or1 ht, k⟩
def tAn (f g : Ev → Option (Bool × Ev)) : Ev → Option (Bool × Ev) := fun ρ => (f ρ).bind fun p => if p.1 = true then g p.2 else some (false, p.2)
def tOr' (f g : Ev → Option (Bool × Ev)) : Ev → Option (Bool × Ev) := fun ρ => (f ρ).bind fun p => if p.1 = true then some (true, p.2) else g p.2
theorem dw_and {a b : Expr} {rest : List Expr} {pos : Pos} {f g : Ev → Option (Bool × Ev)} (h : DT X a f) (h' : DW X (.BoolOp .And (b :: rest) pos) g) : DW X (.BoolOp .And (a :: b :: rest) pos) (tAn f g) := by
  obtain ⟨t, ht, k⟩ := h.ex
  obtain ⟨t', ht', k'⟩ := h'.ex
  refine ⟨_, pw_and ht ht', fun σ H ρ l Q r ρ' hl hi hf q => ?_⟩
  obtain ⟨⟨b, ρ1⟩, e1, hf⟩ := Option.bind_eq_some_iff.mp hf
  refine k σ H ρ l _ b ρ1 hl hi e1 fun H' hl' hi' => ?_
  cases b with
  | true =>
    rw [if_pos rfl] at hf
    rw [if_pos rfl]
    exact k' σ H' ρ1 l Q r ρ' (by omega) hi' hf fun H2 l2 i2 => q H2 (by omega) i2
  | false =>
    rw [if_neg Bool.false_ne_true] at hf
    rw [if_neg Bool.false_ne_true]
    cases hf
    exact q H' hl' hi'
theorem dw_or {a b : Expr} {rest : List Expr} {pos : Pos} {f g : Ev → Option (Bool × Ev)} (h : DT X a f) (h' : DW X (.BoolOp .Or (b :: rest) pos) g) : DW X (.BoolOp .Or (a :: b :: rest) pos) (tOr' f g) := by
  obtain ⟨t, ht, k⟩ := h.ex
  obtain ⟨t', ht', k'⟩ := h'.ex
  refine ⟨_, pw_or ht ht', fun σ H ρ l Q r ρ' hl hi hf q => ?_⟩
  obtain ⟨⟨b, ρ1⟩, e1, hf⟩ := Option.bind_eq_some_iff.mp hf
  refine k σ H ρ l _ b ρ1 hl hi e1 fun H' hl' hi' => ?_
  cases b with
  | false =>
    rw [if_neg Bool.false_ne_true] at hf
    rw [if_neg Bool.false_ne_true]
    exact k' σ H' ρ1 l Q r ρ' (by omega) hi' hf fun H2 l2 i2 => q H2 (by omega) i2
  | true =>
    rw [if_pos rfl] at hf
    rw [if_pos rfl]
    cases hf
    exact q H' hl' hi'
/-! ### and, or, not, if as values -/
def eAn (f g : Ev → Option (D × Ev)) : Ev → Option (D × Ev) := fun ρ => (f ρ).bind fun p => p.1.tru.bind fun b => if b = true then g p.2 else some p
def eOr (f g : Ev → Option (D × Ev)) : Ev → Option (D × Ev) := fun ρ => (f ρ).bind fun p => p.1.tru.bind fun b => if b = true then some p else g p.2
def eNo (f : Ev → Option (D × Ev)) : Ev → Option (D × Ev) := fun ρ => (f ρ).bind fun p => p.1.tru.map fun b => (.bl (!b), p.2)
theorem de_one {a : Expr} {op} {pos : Pos} {f : Ev → Option (D × Ev)} (h : DE X a f) : DE X (.BoolOp op [a] pos) f := by
  obtain ⟨t, ht, k⟩ := h.ex
  exact ⟨t, pe_one ht, k⟩
theorem de_and {a b : Expr} {rest : List Expr} {pos : Pos} {f g : Ev → Option (D × Ev)} (h : DE X a f) (h' : DE X (.BoolOp .And (b :: rest) pos) g) : DE X (.BoolOp .And (a :: b :: rest) pos) (eAn f g) := by
  obtain ⟨t, ht, k⟩ := h.ex
  obtain ⟨t', ht', k'⟩ := h'.ex
  refine ⟨_, pe_andT ht ht', fun σ H ρ l Q r ρ' hl hi hf q => ?_⟩
  obtain ⟨⟨x, ρ1⟩, e1, hf⟩ := Option.bind_eq_some_iff.mp hf
  obtain ⟨b, e2, hf⟩ := Option.bind_eq_some_iff.mp hf
  refine k σ H ρ l _ x ρ1 hl hi e1 fun v H' hl' hi' => ⟨b, tru_of hi' (List.mem_cons_self) e2, ?_⟩
  cases b with
  | true =>
    rw [if_pos rfl] at hf
    rw [if_pos rfl]
    exact k' σ H' ρ1 l Q r ρ' (by omega) hi'.tail hf fun v H2 l2 i2 => q v H2 (by omega) i2
  | false =>
    rw [if_neg Bool.false_ne_true] at hf
    rw [if_neg Bool.false_ne_true]
    cases hf
    exact q v H' hl' hi'
theorem de_or {a b : Expr} {rest : List Expr} {pos : Pos} {f g : Ev → Option (D × Ev)} (h : DE X a f) (h' : DE X (.BoolOp .Or (b :: rest) pos) g) : DE X (.BoolOp .Or (a :: b :: rest) pos) (eOr f g) := by
  obtain ⟨t, ht, k⟩ := h.ex
  obtain ⟨t', ht', k'⟩ := h'.ex
  refine ⟨_, pe_orT ht ht', fun σ H ρ l Q r ρ' hl hi hf q => ?_⟩
  obtain ⟨⟨x, ρ1⟩, e1, hf⟩ := Option.bind_eq_some_iff.mp hf
  obtain ⟨b, e2, hf⟩ := Option.bind_eq_some_iff.mp hf
  refine k σ H ρ l _ x ρ1 hl hi e1 fun v H' hl' hi' => ⟨b, tru_of hi' (List.mem_cons_self) e2, ?_⟩
  cases b with
  | false =>
    rw [if_neg Bool.false_ne_true] at hf
    rw [if_neg Bool.false_ne_true]
    exact k' σ H' ρ1 l Q r ρ' (by omega) hi'.tail hf fun v H2 l2 i2 => q v H2 (by omega) i2
  | true =>
    rw [if_pos rfl] at hf
    rw [if_pos rfl]
    cases hf
    exact q v H' hl' hi'
theorem de_not {a : Expr} {pos : Pos} {f : Ev → Option (D × Ev)} (h : DE X a f) : DE X (.UnaryOp .Not a pos) (eNo f) := by
  obtain ⟨t, ht, k⟩ := h.ex
  refine ⟨_, pe_notT ht, fun σ H ρ l Q r ρ' hl hi hf q => ?_⟩
  obtain ⟨⟨x, ρ1⟩, e1, hf⟩ := Option.bind_eq_some_iff.mp hf
  obtain ⟨b, e2, hf⟩ := Option.map_eq_some_iff.mp hf
  cases hf
  exact k σ H ρ l _ x _ hl hi e1 fun v H' hl' hi' => ⟨b, tru_of hi' (List.mem_cons_self) e2, q _ H' hl' (hi'.tail.add (d := .bl (!b)) rfl fun _ _ => rfl)⟩
def eIf (c : Ev → Option (Bool × Ev)) (f g : Ev → Option (D × Ev)) : Ev → Option (D × Ev) := fun ρ => (c ρ).bind fun p => if p.1 = true then f p.2 else g p.2
theorem de_if {c a b : Expr} {pos : Pos} {fc : Ev → Option (Bool × Ev)} {f g : Ev → Option (D × Ev)} (hc : DT X c fc) (ha : DE X a f) (hb : DE X b g) : DE X (.IfExp c a b pos) (eIf fc f g) := by
  obtain ⟨t, ht, k⟩ := hc.ex
  obtain ⟨ta, pa, ka⟩ := ha.ex
  obtain ⟨tb, pb, kb⟩ := hb.ex
  refine ⟨_, pe_ifExp ht pa pb, fun σ H ρ l Q r ρ' hl hi hf q => ?_⟩
  obtain ⟨⟨x, ρ1⟩, e1, hf⟩ := Option.bind_eq_some_iff.mp hf
  refine k σ H ρ l _ x ρ1 hl hi e1 fun H' hl' hi' => ?_
  cases x with
  | true =>
    rw [if_pos rfl] at hf
    rw [if_pos rfl]
    exact ka σ H' ρ1 l Q r ρ' (by omega) hi' hf fun v H2 l2 i2 => q v H2 (by omega) i2
  | false =>
    rw [if_neg Bool.false_ne_true] at hf
    rw [if_neg Bool.false_ne_true]
    exact kb σ H' ρ1 l Q r ρ' (by omega) hi' hf fun v H2 l2 i2 => q v H2 (by omega) i2
/-- one operand -/
def Op1 (K : Frg) (r : V → Hp → VK → Prop) (g : D → Option D) : Prop := ∀ (x : V) (H : Hp) (dx : D) (l : List Itm) (Q : VK) (d : D), Items K [] H l → (some x, dx) ∈ l → g dx = some d →
  (∀ v H', Items K [] H' ((some v, d) :: l) → Q v H') → r x H Q
def e1 (g : D → Option D) (fa : Ev → Option (Hd × Ev)) : Ev → Option (D × Ev) := fun ρ => (fa ρ).bind fun p => (g (p.1.get p.2)).map fun d => (d, p.2)
theorem de_un {a : Expr} {op : UnaryOp} {pos : Pos} {r : V → Hp → VK → Prop} {g : D → Option D} {fa : Ev → Option (Hd × Ev)} (ho : UnR X (unaryOp op) r) (hg : Op1 X.K r g) (ha : DH X a fa) : DE X (.UnaryOp op a pos) (e1 g fa) := by
  obtain ⟨t, ht, k⟩ := ha.ex
  refine ⟨_, pe_un ho ht, fun σ H ρ l Q d ρ' hl hi hf q => ?_⟩
  obtain ⟨⟨h, ρ1⟩, e1, hf⟩ := Option.bind_eq_some_iff.mp hf
  obtain ⟨b, e2, hf⟩ := Option.map_eq_some_iff.mp hf
  cases hf
  refine k σ H ρ l _ h _ hl hi e1 fun v H' hl' ha hi' => ?_
  refine hg v H' _ _ Q _ hi' (mem_hd (X := X) (hl := by omega) ha hi') e2 fun v2 H2 i2 => q v2 H2 hl' (i2.sub ⟨h.its v, List.perm_middle.symm⟩)

/-! ### arguments, displays -/
def aNil : Ev → Option (List Hd × Ev) := fun ρ => some ([], ρ)
def aCons (f : Ev → Option (Hd × Ev)) (g : Ev → Option (List Hd × Ev)) : Ev → Option (List Hd × Ev) := fun ρ => (f ρ).bind fun p => (g p.2).map fun q => (p.1 :: q.1, q.2)
theorem da_nil : DA X [] aNil := ⟨tNil, pa_nil, fun σ H ρ l Q r ρ' hl hi hf q => by cases hf; exact q [] H rfl trivial hi⟩
theorem da_cons {e : Expr} {es : List Expr} {f : Ev → Option (Hd × Ev)} {g : Ev → Option (List Hd × Ev)} (h : DH X e f) (h' : DA X es g) (hs : starEach (e :: es) X.env = (false, eval e X.env) :: starEach es X.env := by rfl) : DA X (e :: es) (aCons f g) := by
  obtain ⟨t, ht, k⟩ := h.ex
  obtain ⟨t', ht', k'⟩ := h'.ex
  refine ⟨_, pa_cons ht ht' hs, fun σ H ρ l Q r ρ' hl hi hf q => ?_⟩
  obtain ⟨⟨hd, ρ1⟩, e1, hf⟩ := Option.bind_eq_some_iff.mp hf
  obtain ⟨⟨hds, ρ2⟩, e2, hf⟩ := Option.map_eq_some_iff.mp hf
  cases hf
  refine k σ H ρ l _ hd ρ1 hl hi e1 fun v H1 l1 a1 i1 => ?_
  refine k' σ H1 ρ1 (hd.its v ++ l) _ hds _ (by omega) (i1.perm perm_mid) e2 fun vs H2 l2 a2 i2 => ?_
  refine q (v :: vs) H2 (by show _ = _; simp only at l1 l2 ⊢; omega) ⟨a1, a2⟩ (i2.perm ?_)
  show List.Perm _ ((hd.its v ++ hits hds vs) ++ _)
  rw [List.append_assoc]
  refine List.Perm.trans (List.Perm.append_left _ perm_mid) perm_mid
theorem da_zero {f : Ev → Option (List Hd × Ev)} : True := trivial

/-! ### values taken over: all into the frozen or as they are -/
/-- the arguments given over (out of the slots where they were owned) -/
def lend : List Hd → Ev → List D × Ev
  | [], ρ => ([], ρ)
  | .tm d :: hs, ρ => (d :: (lend hs ρ).1, (lend hs ρ).2)
  | .sl i :: hs, ρ => if (ρ.getD i .any).frz = true then ((ρ.getD i .any) :: (lend hs ρ).1, (lend hs ρ).2) else ((ρ.getD i .any) :: (lend hs (ρ.set i .any)).1, (lend hs (ρ.set i .any)).2)
def unlend : List Hd → List D → List D → Ev → Ev
  | .tm _ :: hs, _ :: ds, _ :: bs, ρ => unlend hs ds bs ρ
  | .sl i :: hs, d :: ds, b :: bs, ρ => if d.frz = true then unlend hs ds bs ρ else unlend hs ds bs (ρ.set i b)
  | _, _, _, ρ => ρ
theorem lend_len : ∀ (hs : List Hd) (ρ : Ev), (lend hs ρ).2.length = ρ.length ∧ (lend hs ρ).1.length = hs.length
  | [], ρ => ⟨rfl, rfl⟩
  | .tm d :: hs, ρ => by
    obtain ⟨h1, h2⟩ := lend_len hs ρ
    exact ⟨h1, by show (lend hs ρ).1.length + 1 = _; rw [h2]; rfl⟩
  | .sl i :: hs, ρ => by
    unfold lend
    split
    · obtain ⟨h1, h2⟩ := lend_len hs ρ
      exact ⟨h1, by show (lend hs ρ).1.length + 1 = _; rw [h2]; rfl⟩
    · obtain ⟨h1, h2⟩ := lend_len hs (ρ.set i .any)
      exact ⟨by show (lend hs (ρ.set i .any)).2.length = _; rw [h1]; simp, by show (lend hs (ρ.set i .any)).1.length + 1 = _; rw [h2]; rfl⟩
theorem unlend_len : ∀ (hs : List Hd) (ds bs : List D) (ρ : Ev), (unlend hs ds bs ρ).length = ρ.length := by
  intro hs
  induction hs with
  | nil => intro ds bs ρ; unfold unlend; rfl
  | cons h hs ih =>
    intro ds bs ρ
    cases ds with
    | nil => cases h <;> (unfold unlend; rfl)
    | cons d ds =>
      cases bs with
      | nil => cases h <;> (unfold unlend; rfl)
      | cons b bs =>
        cases h with
        | tm _ => unfold unlend; exact ih _ _ _
        | sl i =>
          unfold unlend
          split
          · exact ih _ _ _
          · rw [ih]; simp
theorem hats_len : ∀ {hs : List Hd} {vs : List V} {σ : Sl}, hats σ hs vs → vs.length = hs.length
  | [], [], _, _ => rfl
  | [], _ :: _, _, h => h.elim
  | _ :: _, [], _, h => h.elim
  | _ :: hs, _ :: vs, _, h => by simp [hats_len h.2]
theorem lend_items {K : Frg} {H : Hp} {σ : Sl} : ∀ {hs : List Hd} {vs : List V} {ρ : Ev} {l : List Itm}, σ.length = ρ.length → hats σ hs vs → Items K [] H (hits hs vs ++ (σ.zip ρ ++ l)) →
    Items K [] H (prs vs (lend hs ρ).1 ++ (σ.zip (lend hs ρ).2 ++ l))
  | [], [], _, _, _, _, h => h
  | [], _ :: _, _, _, _, h, _ => h.elim
  | _ :: _, [], _, _, _, h, _ => h.elim
  | .tm d :: hs, v :: vs, ρ, l, hl, ha, hi => by
    have h1 : Items K [] H ((some v, d) :: (hits hs vs ++ (σ.zip ρ ++ l))) := hi
    have h2 : Items K [] H (hits hs vs ++ (σ.zip ρ ++ ((some v, d) :: l))) := h1.perm (by
      refine List.Perm.trans List.perm_middle.symm ?_
      exact List.Perm.append_left _ List.perm_middle.symm)
    have h3 := lend_items hl ha.2 h2
    exact h3.perm (by
      refine List.Perm.trans (List.Perm.append_left _ List.perm_middle) ?_
      exact List.perm_middle)
  | .sl i :: hs, v :: vs, ρ, l, hl, ha, hi => by
    have h1 : σ[i]? = some (some v) := ha.1
    have h2 : i < ρ.length := by
      have := (List.getElem?_eq_some_iff.mp h1).1
      omega
    have h3 : ρ[i]? = some ρ[i] := List.getElem?_eq_getElem h2
    have h4 : ρ.getD i .any = ρ[i] := getD_of h3
    have hi' : Items K [] H (hits hs vs ++ (σ.zip ρ ++ l)) := hi
    unfold lend
    rw [h4]
    split
    · rename_i z
      have m : (some v, ρ[i]) ∈ hits hs vs ++ (σ.zip ρ ++ l) := List.mem_append_right _ (List.mem_append_left _ (zip_mem h1 h3))
      have h5 : Items K [] H (hits hs vs ++ (σ.zip ρ ++ ((some v, ρ[i]) :: l))) := (hi'.dup m z).perm (by
        refine List.Perm.trans List.perm_middle.symm ?_
        exact List.Perm.append_left _ List.perm_middle.symm)
      have h6 := lend_items hl ha.2 h5
      exact h6.perm (by
        refine List.Perm.trans (List.Perm.append_left _ List.perm_middle) ?_
        exact List.perm_middle)
    · have h5 : Items K [] H (σ.zip ρ ++ (hits hs vs ++ l)) := hi'.perm perm_mid
      obtain ⟨A, B, k1, k2⟩ := h5.slot h1 h3
      have k3 : Items K [] H ((some v, D.any) :: (A ++ B ++ ((some v, ρ[i]) :: (hits hs vs ++ l)))) := (k1.blank (o := some v)).perm (.cons _ List.perm_middle.symm)
      have k4 := k2 [] H _ .any k3
      have k5 : Items K [] H (hits hs vs ++ (σ.zip (ρ.set i .any) ++ ((some v, ρ[i]) :: l))) := k4.perm (by
        refine List.Perm.trans (List.Perm.append_left _ List.perm_middle.symm) ?_
        exact perm_mid)
      have h6 := lend_items (by simpa using hl) ha.2 k5
      exact h6.perm (by
        refine List.Perm.trans (List.Perm.append_left _ List.perm_middle) ?_
        exact List.perm_middle)
theorem unlend_items {K : Frg} {H : Hp} {σ : Sl} : ∀ {hs : List Hd} {vs : List V} {ds bs : List D} {ρ : Ev} {l : List Itm}, σ.length = ρ.length → hats σ hs vs → ds.length = hs.length → bs.length = hs.length → Items K [] H (prs vs bs ++ (σ.zip ρ ++ l)) →
    Items K [] H (σ.zip (unlend hs ds bs ρ) ++ l)
  | [], [], _, _, _, _, _, _, _, _, h => by unfold unlend; exact h.drop
  | [], _ :: _, _, _, _, _, _, h, _, _, _ => h.elim
  | _ :: _, [], _, _, _, _, _, h, _, _, _ => h.elim
  | _ :: _, _ :: _, [], _, _, _, _, _, h, _, _ => by simp at h
  | _ :: _, _ :: _, _ :: _, [], _, _, _, _, _, h, _ => by simp at h
  | .tm _ :: hs, v :: vs, d :: ds, b :: bs, ρ, l, hl, ha, e1, e2, hi => by
    unfold unlend
    exact unlend_items hl ha.2 (by simpa using e1) (by simpa using e2) (Items.tail (i := (some v, b)) hi)
  | .sl i :: hs, v :: vs, d :: ds, b :: bs, ρ, l, hl, ha, e1, e2, hi => by
    unfold unlend
    split
    · exact unlend_items hl ha.2 (by simpa using e1) (by simpa using e2) (Items.tail (i := (some v, b)) hi)
    · have h1 : σ[i]? = some (some v) := ha.1
      have h2 : i < ρ.length := by
        have := (List.getElem?_eq_some_iff.mp h1).1
        omega
      have h3 : ρ[i]? = some ρ[i] := List.getElem?_eq_getElem h2
      have hi' : Items K [] H ((some v, b) :: (prs vs bs ++ (σ.zip ρ ++ l))) := hi
      have h5 : Items K [] H (σ.zip ρ ++ ((some v, b) :: (prs vs bs ++ l))) := hi'.perm (by
        refine List.Perm.trans (.cons _ perm_mid) ?_
        exact List.perm_middle.symm)
      obtain ⟨A, B, k1, k2⟩ := h5.slot h1 h3
      have k3 : Items K [] H ((some v, b) :: (A ++ B ++ (prs vs bs ++ l))) := k1.tail.perm List.perm_middle
      have k4 := k2 [] H _ b k3
      exact unlend_items (by simpa using hl) ha.2 (by simpa using e1) (by simpa using e2) (k4.perm perm_mid)

/-! ### calls of the program's own defs -/
def dspec (K : Frg) (n : Nat) (F : List D → Option (D × List D)) : Sp := fun vs H Q _ => ∃ l ds r bs, vs.length = n ∧ ds.length = n ∧ Items K [] H (prs vs ds ++ l) ∧ F ds = some (r, bs) ∧
  ∀ v H', bs.length = n → Items K [] H' ((some v, r) :: (prs vs bs ++ l)) → Q v H'
structure FOk (P : Program) (w : World) (K : Frg) (mg : Str → Option Value) (base : Heap) (k : Nat) (x : Str) (ps : List Str) (F : List D → Option (D × List D)) : Prop where
  ex : ∃ f fd, mg x = some (.ref f) ∧ PySem.W.keepIn K (.ref f) = true ∧ Binds K fd ps [] ∧ (∃ oc od osl, K.lookup f = some ⟨oc, od, .func fd, osl⟩) ∧ FnOk P w K mg base CX0 k f fd ps (dspec K ps.length F)
theorem FOk.mono {P : Program} {w : World} {K : Frg} {mg : Str → Option Value} {base : Heap} {j k : Nat} {x : Str} {ps : List Str} {F : List D → Option (D × List D)} (h : FOk P w K mg base j x ps F) (hk : j ≤ k) : FOk P w K mg base k x ps F := by
  obtain ⟨f, fd, h1, h2, h3, h4, h5⟩ := h.ex
  exact ⟨f, fd, h1, h2, h3, h4, h5.mono hk⟩
def eCall (n : Nat) (F : List D → Option (D × List D)) (fa : Ev → Option (List Hd × Ev)) : Ev → Option (D × Ev) := fun ρ => (fa ρ).bind fun p =>
  if p.1.length = n then (F (lend p.1 p.2).1).map fun r => (r.1, unlend p.1 (lend p.1 p.2).1 r.2 (lend p.1 p.2).2) else none
theorem call_core {k n : Nat} {F : List D → Option (D × List D)} {K : Frg} {fa : Ev → Option (List Hd × Ev)} {es : List Expr} {t : TA}
    (ka : ∀ (σ : Sl) (H : Hp) (ρ : Ev) (l : List Itm) (Q : List V → Hp → Prop) (r : List Hd) (ρ' : Ev), σ.length = ρ.length → Items K [] H (σ.zip ρ ++ l) → fa ρ = some (r, ρ') →
    (∀ vs H', ρ'.length = ρ.length → hats σ r vs → Items K [] H' (hits r vs ++ (σ.zip ρ' ++ l)) → Q vs H') → t σ H Q)
    (σ : Sl) (H : Hp) (ρ : Ev) (l : List Itm) (Q : VK) (r : D) (ρ' : Ev) (hl : σ.length = ρ.length) (hi : Items K [] H (σ.zip ρ ++ l)) (hf : eCall n F fa ρ = some (r, ρ'))
    (q : ∀ v H', ρ'.length = ρ.length → Items K [] H' ((some v, r) :: (σ.zip ρ' ++ l)) → Q v H') : tCall (dspec K n F) [] E0 t σ H Q := by
  obtain ⟨⟨hds, ρ1⟩, e1, hf⟩ := Option.bind_eq_some_iff.mp hf
  replace hf : (if hds.length = n then (F (lend hds ρ1).1).map fun r => (r.1, unlend hds (lend hds ρ1).1 r.2 (lend hds ρ1).2) else none) = some (r, ρ') := hf
  split at hf
  · rename_i hn
    obtain ⟨⟨d, bs⟩, e2, hf⟩ := Option.map_eq_some_iff.mp hf
    cases hf
    refine ka σ H ρ l _ hds ρ1 hl hi e1 fun vs H1 l1 a1 i1 => ?_
    have hlen := hats_len a1
    obtain ⟨n1, n2⟩ := lend_len hds ρ1
    rw [List.append_nil]
    refine ⟨σ.zip (lend hds ρ1).2 ++ l, (lend hds ρ1).1, d, bs, by omega, by omega, lend_items (by omega) a1 i1, e2, fun v H2 lb i2 => ?_⟩
    refine q v H2 (by rw [unlend_len]; omega) ?_
    have i3 : Items K [] H2 (prs vs bs ++ (σ.zip (lend hds ρ1).2 ++ ((some v, d) :: l))) := i2.perm (by
      refine List.Perm.trans List.perm_middle.symm ?_
      exact List.Perm.append_left _ List.perm_middle.symm)
    exact (unlend_items (by omega) a1 n2 (by omega) i3).perm List.perm_middle
  · cases hf
theorem de_call {k n : Nat} {x : Str} {ps : List Str} {F : List D → Option (D × List D)} {p pos : Pos} {e : Expr} {es : List Expr} {fa : Ev → Option (List Hd × Ev)} (hF : FOk X.prog X.w X.K X.mg X.base k x ps F) (hr : Room k X.A) (hg : Gl X x) (ha : DA X (e :: es) fa)
    (hdb : (x == ("__debug__" : Str)) = false := by decide) (he : starEach (e :: es) X.env = (false, eval e X.env) :: starEach es X.env := by rfl) (hpl : (backTo pos (starEach es X.env)).any (·.1) = false := by rfl)
    (hn : ps.length = n := by rfl) : DE X (.Call (.Name x p) (e :: es) [] pos) (eCall n F fa) := by
  subst hn
  obtain ⟨f, fd, h1, h2, h3, h4, h5⟩ := hF.ex
  obtain ⟨t, ht, ka⟩ := ha.ex
  exact ⟨_, pe_call h5 hr hg h1 h2 h3 .nil pass0 ht hdb he hpl, fun σ H ρ l Q r ρ' hl hi hf q => call_core (k := k) (es := e :: es) ka σ H ρ l Q r ρ' hl hi hf q⟩
theorem de_call0 {k : Nat} {x : Str} {F : List D → Option (D × List D)} {p pos : Pos} (hF : FOk X.prog X.w X.K X.mg X.base k x [] F) (hr : Room k X.A) (hg : Gl X x) (hdb : (x == ("__debug__" : Str)) = false := by decide) :
    DE X (.Call (.Name x p) [] [] pos) (eCall 0 F aNil) := by
  obtain ⟨f, fd, h1, h2, h3, h4, h5⟩ := hF.ex
  obtain ⟨t, ht, ka⟩ := (da_nil (X := X)).ex
  refine ⟨_, pe_call0 h5 hr hg h1 h2 h3 .nil pass0 hdb, fun σ H ρ l Q r ρ' hl hi hf q => ?_⟩
  exact call_core (k := k) (es := []) (t := tNil) (fun σ H ρ l Q r ρ' hl hi hf q => by cases hf; exact q [] H rfl trivial hi) σ H ρ l Q r ρ' hl hi hf q

/-! ### calls of builtins -/
def OpN (K : Frg) (r : List V → Hp → VK → Prop) (g : List D → Option D) : Prop := ∀ (xs : List V) (H : Hp) (ds : List D) (l : List Itm) (Q : VK) (d : D), Items K [] H l → Paired (fun x dx => (some x, dx) ∈ l) xs ds → g ds = some d →
  (∀ v H', Items K [] H' ((some v, d) :: l) → Q v H') → r xs H Q
def eN (g : List D → Option D) (fa : Ev → Option (List Hd × Ev)) : Ev → Option (D × Ev) := fun ρ => (fa ρ).bind fun p => (g (p.1.map (Hd.get p.2))).map fun d => (d, p.2)
theorem mem_hits {K : Frg} {H : Hp} {σ : Sl} {ρ : Ev} (hl : σ.length = ρ.length) : ∀ {hs : List Hd} {vs : List V} {l : List Itm}, hats σ hs vs → Paired (fun x dx => (some x, dx) ∈ hits hs vs ++ (σ.zip ρ ++ l)) vs (hs.map (Hd.get ρ))
  | [], [], _, _ => .nil
  | [], _ :: _, _, h => h.elim
  | _ :: _, [], _, h => h.elim
  | h :: hs, v :: vs, l, ha => by
    refine .cons ?_ (Paired.mapP (mem_hits (K := K) (H := H) hl (l := l) ha.2) fun x dx hm => ?_)
    · cases h with
      | tm d => simp [Hd.its, Hd.get, hits]
      | sl i =>
        have h1 : σ[i]? = some (some v) := ha.1
        have h2 : i < ρ.length := by
          have := (List.getElem?_eq_some_iff.mp h1).1
          omega
        have h3 : ρ[i]? = some ρ[i] := List.getElem?_eq_getElem h2
        simp only [Hd.get, getD_of h3]
        exact List.mem_append_right _ (List.mem_append_left _ (zip_mem h1 h3))
    · show _ ∈ (h.its v ++ hits hs vs) ++ _
      rw [List.append_assoc]
      exact List.mem_append_right _ hm
theorem callN {fa : Ev → Option (List Hd × Ev)} {es : List Expr} {r : List V → Hp → VK → Prop} {g : List D → Option D} (hg : OpN X.K r g) (ha : DA X es fa) :
    ∃ t, PA X es t ∧ ∀ (σ : Sl) (H : Hp) (ρ : Ev) (l : List Itm) (Q : VK) (d : D) (ρ' : Ev), σ.length = ρ.length → Items X.K [] H (σ.zip ρ ++ l) → eN g fa ρ = some (d, ρ') →
      (∀ v H', ρ'.length = ρ.length → Items X.K [] H' ((some v, d) :: (σ.zip ρ' ++ l)) → Q v H') → tCB r t σ H Q := by
  obtain ⟨t, ht, ka⟩ := ha.ex
  refine ⟨t, ht, fun σ H ρ l Q d ρ' hl hi hf q => ?_⟩
  obtain ⟨⟨hds, ρ1⟩, e1, hf⟩ := Option.bind_eq_some_iff.mp hf
  obtain ⟨d', e2, hf⟩ := Option.map_eq_some_iff.mp hf
  cases hf
  refine ka σ H ρ l _ hds _ hl hi e1 fun vs H1 l1 a1 i1 => ?_
  exact hg vs H1 _ _ Q _ i1 (mem_hits (K := X.K) (H := H1) (by show σ.length = ρ1.length; have l2 : ρ1.length = ρ.length := l1; omega) a1) e2 fun v H2 i2 => q v H2 l1 (i2.sub ⟨hits hds vs, List.perm_middle.symm⟩)
theorem de_bi {x : Str} {id : String} {p pos : Pos} {e : Expr} {es : List Expr} {fa : Ev → Option (List Hd × Ev)} {r : List V → Hp → VK → Prop} {g : List D → Option D} (hc : CallR X (.builtin id) r) (hgo : OpN X.K r g) (hg : Gl X x) (hm : X.mg x = none) (hv : bootBuiltins x = some (.builtin id)) (ha : DA X (e :: es) fa)
    (hn : x ≠ "__name__" := by decide) (hdb : (x == ("__debug__" : Str)) = false := by decide) (he : starEach (e :: es) X.env = (false, eval e X.env) :: starEach es X.env := by rfl) (hpl : (backTo pos (starEach es X.env)).any (·.1) = false := by rfl) :
    DE X (.Call (.Name x p) (e :: es) [] pos) (eN g fa) := by
  obtain ⟨t, ht, k⟩ := callN hgo ha
  exact ⟨_, pe_callB hc hg hm hv ht hn hdb he hpl, k⟩
theorem de_ty {x : Str} {T : String} {p pos : Pos} {e : Expr} {es : List Expr} {fa : Ev → Option (List Hd × Ev)} {r : List V → Hp → VK → Prop} {g : List D → Option D} (hc : CallR X (.type T) r) (hgo : OpN X.K r g) (hg : Gl X x) (hm : X.mg x = none) (hv : bootBuiltins x = some (.type T)) (ha : DA X (e :: es) fa)
    (hn : x ≠ "__name__" := by decide) (hdb : (x == ("__debug__" : Str)) = false := by decide) (he : starEach (e :: es) X.env = (false, eval e X.env) :: starEach es X.env := by rfl) (hpl : (backTo pos (starEach es X.env)).any (·.1) = false := by rfl) :
    DE X (.Call (.Name x p) (e :: es) [] pos) (eN g fa) := by
  obtain ⟨t, ht, k⟩ := callN hgo ha
  exact ⟨_, pe_callTy hc hg hm hv ht hn hdb he hpl, k⟩
end
end Mv
end
section
set_option Elab.async false
set_option linter.all false
set_option maxRecDepth 100000
/-! Judgements, third part: displays, methods, statements, targets. -/
namespace Mv
open PySem PySem.Spec PyProof.Rows L2

/-- all by themselves -/
def tms : List Hd → Option (List D)
  | [] => some []
  | .tm d :: hs => (tms hs).map fun r => d :: r
  | .sl _ :: _ => none
theorem tms_hits : ∀ {hs : List Hd} {ds : List D} {vs : List V}, tms hs = some ds → vs.length = hs.length → hits hs vs = prs vs ds ∧ ds.length = vs.length
  | [], _, [], h, _ => by cases h; exact ⟨rfl, rfl⟩
  | [], _, _ :: _, _, h => by simp at h
  | _ :: _, _, [], _, h => by simp at h
  | .sl _ :: _, _, _ :: _, h, _ => by cases h
  | .tm d :: hs, _, v :: vs, h, hl => by
    obtain ⟨r, h1, h2⟩ := Option.map_eq_some_iff.mp h
    subst h2
    obtain ⟨k1, k2⟩ := tms_hits (vs := vs) h1 (by simpa using hl)
    refine ⟨?_, by simp [k2]⟩
    show [(some v, d)] ++ hits hs vs = (some v, d) :: prs vs r
    rw [k1]; rfl
section
variable {X : Cx}
def eTup (fa : Ev → Option (List Hd × Ev)) : Ev → Option (D × Ev) := fun ρ => (fa ρ).bind fun p => (tms p.1).bind fun ds => if ds.length ≤ 16777216 then some (.tup ds, p.2) else none
def eLst (fa : Ev → Option (List Hd × Ev)) : Ev → Option (D × Ev) := fun ρ => (fa ρ).bind fun p => (tms p.1).bind fun ds => if ds.length ≤ 16777216 then some (.lst true ds, p.2) else none
theorem de_tup {es : List Expr} {k : Nat} {pos : Pos} {fa : Ev → Option (List Hd × Ev)} (h : DA X es fa) : DE X (.Tuple es k pos) (eTup fa) := by
  obtain ⟨t, ht, ka⟩ := h.ex
  refine ⟨_, pe_tup ht, fun σ H ρ l Q r ρ' hl hi hf q => ?_⟩
  obtain ⟨⟨hds, ρ1⟩, e1, hf⟩ := Option.bind_eq_some_iff.mp hf
  obtain ⟨ds, e2, hf⟩ := Option.bind_eq_some_iff.mp hf
  split at hf
  · rename_i hz
    cases hf
    refine ka σ H ρ l _ hds _ hl hi e1 fun vs H1 l1 a1 i1 => ?_
    obtain ⟨k1, k2⟩ := tms_hits e2 (hats_len a1)
    refine ⟨by rw [sizeLine_eq, ← k2]; exact hz, fun p np => q (.ref p) _ l1 ?_⟩
    rw [k1] at i1
    exact Items.newT np k2.symm i1
  · cases hf
theorem de_lst {es : List Expr} {pos : Pos} {fa : Ev → Option (List Hd × Ev)} (h : DA X es fa) : DE X (.List es pos) (eLst fa) := by
  obtain ⟨t, ht, ka⟩ := h.ex
  refine ⟨_, pe_lst ht, fun σ H ρ l Q r ρ' hl hi hf q => ?_⟩
  obtain ⟨⟨hds, ρ1⟩, e1, hf⟩ := Option.bind_eq_some_iff.mp hf
  obtain ⟨ds, e2, hf⟩ := Option.bind_eq_some_iff.mp hf
  split at hf
  · rename_i hz
    cases hf
    refine ka σ H ρ l _ hds _ hl hi e1 fun vs H1 l1 a1 i1 => ?_
    obtain ⟨k1, k2⟩ := tms_hits e2 (hats_len a1)
    refine ⟨by rw [sizeLine_eq, ← k2]; exact hz, fun p np => q (.ref p) _ l1 ?_⟩
    rw [k1] at i1
    exact Items.new np k2.symm i1 (fun b hb => by cases hb)
  · cases hf

/-! ### methods that change a list in a slot -/
def MutOp (K : Frg) (r : V → List V → Hp → VK → Prop) (g : List D → List D → Option (D × List D)) : Prop := ∀ (a : Addr) (vs : List V) (H : Hp) (ds xs : List D) (l : List Itm) (Q : VK) (d : D) (ys : List D), vs.length = ds.length →
  Items K [] H ((some (.ref a), .lst true xs) :: (prs vs ds ++ l)) → g xs ds = some (d, ys) → (∀ v H', Items K [] H' ((some v, d) :: (some (.ref a), .lst true ys) :: l) → Q v H') → r (.ref a) vs H Q
def eMut (i : Nat) (g : List D → List D → Option (D × List D)) (fa : Ev → Option (List Hd × Ev)) : Ev → Option (D × Ev) := fun ρ => match ρ[i]? with
  | some (.lst _ _) => (fa ρ).bind fun p => (tms p.1).bind fun ds => match p.2[i]? with
    | some (.lst true xs) => (g xs ds).map fun q => (q.1, p.2.set i (.lst true q.2))
    | _ => none
  | _ => none
theorem mut_core {r : V → List V → Hp → VK → Prop} {g : List D → List D → Option (D × List D)} {i : Nat} {fa : Ev → Option (List Hd × Ev)} {t : TA} {x : Str} {pos : Pos} (hN : X.N[i]? = some x) (hg : MutOp X.K r g)
    (ka : ∀ (σ : Sl) (H : Hp) (ρ : Ev) (l : List Itm) (Q : List V → Hp → Prop) (r : List Hd) (ρ' : Ev), σ.length = ρ.length → Items X.K [] H (σ.zip ρ ++ l) → fa ρ = some (r, ρ') →
    (∀ vs H', ρ'.length = ρ.length → hats σ r vs → Items X.K [] H' (hits r vs ++ (σ.zip ρ' ++ l)) → Q vs H') → t σ H Q)
    (σ : Sl) (H : Hp) (ρ : Ev) (l : List Itm) (Q : VK) (d : D) (ρ' : Ev) (hl : σ.length = ρ.length) (hi : Items X.K [] H (σ.zip ρ ++ l)) (hf : eMut i g fa ρ = some (d, ρ'))
    (q : ∀ v H', ρ'.length = ρ.length → Items X.K [] H' ((some v, d) :: (σ.zip ρ' ++ l)) → Q v H') : tBM X.K "list" r (tVar i) t σ H Q := by
  unfold eMut at hf
  split at hf
  · rename_i b zs e5
    obtain ⟨⟨hds, ρ1⟩, e1, hf⟩ := Option.bind_eq_some_iff.mp hf
    obtain ⟨ds, e2, hf⟩ := Option.bind_eq_some_iff.mp hf
    split at hf
    · rename_i xs e3
      obtain ⟨⟨d', ys⟩, e4, hf⟩ := Option.map_eq_some_iff.mp hf
      obtain ⟨ed, eρ⟩ : d' = d ∧ ρ1.set i (.lst true ys) = ρ' := by cases hf; exact ⟨rfl, rfl⟩
      subst ed eρ
      obtain ⟨v, hv⟩ := slot_val hi hl e5 (by intro z; cases z)
      refine ⟨v, hv, ?_, ?_⟩
      · obtain ⟨a, us, rfl, hs, _⟩ := hi.list (List.mem_append_left _ (zip_mem hv e5))
        exact .inl ⟨rfl, us, SqL.of hs⟩
      · refine ka σ H ρ l _ hds ρ1 hl hi e1 fun vs H1 l1 a1 i1 => ?_
        obtain ⟨k1, k2⟩ := tms_hits e2 (hats_len a1)
        rw [k1] at i1
        have i2 : Items X.K [] H1 (σ.zip ρ1 ++ (prs vs ds ++ l)) := i1.perm perm_mid
        obtain ⟨A, B, h1, h2⟩ := i2.slot hv e3
        obtain ⟨a, us, rfl, hs, _⟩ := h1.list (List.mem_cons_self)
        refine hg a vs H1 ds xs (A ++ B ++ l) Q d' ys k2.symm (h1.perm (.cons _ perm_mid)) e4 fun w H2 i3 => ?_
        refine q w H2 (by show (ρ1.set i _).length = _; simp; exact l1) ?_
        have i4 := h2 [] H2 ((some w, d') :: l) (.lst true ys) (i3.perm (by
          refine List.Perm.trans (List.Perm.swap _ _ _) ?_
          exact .cons _ (List.perm_middle.symm)))
        exact i4.perm List.perm_middle
    · cases hf
  · cases hf
theorem de_mut (i : Nat) {id : String} {name x : Str} {e : Expr} {es : List Expr} {npos apos cpos : Pos} {r : V → List V → Hp → VK → Prop} {g : List D → List D → Option (D × List D)} {fa : Ev → Option (List Hd × Ev)} (slot : Slot "list" name id) (hty : typeOf (.builtin id) = pure (.type "method_descriptor"))
    (hm : MtR X id r) (hg : MutOp X.K r g) (ha : DA X (e :: es) fa)
    (hN : X.N[i]? = some x := by rfl) (hv : Vis X.env.scope x := by first | exact Or.inl rfl | exact Or.inr (Or.inl rfl) | exact Or.inr (Or.inr rfl)) (hd : (x == ("__debug__" : Str)) = false := by decide)
    (hcd : (x == ("__classdict__" : Str)) = false := by decide)
    (hbase : attributeBase (.Name x npos) name X.env (eval (.Name x npos) X.env) = eval (.Name x npos) X.env := by rfl)
    (hfew : ((backTo cpos (starEach (e :: es) X.env)).all (fun x => !x.1) && (backToKw cpos (keywordEach [] X.env)).all (fun x => x.1.isSome)
      && decide ((e :: es).length + ([] : List Keyword).length + (if ([] : List Keyword).isEmpty then 0 else 1) < 30)) = true := by rfl)
    (hline : (apos.endLine == cpos.line) = true := by rfl) (hs : starEach (e :: es) X.env = (false, eval e X.env) :: starEach es X.env := by rfl) (hplain : (backTo cpos (starEach es X.env)).any (·.1) = false := by rfl) :
    DE X (.Call (.Attribute (.Name x npos) name apos) (e :: es) [] cpos) (eMut i g fa) := by
  obtain ⟨t, ht, ka⟩ := ha.ex
  exact ⟨_, pe_bm PySem.F.plainAttrs_list slot hty hm (pe_var hN hv hd hcd) ht hbase hfew hline hs hplain, fun σ H ρ l Q r ρ' hl hi hf q => mut_core (x := x) (pos := npos) hN hg ka σ H ρ l Q r ρ' hl hi hf q⟩
theorem de_mut0 (i : Nat) {id : String} {name x : Str} {npos apos cpos : Pos} {r : V → List V → Hp → VK → Prop} {g : List D → List D → Option (D × List D)} (slot : Slot "list" name id) (hty : typeOf (.builtin id) = pure (.type "method_descriptor"))
    (hm : MtR X id r) (hg : MutOp X.K r g)
    (hN : X.N[i]? = some x := by rfl) (hv : Vis X.env.scope x := by first | exact Or.inl rfl | exact Or.inr (Or.inl rfl) | exact Or.inr (Or.inr rfl)) (hd : (x == ("__debug__" : Str)) = false := by decide)
    (hcd : (x == ("__classdict__" : Str)) = false := by decide)
    (hbase : attributeBase (.Name x npos) name X.env (eval (.Name x npos) X.env) = eval (.Name x npos) X.env := by rfl)
    (hline : (apos.endLine == cpos.line) = true := by rfl) :
    DE X (.Call (.Attribute (.Name x npos) name apos) [] [] cpos) (eMut i g aNil) := by
  refine ⟨_, pe_bm0 PySem.F.plainAttrs_list slot hty hm (pe_var hN hv hd hcd) hbase hline, fun σ H ρ l Q d ρ' hl hi hf q => ?_⟩
  exact mut_core (x := x) (pos := npos) (t := tNil) hN hg (fun σ H ρ l Q r ρ' hl hi hf q => by cases hf; exact q [] H rfl trivial hi) σ H ρ l Q d ρ' hl hi hf q
/-- methods that read: the receiver is the first operand -/
def kindD (T : String) : D → Bool
  | .lst _ _ => T == "list"
  | .cst _ => T == "list"
  | .str _ => T == "str"
  | _ => false
theorem kind_ty {K : Frg} {H : Hp} {T : String} {d : D} {l : List Itm} {v : V} (h : kindD T d = true) (hi : Items K [] H l) (hm : (some v, d) ∈ l) : tyV K T v H := by
  have hz := hi.view hm
  cases d with
  | lst _ _ =>
    obtain ⟨a, us, rfl, hs, _⟩ := hz
    exact .inl ⟨by simpa [kindD] using h, us, SqL.of hs⟩
  | cst _ =>
    obtain ⟨a, us, rfl, hs, _⟩ := hz
    exact .inl ⟨by simpa [kindD] using h, us, hs⟩
  | str _ =>
    cases hz
    show T = "str"
    simpa [kindD] using h
  | _ => cases h
def eMt (T : String) (g : List D → Option D) (fo : Ev → Option (Hd × Ev)) (fa : Ev → Option (List Hd × Ev)) : Ev → Option (D × Ev) := fun ρ => (fo ρ).bind fun p => if kindD T (p.1.get p.2) = true then (fa p.2).bind fun q => (g (p.1.get q.2 :: q.1.map (Hd.get q.2))).map fun d => (d, q.2) else none
theorem de_mt {T id : String} {name : Str} {o e : Expr} {es : List Expr} {apos cpos : Pos} {r : V → List V → Hp → VK → Prop} {g : List D → Option D} {fo : Ev → Option (Hd × Ev)} {fa : Ev → Option (List Hd × Ev)} (pa : PlainAttrs T) (slot : Slot T name id) (hty : typeOf (.builtin id) = pure (.type "method_descriptor"))
    (hm : MtR X id r) (hg : OpN X.K (fun xs H Q => ∃ x r', xs = x :: r' ∧ r x r' H Q) g) (ho : DH X o fo) (ha : DA X (e :: es) fa)
    (hbase : attributeBase o name X.env (eval o X.env) = eval o X.env := by rfl)
    (hfew : ((backTo cpos (starEach (e :: es) X.env)).all (fun x => !x.1) && (backToKw cpos (keywordEach [] X.env)).all (fun x => x.1.isSome)
      && decide ((e :: es).length + ([] : List Keyword).length + (if ([] : List Keyword).isEmpty then 0 else 1) < 30)) = true := by rfl)
    (hline : (apos.endLine == cpos.line) = true := by rfl) (hs : starEach (e :: es) X.env = (false, eval e X.env) :: starEach es X.env := by rfl) (hplain : (backTo cpos (starEach es X.env)).any (·.1) = false := by rfl) :
    DE X (.Call (.Attribute o name apos) (e :: es) [] cpos) (eMt T g fo fa) := by
  obtain ⟨to, hto, ko⟩ := ho.ex
  obtain ⟨t, ht, ka⟩ := ha.ex
  refine ⟨_, pe_bm pa slot hty hm hto ht hbase hfew hline hs hplain, fun σ H ρ l Q d ρ' hl hi hf q => ?_⟩
  obtain ⟨⟨hd, ρ1⟩, e2, hf⟩ := Option.bind_eq_some_iff.mp hf
  replace hf : (if kindD T (hd.get ρ1) = true then (fa ρ1).bind fun q => (g (hd.get q.2 :: q.1.map (Hd.get q.2))).map fun d => (d, q.2) else none) = some (d, ρ') := hf
  split at hf
  · rename_i kd
    obtain ⟨⟨hs, ρ3⟩, e4, hf⟩ := Option.bind_eq_some_iff.mp hf
    obtain ⟨d', e6, hf⟩ := Option.map_eq_some_iff.mp hf
    obtain ⟨ed, eρ⟩ : d' = d ∧ ρ3 = ρ' := by cases hf; exact ⟨rfl, rfl⟩
    subst ed eρ
    refine ko σ H ρ l _ hd ρ1 hl hi e2 fun v H1 l1 a1 i1 => ⟨kind_ty kd i1 (mem_hd (X := X) (hl := by omega) a1 i1), ?_⟩
    refine ka σ H1 ρ1 (hd.its v ++ l) _ hs _ (by omega) (i1.perm perm_mid) e4 fun vs H2 l2 a2 i2 => ?_
    have i3 : Items X.K [] H2 (hits (hd :: hs) (v :: vs) ++ (σ.zip ρ3 ++ l)) := i2.perm (by
      show List.Perm _ ((hd.its v ++ hits hs vs) ++ _)
      rw [List.append_assoc]
      refine List.Perm.trans (List.Perm.append_left _ perm_mid) perm_mid)
    have l3 : ρ3.length = ρ.length := by have z : ρ3.length = ρ1.length := l2; omega
    obtain ⟨x, r', ex, hr⟩ := hg (v :: vs) H2 _ _ Q _ i3 (mem_hits (K := X.K) (H := H2) (by omega) (hs := hd :: hs) ⟨a1, a2⟩) e6 fun w H3 i4 => q w H3 l3 (i4.sub ⟨hits (hd :: hs) (v :: vs), List.perm_middle.symm⟩)
    cases ex
    exact hr
  · cases hf
theorem de_mt0 {T id : String} {name : Str} {o : Expr} {apos cpos : Pos} {r : V → List V → Hp → VK → Prop} {g : List D → Option D} {fo : Ev → Option (Hd × Ev)} (pa : PlainAttrs T) (slot : Slot T name id) (hty : typeOf (.builtin id) = pure (.type "method_descriptor"))
    (hm : MtR X id r) (hg : OpN X.K (fun xs H Q => ∃ x r', xs = x :: r' ∧ r x r' H Q) g) (ho : DH X o fo)
    (hbase : attributeBase o name X.env (eval o X.env) = eval o X.env := by rfl) (hline : (apos.endLine == cpos.line) = true := by rfl) :
    DE X (.Call (.Attribute o name apos) [] [] cpos) (eMt T g fo aNil) := by
  obtain ⟨to, hto, ko⟩ := ho.ex
  refine ⟨_, pe_bm0 pa slot hty hm hto hbase hline, fun σ H ρ l Q d ρ' hl hi hf q => ?_⟩
  obtain ⟨⟨hd, ρ1⟩, e2, hf⟩ := Option.bind_eq_some_iff.mp hf
  replace hf : (if kindD T (hd.get ρ1) = true then (aNil ρ1).bind fun q => (g (hd.get q.2 :: q.1.map (Hd.get q.2))).map fun d => (d, q.2) else none) = some (d, ρ') := hf
  split at hf
  · rename_i kd
    obtain ⟨d', e6, hf⟩ := Option.map_eq_some_iff.mp hf
    obtain ⟨ed, eρ⟩ : d' = d ∧ ρ1 = ρ' := by cases hf; exact ⟨rfl, rfl⟩
    subst ed eρ
    refine ko σ H ρ l _ hd ρ1 hl hi e2 fun v H1 l1 a1 i1 => ⟨kind_ty kd i1 (mem_hd (X := X) (hl := by omega) a1 i1), ?_⟩
    have i3 : Items X.K [] H1 (hits [hd] [v] ++ (σ.zip ρ1 ++ l)) := by
      show Items X.K [] H1 ((hd.its v ++ []) ++ _)
      rw [List.append_nil]
      exact i1
    obtain ⟨x, r', ex, hr⟩ := hg [v] H1 _ _ Q _ i3 (mem_hits (K := X.K) (H := H1) (by omega) (hs := [hd]) ⟨a1, trivial⟩) e6 fun w H3 i4 => q w H3 l1 (i4.sub ⟨hits [hd] [v], List.perm_middle.symm⟩)
    cases ex
    exact hr
  · cases hf

/-! ### statements -/
variable {C : List Nat}
theorem Agr.refl {σ : Sl} : Agr C σ σ := fun _ _ => rfl
theorem Agr.trans {σ σ' σ2 : Sl} (a : Agr C σ σ') (b : Agr C σ' σ2) : Agr C σ σ2 := fun i hi => (b i hi).trans (a i hi)
theorem EndOk.step {D' : Ends} {σ σ1 : Sl} {l : List Itm} {o : Out} (h : EndOk X C D' σ l o) (a : Agr C σ σ1) (hl : σ1.length = σ.length) : EndOk X C D' σ1 l o := by
  cases o with
  | nx ρ' => exact fun σ' H' l1 l2 a' i => h σ' H' (by omega) (by omega) (a.trans a') i
  | bk ρ' => exact fun σ' H' l1 l2 a' i => h σ' H' (by omega) (by omega) (a.trans a') i
  | ct ρ' => exact fun σ' H' l1 l2 a' i => h σ' H' (by omega) (by omega) (a.trans a') i
  | rt d ρ' => exact fun v σ' H' l1 l2 a' i => h v σ' H' (by omega) (by omega) (a.trans a') i
def bNil : Ev → Option Out := fun ρ => some (.nx ρ)
def bCons (f g : Ev → Option Out) : Ev → Option Out := fun ρ => (f ρ).bind fun o => match o with
  | .nx ρ' => g ρ'
  | o => some o
theorem dss_nil : DSs X C [] bNil := ⟨tNext, pss_nil, fun D' σ H ρ l o hl hi hf k => by cases hf; exact k σ H rfl hl.symm Agr.refl hi⟩
theorem dss_cons {st : Stmt} {rest : List Stmt} {f g : Ev → Option Out} (h : DS X C st f) (h' : DSs X C rest g) : DSs X C (st :: rest) (bCons f g) := by
  obtain ⟨t, ht, k⟩ := h.ex
  obtain ⟨t', ht', k'⟩ := h'.ex
  refine ⟨_, pss_cons ht ht', fun D' σ H ρ l o hl hi hf q => ?_⟩
  obtain ⟨o1, e1, hf⟩ := Option.bind_eq_some_iff.mp hf
  refine k { D' with nx := t' D' } σ H ρ l o1 hl hi e1 ?_
  cases o1 with
  | nx ρ1 => exact fun σ1 H1 l1 l2 a1 i1 => k' D' σ1 H1 ρ1 l o (by omega) i1 hf (q.step a1 l1)
  | bk ρ1 => cases hf; exact q
  | ct ρ1 => cases hf; exact q
  | rt d ρ1 => cases hf; exact q
theorem dss_one {st : Stmt} {f : Ev → Option Out} (h : DS X C st f) : DSs X C [st] f := by
  obtain ⟨t, ht, k⟩ := h.ex
  exact ⟨t, pss_one ht, k⟩
theorem ds_pass {pos : Pos} : DS X C (.Pass pos) bNil := ⟨tNext, ps_pass, fun D' σ H ρ l o hl hi hf k => by cases hf; exact k σ H rfl hl.symm Agr.refl hi⟩
def bBrk : Ev → Option Out := fun ρ => some (.bk ρ)
def bCnt : Ev → Option Out := fun ρ => some (.ct ρ)
theorem ds_break {pos : Pos} : DS X C (.Break pos) bBrk := ⟨_, ps_break, fun D' σ H ρ l o hl hi hf k => by cases hf; exact k σ H rfl hl.symm Agr.refl hi⟩
theorem ds_continue {pos : Pos} : DS X C (.Continue pos) bCnt := ⟨_, ps_continue, fun D' σ H ρ l o hl hi hf k => by cases hf; exact k σ H rfl hl.symm Agr.refl hi⟩
def bExp (f : Ev → Option (D × Ev)) : Ev → Option Out := fun ρ => (f ρ).map fun p => .nx p.2
theorem ds_expr {e : Expr} {pos : Pos} {f : Ev → Option (D × Ev)} (h : DE X e f) (hs : swapsWith e none pos.line X.env = pure false := by rfl) : DS X C (.Expr e pos) (bExp f) := by
  obtain ⟨t, ht, k⟩ := h.ex
  refine ⟨_, ps_expr ht hs, fun D' σ H ρ l o hl hi hf q => ?_⟩
  obtain ⟨⟨d, ρ1⟩, e1, hf⟩ := Option.map_eq_some_iff.mp hf
  cases hf
  exact k σ H ρ l _ d ρ1 hl hi e1 fun v H1 l1 i1 => q σ H1 rfl (by show ρ1.length = _; omega) Agr.refl i1.tail
def bRet (f : Ev → Option (D × Ev)) : Ev → Option Out := fun ρ => (f ρ).map fun p => .rt p.1 p.2
theorem ds_ret {e : Expr} {pos : Pos} {f : Ev → Option (D × Ev)} (h : DE X e f) : DS X C (.Return (some e) pos) (bRet f) := by
  obtain ⟨t, ht, k⟩ := h.ex
  refine ⟨_, ps_ret ht, fun D' σ H ρ l o hl hi hf q => ?_⟩
  obtain ⟨⟨d, ρ1⟩, e1, hf⟩ := Option.map_eq_some_iff.mp hf
  cases hf
  exact k σ H ρ l _ d ρ1 hl hi e1 fun v H1 l1 i1 => q v σ H1 rfl (by show ρ1.length = _; omega) Agr.refl i1
def bRetN : Ev → Option Out := fun ρ => some (.rt .non ρ)
theorem ds_retN {pos : Pos} : DS X C (.Return none pos) bRetN :=
  ⟨_, ps_retN, fun D' σ H ρ l o hl hi hf q => by cases hf; exact q .non σ H rfl hl.symm Agr.refl (hi.add (d := .non) rfl fun _ _ => rfl)⟩
def bIf (c : Ev → Option (Bool × Ev)) (f g : Ev → Option Out) : Ev → Option Out := fun ρ => (c ρ).bind fun p => if p.1 = true then f p.2 else g p.2
theorem ds_if {c : Expr} {a b : List Stmt} {pos : Pos} {fc : Ev → Option (Bool × Ev)} {f g : Ev → Option Out} (hc : DT X c fc) (ha : DSs X C a f) (hb : DSs X C b g) : DS X C (.If c a b pos) (bIf fc f g) := by
  obtain ⟨t, ht, k⟩ := hc.ex
  obtain ⟨ta, pa, ka⟩ := ha.ex
  obtain ⟨tb, pb, kb⟩ := hb.ex
  refine ⟨_, ps_if ht pa pb, fun D' σ H ρ l o hl hi hf q => ?_⟩
  obtain ⟨⟨x, ρ1⟩, e1, hf⟩ := Option.bind_eq_some_iff.mp hf
  refine k σ H ρ l _ x ρ1 hl hi e1 fun H' hl' hi' => ?_
  cases x with
  | true =>
    rw [if_pos rfl] at hf
    rw [if_pos rfl]
    exact ka D' σ H' ρ1 l o (by omega) hi' hf q
  | false =>
    rw [if_neg Bool.false_ne_true] at hf
    rw [if_neg Bool.false_ne_true]
    exact kb D' σ H' ρ1 l o (by omega) hi' hf q

/-! ### targets -/
def gNm (i : Nat) : D → Ev → Option Ev := fun d ρ => some (ρ.set i d)
theorem Agr.set {σ : Sl} {i : Nat} {o : Option V} (h : i ∉ C) : Agr C σ (σ.set i o) := fun j hj => by
  have hne : i ≠ j := fun z => h (by rw [z]; exact hj)
  rw [List.getElem?_set_ne hne]
theorem set_items {K : Frg} {E : List Addr} {H : Hp} {σ : Sl} {ρ : Ev} {l : List Itm} {i : Nat} {o : Option V} {d : D} (hl : σ.length = ρ.length) (hi : i < σ.length) (h : Items K E H ((o, d) :: (σ.zip ρ ++ l))) : Items K E H ((σ.set i o).zip (ρ.set i d) ++ l) := by
  have h1 : σ[i]? = some σ[i] := List.getElem?_eq_getElem hi
  have h2 : ρ[i]? = some (ρ[i]'(by omega)) := List.getElem?_eq_getElem (by omega)
  obtain ⟨A, B, e1, _, e3⟩ := zip_at h1 h2
  rw [e3]
  rw [e1] at h
  have h3 : Items K E H ((σ[i], ρ[i]'(by omega)) :: ((o, d) :: (A ++ B ++ l))) := h.perm (by
    refine List.Perm.trans (.cons _ ?_) (List.Perm.swap _ _ _)
    simp only [List.append_assoc, List.cons_append]
    exact List.perm_middle)
  exact Items.perm2 h3.tail
theorem dg_name (i : Nat) {x : Str} {pos : Pos} (hN : X.N.Nodup) (hC : i ∉ C := by decide) (hi : X.N[i]? = some x := by rfl) (hx : Loc X.env.scope x := by first | exact Or.inl rfl | exact Or.inr rfl)
    (hf : X.fn x = true ∨ X.env.scope.names.lookup x = some .local := by first | exact .inl rfl | exact .inr rfl | assumption) : DG X C (.Name x pos) (gNm i) := by
  refine ⟨gName i, pg_name hN hi hx hf, fun v d σ H ρ l Q ρ' hl hi' hf q => ?_⟩
  cases hf
  by_cases h : i < σ.length
  · exact q _ H (by simp) (by simp [hl]) (Agr.set hC) (set_items hl h hi')
  · have e1 : σ.set i (some v) = σ := List.set_eq_of_length_le (by omega)
    have e2 : ρ.set i d = ρ := List.set_eq_of_length_le (by omega)
    refine q _ H (by simp) (by simp [hl]) (Agr.set hC) ?_
    rw [e1, e2]
    exact hi'.tail
def gsNil : List D → Ev → Option Ev := fun ds ρ => match ds with
  | [] => some ρ
  | _ => none
def gsCons (f : D → Ev → Option Ev) (g : List D → Ev → Option Ev) : List D → Ev → Option Ev := fun ds ρ => match ds with
  | d :: r => (f d ρ).bind fun ρ1 => g r ρ1
  | _ => none
theorem dgs_nil : DGs X C [] gsNil := by
  refine ⟨gNil, pgs_nil, fun vs ds σ H ρ l Q ρ' hl hv hi hf q => ?_⟩
  cases ds with
  | cons _ _ => cases hf
  | nil =>
    cases hf
    cases vs with
    | cons _ _ => simp at hv
    | nil => exact ⟨rfl, q σ H rfl hl.symm Agr.refl hi⟩
theorem dgs_cons {e : Expr} {es : List Expr} {f : D → Ev → Option Ev} {g : List D → Ev → Option Ev} (h : DG X C e f) (h' : DGs X C es g) (hs : (assignEach (e :: es) X.env).map (·.2) = assign e X.env :: (assignEach es X.env).map (·.2) := by rfl) : DGs X C (e :: es) (gsCons f g) := by
  obtain ⟨t, ht, k⟩ := h.ex
  obtain ⟨t', ht', k'⟩ := h'.ex
  refine ⟨_, pgs_cons ht ht' hs, fun vs ds σ H ρ l Q ρ' hl hv hi hf q => ?_⟩
  cases ds with
  | nil => cases hf
  | cons d r =>
    cases vs with
    | nil => simp at hv
    | cons v vr =>
      obtain ⟨ρ1, e1, hf⟩ := Option.bind_eq_some_iff.mp hf
      refine ⟨v, vr, rfl, ?_⟩
      have hi' : Items X.K [] H ((some v, d) :: (prs vr r ++ (σ.zip ρ ++ l))) := hi
      refine k v d σ H ρ (prs vr r ++ l) _ ρ1 hl (hi'.perm (.cons _ perm_mid)) e1 fun σ1 H1 l1 l2 a1 i1 => ?_
      refine k' vr r σ1 H1 ρ1 l Q ρ' (by omega) (by simpa using hv) (i1.perm perm_mid) hf fun σ2 H2 l3 l4 a2 i2 => q σ2 H2 (by omega) (by omega) (a1.trans a2) i2
def gTp (n : Nat) (g : List D → Ev → Option Ev) : D → Ev → Option Ev := fun d ρ => match d with
  | .tup ds => if ds.length = n then g ds ρ else none
  | .lst _ ds => if ds.length = n ∧ D.frzL ds = true then g ds ρ else none
  | _ => none
theorem pg_or {X : Cx} {e : Expr} {t u : TG} (h : PG X e t) (k : PG X e u) : PG X e (fun v σ H Q => t v σ H Q ∨ u v σ H Q) := ⟨fun pins s σ H v w Q I r q => by
  rcases q with q | q
  · exact h.run pins s σ H v w Q I r q
  · exact k.run pins s σ H v w Q I r q⟩
theorem dg_tup {es : List Expr} {k : Nat} {pos : Pos} {n : Nat} {g : List D → Ev → Option Ev} (hc : X.calm = true) (h : DGs X C es g)
    (hn : (assignEach es X.env).length = n := by rfl) (hst : (assignEach es X.env).findIdx? (·.1) = none := by rfl) : DG X C (.Tuple es k pos) (gTp n g) := by
  obtain ⟨t, ht, kk⟩ := h.ex
  refine ⟨_, pg_or (pg_tup hc ht hn hst) (pg_unl hc ht hn hst), fun v d σ H ρ l Q ρ' hl hi hf q => ?_⟩
  cases d with
  | tup ds =>
    replace hf : (if ds.length = n then g ds ρ else none) = some ρ' := hf
    split at hf
    · rename_i hd
      obtain ⟨a, xs, rfl, hs, hx, i1⟩ := hi.openT
      exact .inl ⟨a, xs, rfl, hs, by omega, kk xs ds σ H ρ l Q ρ' hl hx i1 hf q⟩
    · cases hf
  | lst b ds =>
    replace hf : (if ds.length = n ∧ D.frzL ds = true then g ds ρ else none) = some ρ' := hf
    split at hf
    · rename_i hd
      obtain ⟨a, xs, rfl, hs, hx, i1⟩ := hi.listAll List.mem_cons_self hd.2
      have i2 := i1.sub ⟨[(some (.ref a), .lst b ds)], List.perm_middle⟩
      exact .inr ⟨a, xs, rfl, SqL.of hs, by omega, kk xs ds σ H ρ l Q ρ' hl hx i2 hf q⟩
    · cases hf
  | _ => cases hf
/-- x[i] = v, x a name's owned list -/
def gIx (j : Nat) (fi : Ev → Option (Hd × Ev)) : D → Ev → Option Ev := fun d ρ => match ρ[j]? with
  | some (.lst _ _) => (fi ρ).bind fun p => match p.2[j]?, p.1.get p.2 with
    | some (.lst true xs), .int k => (ixN xs.length k).map fun m => p.2.set j (.lst true (xs.set m d))
    | _, _ => none
  | _ => none
theorem prs_set {xs : List V} {ds : List D} {m : Nat} {v : V} {d : D} (hl : xs.length = ds.length) (hm : m < xs.length) : ∃ i R, (prs xs ds).Perm (i :: R) ∧ (prs (xs.set m v) (ds.set m d)).Perm ((some v, d) :: R) := by
  induction xs generalizing ds m with
  | nil => simp at hm
  | cons x xs ih =>
    cases ds with
    | nil => simp at hl
    | cons e ds =>
      cases m with
      | zero => exact ⟨(some x, e), prs xs ds, .refl _, .refl _⟩
      | succ m =>
        obtain ⟨i, R, p1, p2⟩ := ih (ds := ds) (m := m) (by simpa using hl) (by simpa using hm)
        refine ⟨i, (some x, e) :: R, ?_, ?_⟩
        · exact (List.Perm.cons _ p1).trans (List.Perm.swap _ _ _)
        · exact (List.Perm.cons (some x, e) p2).trans (List.Perm.swap _ _ _)
theorem dg_ix (j : Nat) {x : Str} {i : Expr} {npos pos : Pos} {fi : Ev → Option (Hd × Ev)} (hi : DH X i fi) (hN : X.N[j]? = some x := by rfl) (hv : Vis X.env.scope x := by first | exact Or.inl rfl | exact Or.inr (Or.inl rfl) | exact Or.inr (Or.inr rfl)) (hd : (x == ("__debug__" : Str)) = false := by decide)
    (hcd : (x == ("__classdict__" : Str)) = false := by decide)
    (ha : ∀ v, assign (.Subscript (.Name x npos) i pos) X.env v = (do
      let ov ← holding [v] (eval (.Name x npos) X.env)
      let iv ← holding [v, ov] (eval i X.env)
      standAt pos
      holding [v, ov, iv] (setItem ov iv v)
      release [v, ov, iv] []) := by intro _; rfl) : DG X C (.Subscript (.Name x npos) i pos) (gIx j fi) := by
  obtain ⟨ti, hti, ki⟩ := hi.ex
  refine ⟨_, pg_sub (pe_var hN hv hd hcd) hti set_list ha, fun v d σ H ρ l Q ρ' hl hi hf q => ?_⟩
  unfold gIx at hf
  split at hf
  rotate_left
  · cases hf
  rename_i b0 zs e5
  obtain ⟨⟨h, ρ1⟩, e1, hf⟩ := Option.bind_eq_some_iff.mp hf
  split at hf
  · rename_i xs k e2 e3
    obtain ⟨m, e4, hf⟩ := Option.map_eq_some_iff.mp hf
    subst hf
    have hi1 : Items X.K [] H (σ.zip ρ ++ ((some v, d) :: l)) := hi.perm List.perm_middle.symm
    obtain ⟨u, hu⟩ := slot_val hi1 hl e5 (by intro z; cases z)
    refine ⟨u, hu, ?_⟩
    refine ki σ H ρ _ _ h ρ1 hl hi1 e1 fun w H1 l1 a1 i1 => ?_
    have hw : w = .int k := by
      have := i1.view (mem_hd (X := X) (hl := by omega) a1 i1)
      rw [show h.get ρ1 = .int k from e3] at this
      exact this
    subst hw
    have i2 : Items X.K [] H1 (σ.zip ρ1 ++ ((some v, d) :: l)) := i1.drop
    obtain ⟨A, B, h1, h2⟩ := i2.slot hu e2
    obtain ⟨a, us, rfl, hs, hlen, _⟩ := h1.list (List.mem_cons_self)
    obtain ⟨us', hs', hlen', hop⟩ := h1.open
    rw [hs] at hs'
    cases hs'
    obtain ⟨_, hm, _, _⟩ := ixN_seq e4
    refine ⟨a, us, k, m, rfl, rfl, hs, by rw [hlen]; exact e4, ?_⟩
    obtain ⟨it, R, p1, p2⟩ := prs_set (xs := us) (ds := xs) (m := m) (v := v) (d := d) hlen (by omega)
    have hcl : Items X.K [a] H1 (prs (us.set m v) (xs.set m d) ++ (A ++ B ++ l)) := by
      have z1 : Items X.K [a] H1 (it :: (R ++ ((some v, d) :: (A ++ B ++ l)))) := hop.perm (by
        refine (List.Perm.append_right _ p1).trans ?_
        exact .cons _ (List.Perm.append_left _ List.perm_middle))
      have z2 : Items X.K [a] H1 ((some v, d) :: R ++ (A ++ B ++ l)) := z1.tail.perm List.perm_middle
      exact z2.perm (List.Perm.append_right _ p2.symm)
    have i3 := Items.close hs (by simp [hlen]) hcl
    refine q σ _ rfl (by show (ρ1.set j _).length = _; simp; omega) Agr.refl ?_
    exact h2 [] _ l _ i3
  · cases hf
/-- target = e -/
def bAsg (f : Ev → Option (D × Ev)) (g : D → Ev → Option Ev) : Ev → Option Out := fun ρ => (f ρ).bind fun p => (g p.1 p.2).map Out.nx
theorem ds_asg {tg e : Expr} {pos : Pos} {f : Ev → Option (D × Ev)} {g : D → Ev → Option Ev} (he : DE X e f) (hg : DG X C tg g) (hs : swapsWithSole [tg] e pos.line X.env = pure false := by rfl) (hw : swappedStores [tg] e X.env = pure none := by rfl)
    (h1 : (assignEach [tg] X.env).map (·.2) = [assign tg X.env] := by rfl) : DS X C (.Assign [tg] e pos) (bAsg f g) := by
  obtain ⟨t, ht, k⟩ := he.ex
  obtain ⟨t', ht', k'⟩ := hg.ex
  refine ⟨_, ps_asg ht ht' hs hw h1, fun D' σ H ρ l o hl hi hf q => ?_⟩
  obtain ⟨⟨d, ρ1⟩, e1, hf⟩ := Option.bind_eq_some_iff.mp hf
  obtain ⟨ρ2, e2, hf⟩ := Option.map_eq_some_iff.mp hf
  subst hf
  refine k σ H ρ l _ d ρ1 hl hi e1 fun v H1 l1 i1 => ?_
  exact k' v d σ H1 ρ1 l _ ρ2 (by omega) i1 e2 fun σ2 H2 l2 l3 a2 i2 => q σ2 H2 l2 l3 a2 i2
theorem ds_set (i : Nat) {x : Str} {e : Expr} {pos' pos : Pos} {f : Ev → Option (D × Ev)} (hN : X.N.Nodup) (he : DE X e f) (hC : i ∉ C := by decide) (hi : X.N[i]? = some x := by rfl) (hx : Loc X.env.scope x := by first | exact Or.inl rfl | exact Or.inr rfl)
    (hs : swapsWith e (some (.Name x pos')) pos.line X.env = pure false := by rfl) (hf : X.fn x = true ∨ X.env.scope.names.lookup x = some .local := by first | exact .inl rfl | exact .inr rfl | assumption) : DS X C (.Assign [.Name x pos'] e pos) (bAsg f (gNm i)) := by
  obtain ⟨t, ht, k⟩ := he.ex
  obtain ⟨t', ht', k'⟩ := (dg_name (C := C) (pos := pos') i hN hC hi hx hf).ex
  refine ⟨tAsg t (gName i), ps_set hN hi hx ht hs hf, fun D' σ H ρ l o hl hi hf q => ?_⟩
  obtain ⟨⟨d, ρ1⟩, e1, hf⟩ := Option.bind_eq_some_iff.mp hf
  cases hf
  refine k σ H ρ l _ d ρ1 hl hi e1 fun v H1 l1 i1 => ?_
  show D'.nx (σ.set i (some v)) H1
  by_cases h : i < σ.length
  · exact q _ H1 (by simp) (by simp; omega) (Agr.set hC) (set_items (by show σ.length = ρ1.length; have l2 : ρ1.length = ρ.length := l1; omega) h i1)
  · have e1 : σ.set i (some v) = σ := List.set_eq_of_length_le (by omega)
    have e2 : ρ1.set i d = ρ1 := List.set_eq_of_length_le (by omega)
    refine q _ H1 (by simp) (by simp; omega) (Agr.set hC) ?_
    show Items X.K [] H1 ((σ.set i (some v)).zip (ρ1.set i d) ++ l)
    rw [e1, e2]
    exact i1.tail
/-- a, b = e1, e2 -/
def bPar (i j : Nat) (fa : Ev → Option (List Hd × Ev)) : Ev → Option Out := fun ρ => (fa ρ).bind fun p => match tms p.1 with
  | some [d, e] => some (.nx ((p.2.set i d).set j e))
  | _ => none
theorem ds_par (i j : Nat) {x y : Str} {a b : Expr} {px py pt pos : Pos} {kt k2 pt2} {fa : Ev → Option (List Hd × Ev)} (hc : X.calm = true) (hN : X.N.Nodup) (ha : DA X [a, b] fa) (hC : i ∉ C := by decide) (hC2 : j ∉ C := by decide) (hi : X.N[i]? = some x := by rfl) (hj : X.N[j]? = some y := by rfl) (hij : i ≠ j := by decide)
    (hx : X.env.scope.names.lookup x = some .local := by rfl) (hy : X.env.scope.names.lookup y = some .local := by rfl)
    (hw : swappedStores [.Tuple [.Name x px, .Name y py] kt pt] (.Tuple [a, b] k2 pt2) X.env = pure (some [x, y]) := by rfl)
    (hs : swapsWithSole [.Tuple [.Name x px, .Name y py] kt pt] (.Tuple [a, b] k2 pt2) pos.line X.env = pure false := by rfl) :
    DS X C (.Assign [.Tuple [.Name x px, .Name y py] kt pt] (.Tuple [a, b] k2 pt2) pos) (bPar i j fa) := by
  obtain ⟨t, ht, k⟩ := ha.ex
  refine ⟨_, ps_par hc hN hi hj hij hx hy ht hw hs, fun D' σ H ρ l o hl hi hf q => ?_⟩
  obtain ⟨⟨hds, ρ1⟩, e1, hf⟩ := Option.bind_eq_some_iff.mp hf
  split at hf
  · rename_i d e e2
    cases hf
    refine k σ H ρ l _ hds ρ1 hl hi e1 fun vs H1 l1 a1 i1 => ?_
    obtain ⟨k1, k2⟩ := tms_hits e2 (hats_len a1)
    match vs, k2, k1, i1 with
    | [v, w], _, k1, i1 =>
      refine ⟨v, w, rfl, ?_⟩
      rw [k1] at i1
      have i2 : Items X.K [] H1 ((some v, d) :: (σ.zip ρ1 ++ ((some w, e) :: l))) := i1.perm (.cons _ (show List.Perm ((some w, e) :: (σ.zip ρ1 ++ l)) _ from List.perm_middle.symm))
      refine q _ H1 (by simp) (by simp; omega) ((Agr.set hC).trans (Agr.set hC2)) ?_
      have st : ∀ (σ : Sl) (ρ : Ev) (i : Nat) (v : V) (d : D) (l : List Itm), σ.length = ρ.length → Items X.K [] H1 ((some v, d) :: (σ.zip ρ ++ l)) → Items X.K [] H1 ((σ.set i (some v)).zip (ρ.set i d) ++ l) := fun σ ρ i v d l hl hi => by
        by_cases h : i < σ.length
        · exact set_items hl h hi
        · rw [show σ.set i (some v) = σ from List.set_eq_of_length_le (by omega), show ρ.set i d = ρ from List.set_eq_of_length_le (by omega)]
          exact hi.tail
      have i3 := st σ ρ1 i v d _ (by omega) i2
      exact st _ _ j w e l (by simp; omega) (i3.perm List.perm_middle)
  · cases hf
/-- x op= e -/
def bAug (i : Nat) (g : D → D → Option D) (fe : Ev → Option (Hd × Ev)) : Ev → Option Out := fun ρ => (fe ρ).bind fun p => match ρ[i]? with
  | some .any => none
  | none => none
  | some _ => (g (p.2.getD i .any) (p.1.get p.2)).map fun d => .nx (p.2.set i d)
theorem ds_aug (i : Nat) {x : Str} {e : Expr} {op : Operator} {pos' pos : Pos} {r : R2} {g : D → D → Option D} {fe : Ev → Option (Hd × Ev)} (hN : X.N.Nodup) (ho : PIp X op r) (hg : Op2 X.K r g) (he : DH X e fe) (hC : i ∉ C := by decide) (hi : X.N[i]? = some x := by rfl) (hx : Loc X.env.scope x := by first | exact Or.inl rfl | exact Or.inr rfl)
    (hf : X.fn x = true ∨ X.env.scope.names.lookup x = some .local := by first | exact .inl rfl | exact .inr rfl | assumption) : DS X C (.AugAssign (.Name x pos') op e pos) (bAug i g fe) := by
  obtain ⟨t, ht, k⟩ := he.ex
  refine ⟨_, ps_aug hN hi hx ht ho hf, fun D' σ H ρ l o hl hi hf q => ?_⟩
  obtain ⟨⟨h, ρ1⟩, e1, hf⟩ := Option.bind_eq_some_iff.mp hf
  split at hf
  · cases hf
  · cases hf
  · rename_i d0 hd e0
    obtain ⟨d, e2, hf⟩ := Option.map_eq_some_iff.mp hf
    subst hf
    obtain ⟨v, hv⟩ := slot_val hi hl e0 hd
    have hlt : i < σ.length := (List.getElem?_eq_some_iff.mp hv).1
    refine ⟨v, hv, k σ H ρ l _ h ρ1 hl hi e1 fun w H1 l1 a1 i1 => ?_⟩
    have e3 : ρ1[i]? = some (ρ1[i]'(by omega)) := List.getElem?_eq_getElem (by omega)
    have m1 : (some v, ρ1.getD i .any) ∈ h.its w ++ (σ.zip ρ1 ++ l) := by
      rw [getD_of e3]
      exact List.mem_append_right _ (List.mem_append_left _ (zip_mem hv e3))
    refine hg v w H1 _ _ _ _ d i1 m1 (mem_hd (X := X) (hl := by omega) a1 i1) e2 fun z H2 i2 => ?_
    refine q _ H2 (by simp) (by simp; omega) (Agr.set hC) (set_items (by show σ.length = ρ1.length; have l2 : ρ1.length = ρ.length := l1; omega) hlt ?_)
    exact i2.sub ⟨h.its w, List.perm_middle.symm⟩
end
end Mv
end
section
set_option Elab.async false
set_option linter.all false
set_option maxRecDepth 100000
/-! Loops, comprehensions, the program's own defs. -/
namespace Mv
open PySem PySem.Spec PyProof.Rows L2

/-! ### a loop's turns, by fuel; the loop as such -/
def lp {α β : Type} (step : Nat → α → Option (α ⊕ β)) : Nat → Nat → α → Option β
  | 0, _, _ => none
  | n + 1, k, a => (step k a).bind fun s => match s with
    | .inl b => lp step n (k + 1) b
    | .inr o => some o
theorem lp_more {α β : Type} {step : Nat → α → Option (α ⊕ β)} {o : β} : ∀ {n k : Nat} {a : α}, lp step n k a = some o → ∀ m, lp step (n + m) k a = some o
  | 0, _, _, h, _ => by cases h
  | n + 1, k, a, h, m => by
    rw [Nat.add_right_comm]
    obtain ⟨s, e1, e2⟩ := Option.bind_eq_some_iff.mp h
    refine Option.bind_eq_some_iff.mpr ⟨s, e1, ?_⟩
    cases s with
    | inl b => exact lp_more (n := n) e2 m
    | inr o => exact e2
open Classical in
noncomputable def lrun {α β : Type} (step : Nat → α → Option (α ⊕ β)) (a : α) : Option β := if h : ∃ o n, lp step n 0 a = some o then some h.choose else none
theorem lrun_iff {α β : Type} {step : Nat → α → Option (α ⊕ β)} {a : α} {o : β} : lrun step a = some o ↔ ∃ n, lp step n 0 a = some o := by
  constructor
  · intro h
    unfold lrun at h
    split at h
    · rename_i hx
      cases h
      exact hx.choose_spec
    · cases h
  · rintro ⟨n, h⟩
    have hx : ∃ o n, lp step n 0 a = some o := ⟨o, n, h⟩
    unfold lrun
    rw [dif_pos hx]
    obtain ⟨m, hm⟩ := hx.choose_spec
    have h1 := lp_more h m
    have h2 := lp_more hm n
    rw [Nat.add_comm] at h2
    rw [h1] at h2
    exact h2.symm
/-- a loop by what holds between its turns -/
theorem lp_inv {α β : Type} {step : Nat → α → Option (α ⊕ β)} (P : Nat → α → Prop) (Q : β → Prop) (μ : Nat → α → Nat) (hs : ∀ k a, P k a → ∃ s, step k a = some s ∧ match s with
    | .inl b => P (k + 1) b ∧ μ (k + 1) b < μ k a
    | .inr o => Q o) : ∀ (m k : Nat) (a : α), μ k a < m → P k a → ∃ o, lp step m k a = some o ∧ Q o
  | 0, _, _, h, _ => absurd h (Nat.not_lt_zero _)
  | m + 1, k, a, hm, h => by
    obtain ⟨s, e, h1⟩ := hs k a h
    cases s with
    | inr o => exact ⟨o, by unfold lp; rw [e]; rfl, h1⟩
    | inl b =>
      obtain ⟨o, e2, q⟩ := lp_inv P Q μ hs m (k + 1) b (by omega) h1.1
      exact ⟨o, by unfold lp; rw [e]; exact e2, q⟩
theorem lrun_inv {α β : Type} {step : Nat → α → Option (α ⊕ β)} (P : Nat → α → Prop) (Q : β → Prop) (μ : Nat → α → Nat) {a : α} (h0 : P 0 a) (hs : ∀ k a, P k a → ∃ s, step k a = some s ∧ match s with
    | .inl b => P (k + 1) b ∧ μ (k + 1) b < μ k a
    | .inr o => Q o) : ∃ o, lrun step a = some o ∧ Q o := by
  obtain ⟨o, e, q⟩ := lp_inv P Q μ hs (μ 0 a + 1) 0 a (by omega) h0
  exact ⟨o, lrun_iff.mpr ⟨_, e⟩, q⟩

abbrev Src := Nat → Ev → Option (Option D)
def fStep (it : Src) (g : D → Ev → Option Ev) (body : Ev → Option Out) : Nat → Ev → Option (Ev ⊕ Out) := fun k ρ => (it k ρ).bind fun x => match x with
  | none => some (.inr (.nx ρ))
  | some d => (g d ρ).bind fun ρ1 => (body ρ1).map fun o => match o with
    | .nx ρ2 => .inl ρ2
    | .ct ρ2 => .inl ρ2
    | .bk ρ2 => .inr (.nx ρ2)
    | .rt d ρ2 => .inr (.rt d ρ2)
noncomputable def bFor (fi : Ev → Option (Src × Ev)) (g : D → Ev → Option Ev) (body : Ev → Option Out) : Ev → Option Out := fun ρ => (fi ρ).bind fun p => lrun (fStep p.1 g body) p.2
def wStep (c : Ev → Option (Bool × Ev)) (body : Ev → Option Out) : Nat → Ev → Option (Ev ⊕ Out) := fun _ ρ => (c ρ).bind fun p => if p.1 = true then (body p.2).map fun o => match o with
    | .nx ρ2 => .inl ρ2
    | .ct ρ2 => .inl ρ2
    | .bk ρ2 => .inr (.nx ρ2)
    | .rt d ρ2 => .inr (.rt d ρ2)
  else some (.inr (.nx p.2))
noncomputable def bWhile (c : Ev → Option (Bool × Ev)) (body : Ev → Option Out) : Ev → Option Out := fun ρ => lrun (wStep c body) ρ

section
variable (X : Cx)
def ItOk (C : List Nat) (σ : Sl) (held : List Itm) (J : It) (it : Src) : Prop := ∀ (k : Nat) (σ1 : Sl) (ρ1 : Ev) (H1 : Hp) (l1 : List Itm), Agr C σ σ1 → σ1.length = σ.length → ρ1.length = σ.length → Items X.K [] H1 (σ1.zip ρ1 ++ (held ++ l1)) →
  (it k ρ1 = some none → J.stop k H1) ∧ ∀ d, it k ρ1 = some (some d) → J.go k H1 ∧ ∀ x H2, J.yld k H1 x H2 → Items X.K [] H2 ((some x, d) :: (σ1.zip ρ1 ++ (held ++ l1)))
structure DI (C : List Nat) (tg iter : Expr) (f : Ev → Option (Src × Ev)) : Prop where
  ex : ∃ t, PI X tg iter t ∧ ∀ (σ : Sl) (H : Hp) (ρ : Ev) (l : List Itm) (R : It → Hp → Prop) (it : Src) (ρ' : Ev), σ.length = ρ.length → Items X.K [] H (σ.zip ρ ++ l) → f ρ = some (it, ρ') →
    (∀ J H' held, ρ'.length = ρ.length → Items X.K [] H' (σ.zip ρ' ++ (held ++ l)) → ItOk X C σ held J it → R J H') → t σ H R
end
section
variable {X : Cx} {C : List Nat}
theorem ds_for {tg iter : Expr} {body : List Stmt} {pos : Pos} {fi : Ev → Option (Src × Ev)} {g : D → Ev → Option Ev} {fb : Ev → Option Out} (C2 : List Nat) (hc : X.calm = true) (hi : DI X C2 tg iter fi) (hg : DG X C2 tg g) (hb : DSs X C2 body fb) (hC : ∀ i ∈ C, i ∈ C2 := by decide)
    (hp : PassesOwn (model X.prog X.w) X.A X.env X.xe := by exact PassesOwn.never) (hs : ∀ x, foldedSetIterable iter X.env x = pure x := by intro _; rfl) : DS X C (.For tg iter body [] pos) (bFor fi g fb) := by
  obtain ⟨ti, pi, ki⟩ := hi.ex
  obtain ⟨tg', pg, kg⟩ := hg.ex
  obtain ⟨tb, pb, kb⟩ := hb.ex
  refine ⟨_, ps_for hp hc pi pg pb hs, fun D' σ H ρ l o hl hI hf q => ?_⟩
  obtain ⟨⟨it, ρ0⟩, e1, hf⟩ := Option.bind_eq_some_iff.mp hf
  obtain ⟨n0, hf⟩ := lrun_iff.mp hf
  refine ki σ H ρ l _ it ρ0 hl hI e1 fun J H' held l1 i1 ok => ?_
  refine ⟨fun k m σ1 H1 => ∃ ρ1, Agr C2 σ σ1 ∧ σ1.length = σ.length ∧ ρ1.length = σ.length ∧ Items X.K [] H1 (σ1.zip ρ1 ++ (held ++ l)) ∧ lp (fStep it g fb) m k ρ1 = some o, ⟨n0, ρ0, Agr.refl, rfl, by omega, i1, hf⟩, ?_⟩
  rintro k m σ1 H1 ⟨ρ1, ag, h1, h2, i2, e2⟩
  obtain ⟨ks, kn⟩ := ok k σ1 ρ1 H1 l ag h1 h2 i2
  cases m with
  | zero => cases e2
  | succ m =>
    obtain ⟨s, e3, e4⟩ := Option.bind_eq_some_iff.mp e2
    obtain ⟨x, e5, e6⟩ := Option.bind_eq_some_iff.mp e3
    have agC : Agr C σ σ1 := fun i hi => ag i (hC i hi)
    cases x with
    | none =>
      cases e6
      cases e4
      exact .inl ⟨ks e5, q σ1 H1 h1 h2 agC (i2.sub ⟨held, perm_mid⟩)⟩
    | some d =>
      obtain ⟨kg1, ky⟩ := kn d e5
      obtain ⟨ρ2, e7, e8⟩ := Option.bind_eq_some_iff.mp e6
      obtain ⟨o1, e9, e10⟩ := Option.map_eq_some_iff.mp e8
      refine .inr ⟨kg1, fun σ' H' => ∃ ρ', s = .inl ρ' ∧ Agr C2 σ σ' ∧ σ'.length = σ.length ∧ ρ'.length = σ.length ∧ Items X.K [] H' (σ'.zip ρ' ++ (held ++ l)), ?_, ?_⟩
      · rintro σ' H' ⟨ρ', es, a', b1, b2, i3⟩
        subst es
        exact ⟨m, Nat.lt_succ_self m, ρ', a', b1, b2, i3, e4⟩
      · intro x H2 hy
        have i3 := ky x H2 hy
        refine kg x d σ1 H2 ρ1 (held ++ l) _ ρ2 (by omega) i3 e7 fun σ3 H3 m1 m2 a3 i4 => ?_
        refine kb _ σ3 H3 ρ2 (held ++ l) o1 (by omega) i4 e9 ?_
        cases o1 with
        | nx ρ3 =>
          exact fun σ4 H4 m3 m4 a4 i5 => ⟨ρ3, e10.symm, (ag.trans a3).trans a4, by omega, by omega, i5⟩
        | ct ρ3 =>
          exact fun σ4 H4 m3 m4 a4 i5 => ⟨ρ3, e10.symm, (ag.trans a3).trans a4, by omega, by omega, i5⟩
        | bk ρ3 =>
          subst e10
          cases e4
          exact fun σ4 H4 m3 m4 a4 i5 => q σ4 H4 (by omega) (by omega) (fun i hi => ((ag.trans a3).trans a4) i (hC i hi)) (i5.sub ⟨held, perm_mid⟩)
        | rt d2 ρ3 =>
          subst e10
          cases e4
          exact fun v σ4 H4 m3 m4 a4 i5 => q v σ4 H4 (by omega) (by omega) (fun i hi => ((ag.trans a3).trans a4) i (hC i hi)) (i5.sub ⟨held, (List.Perm.cons _ perm_mid).trans List.perm_middle.symm⟩)
theorem ds_while {c : Expr} {body : List Stmt} {pos : Pos} {fc : Ev → Option (Bool × Ev)} {fb : Ev → Option Out} (hc : DT X c fc) (hb : DSs X C body fb) (hp : PassesOwn (model X.prog X.w) X.A X.env X.xe := by exact PassesOwn.never) :
    DS X C (.While c body [] pos) (bWhile fc fb) := by
  obtain ⟨tc, pc, kc⟩ := hc.ex
  obtain ⟨tb, pb, kb⟩ := hb.ex
  refine ⟨_, ps_while hp pc pb, fun D' σ H ρ l o hl hI hf q => ?_⟩
  obtain ⟨n0, hf⟩ := lrun_iff.mp hf
  refine ⟨fun m σ1 H1 => ∃ ρ1 k, Agr C σ σ1 ∧ σ1.length = σ.length ∧ ρ1.length = σ.length ∧ Items X.K [] H1 (σ1.zip ρ1 ++ l) ∧ lp (wStep fc fb) m k ρ1 = some o, ⟨n0, ρ, 0, Agr.refl, rfl, hl.symm, hI, hf⟩, ?_⟩
  rintro m σ1 H1 ⟨ρ1, k, ag, h1, h2, i2, e2⟩
  cases m with
  | zero => cases e2
  | succ m =>
    obtain ⟨s, e3, e4⟩ := Option.bind_eq_some_iff.mp e2
    obtain ⟨⟨b, ρ2⟩, e5, e6⟩ := Option.bind_eq_some_iff.mp e3
    refine kc σ1 H1 ρ1 l _ b ρ2 (by omega) i2 e5 fun H2 m1 i3 => ?_
    cases b with
    | false =>
      rw [if_neg Bool.false_ne_true] at e6
      rw [if_neg Bool.false_ne_true]
      cases e6
      cases e4
      exact q σ1 H2 h1 (by show ρ2.length = _; omega) ag i3
    | true =>
      rw [if_pos rfl] at e6
      rw [if_pos rfl]
      obtain ⟨o1, e9, e10⟩ := Option.map_eq_some_iff.mp e6
      refine ⟨fun σ' H' => ∃ ρ', s = .inl ρ' ∧ Agr C σ σ' ∧ σ'.length = σ.length ∧ ρ'.length = σ.length ∧ Items X.K [] H' (σ'.zip ρ' ++ l), ?_, ?_⟩
      · rintro σ' H' ⟨ρ', es, a', b1, b2, i4⟩
        subst es
        exact ⟨m, Nat.lt_succ_self m, ρ', k + 1, a', b1, b2, i4, e4⟩
      · refine kb _ σ1 H2 ρ2 l o1 (by omega) i3 e9 ?_
        cases o1 with
        | nx ρ3 => exact fun σ4 H4 m3 m4 a4 i5 => ⟨ρ3, e10.symm, ag.trans a4, by omega, by omega, i5⟩
        | ct ρ3 => exact fun σ4 H4 m3 m4 a4 i5 => ⟨ρ3, e10.symm, ag.trans a4, by omega, by omega, i5⟩
        | bk ρ3 =>
          subst e10
          cases e4
          exact fun σ4 H4 m3 m4 a4 i5 => q σ4 H4 (by omega) (by omega) (ag.trans a4) i5
        | rt d2 ρ3 =>
          subst e10
          cases e4
          exact fun v σ4 H4 m3 m4 a4 i5 => q v σ4 H4 (by omega) (by omega) (ag.trans a4) i5

/-! ### what is walked -/
def itD (d : D) (k : Nat) : Option (Option D) := match d with
  | .lst _ ds => match ds[k]? with
    | some c => if c.frz = true then some (some c) else none
    | none => some none
  | .cst ds => match ds[k]? with
    | some c => if c.frz = true then some (some c) else none
    | none => some none
  | .tup ds => match ds[k]? with
    | some c => if c.frz = true then some (some c) else none
    | none => some none
  | .str x => match x.cps[k]? with
    | some c => some (some (.str ⟨#[c]⟩))
    | none => some none
  | _ => none
def isL : D → Bool
  | .lst _ _ => true
  | .cst _ => true
  | _ => false
def isT : D → Bool
  | .tup _ => true
  | _ => false
def isS : D → Bool
  | .str _ => true
  | _ => false
/-- one kind all the time -/
def itK (kd : D → Bool) (h : Hd) : Src := fun k ρ => if kd (h.get ρ) = true then itD (h.get ρ) k else none
def iSq (f : Ev → Option (Hd × Ev)) : Ev → Option (Src × Ev) := fun ρ => (f ρ).bind fun p => match p.1.get p.2 with
  | .lst _ _ => some (itK isL p.1, p.2)
  | .cst _ => some (itK isL p.1, p.2)
  | .tup _ => some (itK isT p.1, p.2)
  | .str _ => some (itK isS p.1, p.2)
  | _ => none
def iAny (K : Frg) (te : TE) : TI := fun σ H R => te σ H fun x H1 => (∃ a xs, x = .ref a ∧ SqL K H1 a xs ∧ R (Itl K a) H1) ∨ (∃ a xs, x = .ref a ∧ SqT K H1 a xs ∧ R (Itt K a) H1) ∨ ∃ z, x = .str z ∧ R (Its z) H1
theorem pi_any {tg e : Expr} {te : TE} (he : PE X e te) : PI X tg e (iAny X.K te) := by
  constructor
  intro pins s σ H R I h
  refine thn (he.run pins s σ H _ I h) ?_
  rintro v s1 ⟨x, H1, I1, r1, q1⟩
  rcases q1 with ⟨a, xs, rfl, hq, q⟩ | ⟨a, xs, rfl, hq, q⟩ | ⟨z, rfl, q⟩
  · cases r1
    obtain ⟨its, rv, pl, hz⟩ := I1.list hq
    refine wpAny_pyIter_list pl.isList ⟨_, [s1.heap.objs.size], _, _, H1, rfl, ?_, turn_list a s1.heap.objs.size, ?_, ?_, q⟩
    · exact I1.kept (t' := s1.toks) fun b o eb => Heap.get?_push_of_some _ eb
    · exact ⟨_, Heap.get?_push_size _ rfl, rfl, rfl⟩
    · intro b hb
      rw [List.mem_singleton] at hb
      subst hb
      exact I1.fpOk (Nat.le_refl _) (I1.hok.fresh (Nat.le_refl _))
  · cases r1
    obtain ⟨its, rv, pt, hz⟩ := I1.tuple hq
    have ht : s1.heap.IsTuple a its.toArray := pt
    refine wpAny_pyIter_tuple ht ⟨_, [s1.heap.objs.size], _, _, H1, rfl, ?_, turn_tuple a s1.heap.objs.size, ?_, ?_, q⟩
    · exact I1.kept (t' := s1.toks) fun b o eb => Heap.get?_push_of_some _ eb
    · exact ⟨_, Heap.get?_push_size _ rfl, rfl, rfl⟩
    · intro b hb
      rw [List.mem_singleton] at hb
      subst hb
      exact I1.fpOk (Nat.le_refl _) (I1.hok.fresh (Nat.le_refl _))
  · obtain ⟨t, rfl⟩ := r1
    cases ha : z.cps.all (· < 128)
    · refine wpAny_pyIter_wide ha (pi_one (tk := s1.toks) I1 _ (turn_str _ z t "str_iterator" ?_) ?_ q)
      · exact .inr rfl
      · exact ⟨_, Heap.get?_push_size _ rfl, rfl, rfl⟩
    · refine wpAny_pyIter_ascii ha (pi_one (tk := s1.toks) I1 _ (turn_str _ z t "str_ascii_iterator" ?_) ?_ q)
      · exact .inl rfl
      · exact ⟨_, Heap.get?_push_size _ rfl, rfl, rfl⟩
def hsl (C : List Nat) : Hd → Prop
  | .sl i => i ∈ C
  | .tm _ => True
theorem SqL.fun {K : Frg} {P : Program} {w : World} {H : Hp} {a : Addr} {xs ys : List V} (h : H a = some (.lst xs)) (h' : SqL K H a ys) (hK : ∀ o, K.lookup a = some o → False) : xs = ys := by
  rcases h' with (h' | ⟨o, h'⟩) | ⟨o, _, _, h', _⟩
  · rw [h] at h'; cases h'; rfl
  · rw [h] at h'; cases h'
  · exact (hK o h').elim
theorem it_item {K : Frg} {H : Hp} {l : List Itm} {v : V} {d : D} (hi : Items K [] H l) (hm : (some v, d) ∈ l) (k : Nat) :
    (∀ b ds, d = .lst b ds → ∃ a, v = .ref a ∧ (itD d k = some none → (Itl K a).stop k H) ∧ ∀ c, itD d k = some (some c) → (Itl K a).go k H ∧ ∀ x H2, (Itl K a).yld k H x H2 → Items K [] H2 ((some x, c) :: l)) ∧
    (∀ ds, d = .cst ds → ∃ a, v = .ref a ∧ (itD d k = some none → (Itl K a).stop k H) ∧ ∀ c, itD d k = some (some c) → (Itl K a).go k H ∧ ∀ x H2, (Itl K a).yld k H x H2 → Items K [] H2 ((some x, c) :: l)) ∧
    (∀ ds, d = .tup ds → ∃ a, v = .ref a ∧ (itD d k = some none → (Itt K a).stop k H) ∧ ∀ c, itD d k = some (some c) → (Itt K a).go k H ∧ ∀ x H2, (Itt K a).yld k H x H2 → Items K [] H2 ((some x, c) :: l)) ∧
    (∀ z, d = .str z → v = .str z ∧ (itD d k = some none → (Its z).stop k H) ∧ ∀ c, itD d k = some (some c) → (Its z).go k H ∧ ∀ x H2, (Its z).yld k H x H2 → Items K [] H2 ((some x, c) :: l)) := by
  have key : ∀ (ds : List D) (xs : List V) (P : Prop) (c : D), xs.length = ds.length → (match ds[k]? with
    | some c => if c.frz = true then some (some c) else none
    | none => some (none : Option D)) = some (some c) → ds[k]? = some c ∧ c.frz = true ∧ ∃ x, xs[k]? = some x := fun ds xs P c hl h => by
    split at h
    · rename_i c' e
      split at h
      · rename_i z
        cases h
        have : k < xs.length := by rw [hl]; exact (List.getElem?_eq_some_iff.mp e).1
        exact ⟨e, z, _, List.getElem?_eq_getElem this⟩
      · cases h
    · cases h
  have stp : ∀ (ds : List D) (xs : List V), xs.length = ds.length → (match ds[k]? with
    | some c => if c.frz = true then some (some c) else none
    | none => some (none : Option D)) = some none → xs.length ≤ k := fun ds xs hl h => by
    split at h
    · split at h <;> cases h
    · rename_i e
      rw [hl]
      exact List.getElem?_eq_none_iff.mp e
  refine ⟨?_, ?_, ?_, ?_⟩
  · rintro b ds rfl
    obtain ⟨a, xs, rfl, hs, hl, _, hd⟩ := hi.list hm
    refine ⟨a, rfl, fun h => ⟨xs, SqL.of hs, stp ds xs hl h⟩, fun c h => ?_⟩
    obtain ⟨e1, z, x, e2⟩ := key ds xs True c hl h
    refine ⟨⟨xs, x, SqL.of hs, e2⟩, fun y H2 hy => ?_⟩
    obtain ⟨rfl, hy⟩ := hy
    exact hd k c y e1 (hy xs (SqL.of hs)) z
  · rintro ds rfl
    obtain ⟨a, xs, rfl, hs, hl, _, hd⟩ := hi.const hm
    refine ⟨a, rfl, fun h => ⟨xs, hs, stp ds xs hl h⟩, fun c h => ?_⟩
    obtain ⟨e1, z, x, e2⟩ := key ds xs True c hl h
    refine ⟨⟨xs, x, hs, e2⟩, fun y H2 hy => ?_⟩
    obtain ⟨rfl, hy⟩ := hy
    exact hd k c y e1 (hy xs hs) z
  · rintro ds rfl
    obtain ⟨a, xs, rfl, hs, hl, _, hd⟩ := hi.tuple hm
    refine ⟨a, rfl, fun h => ⟨xs, hs, stp ds xs hl h⟩, fun c h => ?_⟩
    obtain ⟨e1, z, x, e2⟩ := key ds xs True c hl h
    refine ⟨⟨xs, x, hs, e2⟩, fun y H2 hy => ?_⟩
    obtain ⟨rfl, hy⟩ := hy
    exact hd k c y e1 (hy xs hs) z
  · rintro z rfl
    have hv : v = .str z := hi.view hm
    refine ⟨hv, fun h => ?_, fun c h => ?_⟩
    · show z.cps.size ≤ k
      replace h : (match z.cps[k]? with
        | some c => some (some (D.str ⟨#[c]⟩))
        | none => some (none : Option D)) = some none := h
      split at h
      · cases h
      · rename_i e
        simpa using e
    · replace h : (match z.cps[k]? with
        | some c => some (some (D.str ⟨#[c]⟩))
        | none => some (none : Option D)) = some (some c) := h
      split at h
      · rename_i u e
        cases h
        have hk : k < z.cps.size := by
          rw [Array.getElem?_eq_some_iff] at e
          exact e.1
        refine ⟨hk, fun x H2 hy => ?_⟩
        obtain ⟨rfl, w, e2, rfl⟩ := hy
        rw [e] at e2
        cases e2
        exact hi.add rfl fun _ _ => rfl
      · cases h
theorem di_any {tg e : Expr} {f : Ev → Option (Hd × Ev)} (h : DH X e f) (hC : ∀ ρ hd ρ', f ρ = some (hd, ρ') → hsl C hd) : DI X C tg e (iSq f) := by
  obtain ⟨t, ht, k⟩ := h.ex
  refine ⟨_, pi_any ht, fun σ H ρ l R it ρ' hl hi hf q => ?_⟩
  obtain ⟨⟨hd, ρ1⟩, e1, hf⟩ := Option.bind_eq_some_iff.mp hf
  refine k σ H ρ l _ hd ρ1 hl hi e1 fun v H1 l1 a1 i1 => ?_
  have hh := hC ρ hd ρ1 e1
  have m1 := mem_hd (X := X) (hl := by omega) a1 i1
  -- at a later turn the operand is still there
  have late : ∀ (σ1 : Sl) (ρ2 : Ev) (H2 : Hp) (l1 : List Itm), Agr C σ σ1 → σ1.length = σ.length → ρ2.length = σ.length → Items X.K [] H2 (σ1.zip ρ2 ++ (hd.its v ++ l1)) → (some v, hd.get ρ2) ∈ σ1.zip ρ2 ++ (hd.its v ++ l1) := fun σ1 ρ2 H2 l1 ag h1 h2 i2 => by
    cases hd with
    | tm d => simp [Hd.its, Hd.get]
    | sl i =>
      have a1' : σ[i]? = some (some v) := a1
      have a2 : σ1[i]? = some (some v) := by rw [ag i hh]; exact a1'
      have h3 : i < ρ2.length := by have := (List.getElem?_eq_some_iff.mp a2).1; omega
      have h4 : ρ2[i]? = some ρ2[i] := List.getElem?_eq_getElem h3
      show (some v, ρ2.getD i .any) ∈ _
      rw [getD_of h4]
      exact List.mem_append_left _ (zip_mem a2 h4)
  have i1' : Items X.K [] H1 (σ.zip ρ1 ++ (hd.its v ++ l)) := i1.perm perm_mid
  have item := fun (σ1 : Sl) (ρ2 : Ev) (H2 : Hp) (l1 : List Itm) (k : Nat) (ag : Agr C σ σ1) (h1 : σ1.length = σ.length) (h2 : ρ2.length = σ.length) (i2 : Items X.K [] H2 (σ1.zip ρ2 ++ (hd.its v ++ l1))) => it_item i2 (late σ1 ρ2 H2 l1 ag h1 h2 i2) k
  have i1' : Items X.K [] H1 (σ.zip ρ1 ++ (hd.its v ++ l)) := i1.perm perm_mid
  -- a list
  have okL : ∀ a xs, v = .ref a → SqL X.K H1 a xs → it = itK isL hd → ρ' = ρ1 → iAny X.K t σ H R → True := fun _ _ _ _ _ _ _ => trivial
  have doL : ∀ a xs, v = .ref a → SqL X.K H1 a xs → it = itK isL hd → ρ1 = ρ' → R (Itl X.K a) H1 := by
    rintro a xs rfl hs rfl rfl
    refine q _ H1 (hd.its (.ref a)) l1 i1' fun k σ1 ρ2 H2 l2 ag h1 h2 i2 => ?_
    obtain ⟨it1, it2, it3, it4⟩ := item σ1 ρ2 H2 l2 k ag h1 h2 i2
    unfold itK
    cases e : hd.get ρ2 with
    | lst b ds =>
      obtain ⟨a', ev, p1, p2⟩ := it1 b ds e
      cases ev
      rw [e] at p1 p2
      exact ⟨fun h => p1 h, fun d h => p2 d h⟩
    | cst ds =>
      obtain ⟨a', ev, p1, p2⟩ := it2 ds e
      cases ev
      rw [e] at p1 p2
      exact ⟨fun h => p1 h, fun d h => p2 d h⟩
    | _ => exact ⟨fun h => (by cases h), fun d h => (by cases h)⟩
  have doT : ∀ a xs, v = .ref a → SqT X.K H1 a xs → it = itK isT hd → ρ1 = ρ' → R (Itt X.K a) H1 := by
    rintro a xs rfl hs rfl rfl
    refine q _ H1 (hd.its (.ref a)) l1 i1' fun k σ1 ρ2 H2 l2 ag h1 h2 i2 => ?_
    obtain ⟨it1, it2, it3, it4⟩ := item σ1 ρ2 H2 l2 k ag h1 h2 i2
    unfold itK
    cases e : hd.get ρ2 with
    | tup ds =>
      obtain ⟨a', ev, p1, p2⟩ := it3 ds e
      cases ev
      rw [e] at p1 p2
      exact ⟨fun h => p1 h, fun d h => p2 d h⟩
    | _ => exact ⟨fun h => (by cases h), fun d h => (by cases h)⟩
  have doS : ∀ z, v = .str z → it = itK isS hd → ρ1 = ρ' → R (Its z) H1 := by
    rintro z rfl rfl rfl
    refine q _ H1 (hd.its (.str z)) l1 i1' fun k σ1 ρ2 H2 l2 ag h1 h2 i2 => ?_
    obtain ⟨it1, it2, it3, it4⟩ := item σ1 ρ2 H2 l2 k ag h1 h2 i2
    unfold itK
    cases e : hd.get ρ2 with
    | str z' =>
      obtain ⟨ev, p1, p2⟩ := it4 z' e
      cases ev
      rw [e] at p1 p2
      exact ⟨fun h => p1 h, fun d h => p2 d h⟩
    | _ => exact ⟨fun h => (by cases h), fun d h => (by cases h)⟩
  show (∃ a xs, v = .ref a ∧ SqL X.K H1 a xs ∧ R (Itl X.K a) H1) ∨ (∃ a xs, v = .ref a ∧ SqT X.K H1 a xs ∧ R (Itt X.K a) H1) ∨ ∃ z, v = .str z ∧ R (Its z) H1
  replace hf : (match hd.get ρ1 with
    | .lst _ _ => some (itK isL hd, ρ1)
    | .cst _ => some (itK isL hd, ρ1)
    | .tup _ => some (itK isT hd, ρ1)
    | .str _ => some (itK isS hd, ρ1)
    | _ => none) = some (it, ρ') := hf
  cases e : hd.get ρ1 with
  | lst b ds =>
    rw [e] at hf m1
    obtain ⟨a, xs, ev, hs, _⟩ := i1.list m1
    exact .inl ⟨a, xs, ev, SqL.of hs, doL a xs ev (SqL.of hs) (by cases hf; rfl) (by cases hf; rfl)⟩
  | cst ds =>
    rw [e] at hf m1
    obtain ⟨a, xs, ev, hs, _⟩ := i1.const m1
    exact .inl ⟨a, xs, ev, hs, doL a xs ev hs (by cases hf; rfl) (by cases hf; rfl)⟩
  | tup ds =>
    rw [e] at hf m1
    obtain ⟨a, xs, ev, hs, _⟩ := i1.tuple m1
    exact .inr (.inl ⟨a, xs, ev, hs, doT a xs ev hs (by cases hf; rfl) (by cases hf; rfl)⟩)
  | str z =>
    rw [e] at hf m1
    have ev : v = .str z := i1.view m1
    exact .inr (.inr ⟨z, ev, doS z ev (by cases hf; rfl) (by cases hf; rfl)⟩)
  | _ => rw [e] at hf; cases hf
/-- for .. in range(..) -/
def itR (lo c : Int) (n : Nat) : Src := fun k _ => if k < n then some (some (.int (lo + (k : Int) * c))) else some none
def iRg1 (fa : Ev → Option (List Hd × Ev)) : Ev → Option (Src × Ev) := fun ρ => (fa ρ).bind fun p => match p.1.map (Hd.get p.2) with
  | [.int j] => if -(2 ^ 62) ≤ j ∧ j < 2 ^ 62 then some (itR 0 1 j.toNat, p.2) else none
  | _ => none
def iRg2 (fa : Ev → Option (List Hd × Ev)) : Ev → Option (Src × Ev) := fun ρ => (fa ρ).bind fun p => match p.1.map (Hd.get p.2) with
  | [.int i, .int j] => if -(2 ^ 62) ≤ i ∧ i < 2 ^ 62 ∧ -(2 ^ 62) ≤ j ∧ j < 2 ^ 62 then some (itR i 1 (j - i).toNat, p.2) else none
  | _ => none
theorem itR_ok {C : List Nat} {σ : Sl} {lo : Int} {n : Nat} : ItOk X C σ [] (Itr lo n) (itR lo 1 n) := fun k σ1 ρ1 H1 l1 ag h1 h2 i1 => by
  unfold itR
  by_cases hk : k < n
  · rw [if_pos hk]
    refine ⟨fun h => (by cases h), fun d h => ?_⟩
    cases h
    refine ⟨hk, fun x H2 hy => ?_⟩
    obtain ⟨rfl, rfl⟩ := hy
    rw [Int.mul_one]
    exact i1.add rfl fun _ _ => rfl
  · rw [if_neg hk]
    exact ⟨fun _ => Nat.le_of_not_lt hk, fun d h => (by cases h)⟩
theorem di_range1 {a : Expr} {tg : Expr} {fa : Ev → Option (List Hd × Ev)} {p pos : Pos} (hg : Gl X "range") (hm : X.mg "range" = none) (ha : DA X [a] fa) (hs : starEach [a] X.env = [(false, eval a X.env)] := by rfl) : DI X C tg (.Call (.Name "range" p) [a] [] pos) (iRg1 fa) := by
  obtain ⟨t, ht, k⟩ := ha.ex
  refine ⟨_, pi_range1 hg hm ht hs, fun σ H ρ l R it ρ' hl hi hf q => ?_⟩
  obtain ⟨⟨hds, ρ1⟩, e1, hf⟩ := Option.bind_eq_some_iff.mp hf
  refine k σ H ρ l _ hds ρ1 hl hi e1 fun vs H1 l1 a1 i1 => ?_
  have hm := mem_hits (K := X.K) (H := H1) (ρ := ρ1) (by omega) (l := l) a1
  replace hf : (match hds.map (Hd.get ρ1) with
    | [.int j] => if -(2 ^ 62) ≤ j ∧ j < 2 ^ 62 then some (itR 0 1 j.toNat, ρ1) else none
    | _ => none) = some (it, ρ') := hf
  split at hf
  · rename_i j e
    rw [e] at hm
    cases hm with
    | cons m1 mr =>
      cases mr
      rename_i x
      have hx : x = .int j := i1.view m1
      subst hx
      split at hf
      · rename_i hj
        cases hf
        refine ⟨j, rfl, hj.1, hj.2, q (Itr 0 j.toNat) H1 [] l1 ?_ itR_ok⟩
        exact i1.drop
      · cases hf
  · cases hf
theorem di_range2 {a b : Expr} {tg : Expr} {fa : Ev → Option (List Hd × Ev)} {p pos : Pos} (hg : Gl X "range") (hm : X.mg "range" = none) (ha : DA X [a, b] fa) (hs : starEach [a, b] X.env = [(false, eval a X.env), (false, eval b X.env)] := by rfl) (hs2 : starEach [b] X.env = [(false, eval b X.env)] := by rfl) :
    DI X C tg (.Call (.Name "range" p) [a, b] [] pos) (iRg2 fa) := by
  obtain ⟨t, ht, k⟩ := ha.ex
  refine ⟨_, pi_range2 hg hm ht hs hs2, fun σ H ρ l R it ρ' hl hi hf q => ?_⟩
  obtain ⟨⟨hds, ρ1⟩, e1, hf⟩ := Option.bind_eq_some_iff.mp hf
  refine k σ H ρ l _ hds ρ1 hl hi e1 fun vs H1 l1 a1 i1 => ?_
  have hm := mem_hits (K := X.K) (H := H1) (ρ := ρ1) (by omega) (l := l) a1
  replace hf : (match hds.map (Hd.get ρ1) with
    | [.int i, .int j] => if -(2 ^ 62) ≤ i ∧ i < 2 ^ 62 ∧ -(2 ^ 62) ≤ j ∧ j < 2 ^ 62 then some (itR i 1 (j - i).toNat, ρ1) else none
    | _ => none) = some (it, ρ') := hf
  split at hf
  · rename_i i j e
    rw [e] at hm
    cases hm with
    | cons m1 mr =>
      cases mr with
      | cons m2 mr =>
        cases mr
        rename_i x y
        have hx : x = .int i := i1.view m1
        have hy : y = .int j := i1.view m2
        subst hx hy
        split at hf
        · rename_i hj
          cases hf
          refine ⟨i, j, rfl, hj, q (Itr i (j - i).toNat) H1 [] l1 ?_ itR_ok⟩
          exact i1.drop
        · cases hf
  · cases hf
end
end Mv
end
section
set_option Elab.async false
set_option linter.all false
set_option maxRecDepth 100000
/-! Comprehensions; the program's own defs. -/
namespace Mv
open PySem PySem.Spec PyProof.Rows L2

section
variable {X : Cx} {C : List Nat}
/-! ### a comprehension's own names -/
def wipeD (ρ : Ev) : List Nat → Ev
  | [] => ρ
  | v :: vs => (wipeD ρ vs).set v .any
def hold (σ : Sl) (ρ : Ev) : List Nat → List Itm
  | [] => []
  | v :: vs => ((σ[v]?).getD none, ρ.getD v .any) :: hold σ ρ vs
/-- the outer data at those places again -/
def unw (ρ : Ev) : List Nat → Ev → Ev
  | [], ρ2 => ρ2
  | v :: vs, ρ2 => unw ρ vs (ρ2.set v (ρ.getD v .any))
def unwS (σ : Sl) : List Nat → Sl → Sl
  | [], σ2 => σ2
  | v :: vs, σ2 => unwS σ vs (σ2.set v ((σ[v]?).getD none))
theorem wipeD_len (ρ : Ev) : ∀ vs, (wipeD ρ vs).length = ρ.length
  | [] => rfl
  | v :: vs => by unfold wipeD; rw [List.length_set, wipeD_len ρ vs]
theorem unw_len (ρ : Ev) : ∀ vs ρ2, (unw ρ vs ρ2).length = ρ2.length
  | [], _ => rfl
  | v :: vs, ρ2 => by unfold unw; rw [unw_len ρ vs]; simp
theorem unwS_len (σ : Sl) : ∀ vs σ2, (unwS σ vs σ2).length = σ2.length
  | [], _ => rfl
  | v :: vs, σ2 => by unfold unwS; rw [unwS_len σ vs]; simp
theorem wipe_get (σ : Sl) {i : Nat} : ∀ {vs : List Nat}, i ∉ vs → (wipe σ vs)[i]? = σ[i]?
  | [], _ => rfl
  | v :: vs, h => by
    unfold wipe
    have hne : v ≠ i := fun z => h (by simp [z])
    rw [List.getElem?_set_ne hne]
    exact wipe_get σ fun z => h (by simp [z])
theorem wipeD_get (ρ : Ev) {i : Nat} : ∀ {vs : List Nat}, i ∉ vs → (wipeD ρ vs)[i]? = ρ[i]?
  | [], _ => rfl
  | v :: vs, h => by
    unfold wipeD
    have hne : v ≠ i := fun z => h (by simp [z])
    rw [List.getElem?_set_ne hne]
    exact wipeD_get ρ fun z => h (by simp [z])
theorem wipe_items {K : Frg} {E : List Addr} {H : Hp} {σ : Sl} {ρ : Ev} (hl : σ.length = ρ.length) : ∀ {vs : List Nat} {l : List Itm}, vs.Nodup → (∀ v ∈ vs, v < σ.length) → Items K E H (σ.zip ρ ++ l) → Items K E H ((wipe σ vs).zip (wipeD ρ vs) ++ (hold σ ρ vs ++ l))
  | [], _, _, _, h => h
  | v :: vs, l, nd, hv, h => by
    obtain ⟨nd1, nd2⟩ := List.nodup_cons.mp nd
    have ih := wipe_items hl nd2 (fun w hw => hv w (by simp [hw])) h
    have hlt : v < σ.length := hv v (by simp)
    have e1 : (wipe σ vs)[v]? = some σ[v] := by rw [wipe_get σ nd1]; exact List.getElem?_eq_getElem hlt
    have e2 : (wipeD ρ vs)[v]? = some (ρ[v]'(by omega)) := by rw [wipeD_get ρ nd1]; exact List.getElem?_eq_getElem (by omega)
    obtain ⟨A, B, k1, _, k3⟩ := zip_at e1 e2
    unfold wipe wipeD hold
    rw [k3]
    rw [k1] at ih
    have e3 : (σ[v]?).getD none = σ[v] := by rw [List.getElem?_eq_getElem hlt]; rfl
    have e4 : ρ.getD v .any = ρ[v]'(by omega) := getD_of (List.getElem?_eq_getElem (by omega))
    rw [e3, e4]
    have h1 := Items.perm1 ih
    have h2 : Items K E H ((none, D.any) :: ((σ[v], ρ[v]'(by omega)) :: (A ++ B ++ (hold σ ρ vs ++ l)))) := h1.blank
    have h3 : Items K E H ((none, D.any) :: (A ++ B ++ ((σ[v], ρ[v]'(by omega)) :: (hold σ ρ vs ++ l)))) := h2.perm (.cons _ List.perm_middle.symm)
    exact Items.perm2 h3
theorem unwipe_items {K : Frg} {E : List Addr} {H : Hp} {σ : Sl} {ρ : Ev} : ∀ {vs : List Nat} {σ2 : Sl} {ρ2 : Ev} {l : List Itm}, σ2.length = ρ2.length → (∀ v ∈ vs, v < σ2.length) → Items K E H (σ2.zip ρ2 ++ (hold σ ρ vs ++ l)) → Items K E H ((unwS σ vs σ2).zip (unw ρ vs ρ2) ++ l)
  | [], _, _, _, _, _, h => h
  | v :: vs, σ2, ρ2, l, hl, hv, h => by
    unfold unwS unw
    refine unwipe_items (by simp [hl]) (fun w hw => by rw [List.length_set]; exact hv w (by simp [hw])) ?_
    have h1 : Items K E H (((σ[v]?).getD none, ρ.getD v .any) :: (σ2.zip ρ2 ++ (hold σ ρ vs ++ l))) := h.perm List.perm_middle
    exact set_items hl (hv v (by simp)) h1
theorem unwS_get (σ : Sl) {i : Nat} : ∀ {vs : List Nat} {σ2 : Sl}, i ∉ vs → (unwS σ vs σ2)[i]? = σ2[i]?
  | [], _, _ => rfl
  | v :: vs, σ2, h => by
    unfold unwS
    have hne : v ≠ i := fun z => h (by simp [z])
    rw [unwS_get σ (fun z => h (by simp [z])), List.getElem?_set_ne hne]
theorem unwS_own (σ : Sl) {i : Nat} : ∀ {vs : List Nat} {σ2 : Sl}, i ∈ vs → i < σ.length → σ2.length = σ.length → (unwS σ vs σ2)[i]? = σ[i]?
  | [], _, h, _, _ => by cases h
  | v :: vs, σ2, h, hi, hl => by
    unfold unwS
    by_cases hm : i ∈ vs
    · exact unwS_own σ hm hi (by simp [hl])
    · have e : i = v := by simpa [hm] using h
      subst e
      rw [unwS_get σ hm, List.getElem?_set_self (by omega), List.getElem?_eq_getElem hi]
      rfl
theorem unwS_eq {σ σ2 : Sl} {vs : List Nat} (hl : σ2.length = σ.length) (h : ∀ i, i ∉ vs → σ2[i]? = σ[i]?) : unwS σ vs σ2 = σ := by
  apply List.ext_getElem?
  intro i
  by_cases hm : i ∈ vs
  · by_cases hi : i < σ.length
    · exact unwS_own σ hm hi hl
    · rw [List.getElem?_eq_none (by rw [unwS_len]; omega), List.getElem?_eq_none (by omega)]
  · rw [unwS_get σ hm]
    exact h i hm
theorem wipe_same {σ σ2 : Sl} : ∀ {vs : List Nat}, σ2.length = σ.length → (∀ i, i ∉ vs → σ2[i]? = σ[i]?) → wipe σ2 vs = wipe σ vs := by
  have get_in : ∀ (σ : Sl) (vs : List Nat) (i : Nat), i ∈ vs → i < σ.length → (wipe σ vs)[i]? = some none := fun σ vs => by
    induction vs with
    | nil => intro i h; cases h
    | cons v vs ih =>
      intro i h hi
      unfold wipe
      by_cases e : v = i
      · subst e
        rw [List.getElem?_set_self (by rw [wipe_length]; exact hi)]
      · rw [List.getElem?_set_ne e]
        exact ih i (by simpa [Ne.symm e] using h) hi
  intro vs hl h
  apply List.ext_getElem?
  intro i
  by_cases hm : i ∈ vs
  · by_cases hi : i < σ.length
    · rw [get_in σ vs i hm hi, get_in σ2 vs i hm (by omega)]
    · rw [List.getElem?_eq_none (by rw [wipe_length]; omega), List.getElem?_eq_none (by rw [wipe_length]; omega)]
  · rw [wipe_get σ hm, wipe_get σ2 hm]
    exact h i hm

/-! ### [elt for tg in iter if test] -/
def cStep (vs : List Nat) (it : Src) (g : D → Ev → Option Ev) (test : Ev → Option (Bool × Ev)) (elt : Ev → Option (D × Ev)) : Nat → List D × Ev → Option ((List D × Ev) ⊕ (D × Ev)) := fun k a => (it k a.2).bind fun x => match x with
  | none => some (.inr (.lst true a.1, a.2))
  | some d => (g d (wipeD a.2 vs)).bind fun ρ1 => (test ρ1).bind fun p => if p.1 = true then (elt p.2).bind fun q => if a.1.length < 16777216 then some (.inl (a.1 ++ [q.1], unw a.2 vs q.2)) else none
    else some (.inl (a.1, unw a.2 vs p.2))
noncomputable def eLc (vs : List Nat) (fi : Ev → Option (Src × Ev)) (g : D → Ev → Option Ev) (test : Ev → Option (Bool × Ev)) (elt : Ev → Option (D × Ev)) : Ev → Option (D × Ev) := fun ρ => (fi ρ).bind fun p => lrun (cStep vs p.1 g test elt) ([], p.2)
def tAll : Ev → Option (Bool × Ev) := fun ρ => some (true, ρ)
structure DTs (X : Cx) (ifs : List Expr) (f : Ev → Option (Bool × Ev)) : Prop where
  ex : ∃ t, PTs X ifs t ∧ ∀ (σ : Sl) (H : Hp) (ρ : Ev) (l : List Itm) (Q : Bool → Hp → Prop) (r : Bool) (ρ' : Ev), σ.length = ρ.length → Items X.K [] H (σ.zip ρ ++ l) → f ρ = some (r, ρ') →
    (∀ H', ρ'.length = ρ.length → Items X.K [] H' (σ.zip ρ' ++ l) → Q r H') → t σ H Q
theorem dts_nil : DTs X [] tAll := ⟨_, pts_nil, fun σ H ρ l Q r ρ' hl hi hf q => by cases hf; exact q H rfl hi⟩
theorem dts_one {c : Expr} {f : Ev → Option (Bool × Ev)} (h : DT X c f) : DTs X [c] f := by
  obtain ⟨t, ht, k⟩ := h.ex
  exact ⟨_, pts_one ht, k⟩
/-! the reading that stands for all -/
def canE (K : Frg) (f : Ev → Option (D × Ev)) : TE := fun σ H Q => ∃ (ρ : Ev) (l : List Itm) (r : D) (ρ' : Ev), σ.length = ρ.length ∧ Items K [] H (σ.zip ρ ++ l) ∧ f ρ = some (r, ρ') ∧
  ∀ v H', ρ'.length = ρ.length → Items K [] H' ((some v, r) :: (σ.zip ρ' ++ l)) → Q v H'
def canT (K : Frg) (f : Ev → Option (Bool × Ev)) : TT := fun σ H Q => ∃ (ρ : Ev) (l : List Itm) (r : Bool) (ρ' : Ev), σ.length = ρ.length ∧ Items K [] H (σ.zip ρ ++ l) ∧ f ρ = some (r, ρ') ∧
  ∀ H', ρ'.length = ρ.length → Items K [] H' (σ.zip ρ' ++ l) → Q r H'
def canG (K : Frg) (C : List Nat) (f : D → Ev → Option Ev) : TG := fun v σ H Q => ∃ (d : D) (ρ : Ev) (l : List Itm) (ρ' : Ev), σ.length = ρ.length ∧ Items K [] H ((some v, d) :: (σ.zip ρ ++ l)) ∧ f d ρ = some ρ' ∧
  ∀ σ' H', σ'.length = σ.length → ρ'.length = σ.length → Agr C σ σ' → Items K [] H' (σ'.zip ρ' ++ l) → Q σ' H'
theorem DE.can {e : Expr} {f : Ev → Option (D × Ev)} (h : DE X e f) : PE X e (canE X.K f) := by
  obtain ⟨t, ht, k⟩ := h.ex
  exact ⟨fun pins s σ H Q I ⟨ρ, l, r, ρ', h1, h2, h3, h4⟩ => ht.run pins s σ H Q I (k σ H ρ l Q r ρ' h1 h2 h3 h4)⟩
theorem DTs.can {ifs : List Expr} {f : Ev → Option (Bool × Ev)} (h : DTs X ifs f) : PTs X ifs (canT X.K f) := by
  obtain ⟨t, ht, k⟩ := h.ex
  exact ⟨fun pins s σ H Q I ⟨ρ, l, r, ρ', h1, h2, h3, h4⟩ => ht.run pins s σ H Q I (k σ H ρ l Q r ρ' h1 h2 h3 h4)⟩
theorem DG.can {tg : Expr} {f : D → Ev → Option Ev} (h : DG X C tg f) : PG X tg (canG X.K C f) := by
  obtain ⟨t, ht, k⟩ := h.ex
  exact ⟨fun pins s σ H v u Q I hr ⟨d, ρ, l, ρ', h1, h2, h3, h4⟩ => ht.run pins s σ H v u Q I hr (k v d σ H ρ l Q ρ' h1 h2 h3 h4)⟩
theorem PE.len {e : Expr} {t : TE} (h : PE X e t) : PE X e (fun σ H Q => σ.length = X.N.length → t σ H Q) := ⟨fun pins s σ H Q I hw => h.run pins s σ H Q I (hw I.len)⟩
theorem PS.len {st : Stmt} {t : TS} (h : PS X st t) : PS X st (fun D' σ H => σ.length = X.N.length → t D' σ H) := ⟨fun pins s σ H D' I hw => h.run pins s σ H D' I (hw I.len)⟩
theorem lc_ok {fi : Ev → Option (Src × Ev)} {g : D → Ev → Option Ev} {test : Ev → Option (Bool × Ev)} {fe : Ev → Option (D × Ev)} {Cb : List Nat} {vs : List Nat} {n : Nat} {wi : TI}
    (hn : X.N.length = n) (nd : vs.Nodup) (hv : ∀ v ∈ vs, v < n) (hCb : ∀ i, i < n → i ∉ vs → i ∈ Cb)
    (ki : ∀ (σ : Sl) (H : Hp) (ρ : Ev) (l : List Itm) (R : It → Hp → Prop) (it : Src) (ρ' : Ev), σ.length = ρ.length → Items X.K [] H (σ.zip ρ ++ l) → fi ρ = some (it, ρ') →
      (∀ J H' held, ρ'.length = ρ.length → Items X.K [] H' (σ.zip ρ' ++ (held ++ l)) → ItOk X C σ held J it → R J H') → wi σ H R)
    (σ : Sl) (H : Hp) (ρ : Ev) (l : List Itm) (Q : VK) (r : D) (ρ' : Ev) (hσ : σ.length = n) (hl : σ.length = ρ.length) (hI : Items X.K [] H (σ.zip ρ ++ l)) (hf : eLc vs fi g test fe ρ = some (r, ρ'))
    (q : ∀ v H', ρ'.length = ρ.length → Items X.K [] H' ((some v, r) :: (σ.zip ρ' ++ l)) → Q v H') : tLc wi (canG X.K Cb g) (canT X.K test) (canE X.K fe) vs σ H Q := by
  obtain ⟨⟨it, ρ0⟩, e1, hf⟩ := Option.bind_eq_some_iff.mp hf
  obtain ⟨n0, hf⟩ := lrun_iff.mp hf
  refine ki σ H ρ l _ it ρ0 hl hI e1 fun J H1 held l1 i1 ok A hA => ?_
  refine ⟨fun k m H2 => ∃ acc ρ1, ρ1.length = σ.length ∧ Items X.K [] H2 ((some (.ref A), .lst true acc) :: (σ.zip ρ1 ++ (held ++ l))) ∧ lp (cStep vs it g test fe) m k (acc, ρ1) = some (r, ρ'), ⟨n0, [], ρ0, by omega, Items.new hA rfl i1 (fun b hb => by cases hb), hf⟩, ?_⟩
  rintro k m H2 ⟨acc, ρ1, h2, i2, e2⟩
  have i2' : Items X.K [] H2 (σ.zip ρ1 ++ (held ++ ((some (.ref A), .lst true acc) :: l))) := i2.perm (by
    refine List.Perm.trans List.perm_middle.symm ?_
    exact List.Perm.append_left _ List.perm_middle.symm)
  obtain ⟨ks, kn⟩ := ok k σ ρ1 H2 _ Agr.refl rfl h2 i2'
  cases m with
  | zero => cases e2
  | succ m =>
    obtain ⟨s, e3, e4⟩ := Option.bind_eq_some_iff.mp e2
    obtain ⟨x, e5, e6⟩ := Option.bind_eq_some_iff.mp e3
    cases x with
    | none =>
      cases e6
      cases e4
      exact .inl ⟨ks e5, q _ H2 (by show ρ1.length = _; omega) (i2.sub ⟨held, (List.Perm.cons _ perm_mid).trans List.perm_middle.symm⟩)⟩
    | some d =>
      obtain ⟨kg1, ky⟩ := kn d e5
      obtain ⟨ρ2, e7, e8⟩ := Option.bind_eq_some_iff.mp e6
      obtain ⟨⟨b, ρ3⟩, e9, e10⟩ := Option.bind_eq_some_iff.mp e8
      refine .inr ⟨kg1, fun H' => ∃ acc' ρ4, s = .inl (acc', ρ4) ∧ ρ4.length = σ.length ∧ Items X.K [] H' ((some (.ref A), .lst true acc') :: (σ.zip ρ4 ++ (held ++ l))), ?_, ?_⟩
      · rintro H' ⟨acc', ρ4, es, b1, i3⟩
        subst es
        exact ⟨m, Nat.lt_succ_self m, acc', ρ4, b1, i3, e4⟩
      · intro x H3 hy
        have i3 := ky x H3 hy
        have i4 : Items X.K [] H3 (σ.zip ρ1 ++ ((some x, d) :: (held ++ ((some (.ref A), .lst true acc) :: l)))) := i3.perm List.perm_middle.symm
        have i5 := wipe_items (vs := vs) (by omega) nd (fun v hv' => by rw [hσ]; exact hv v hv') i4
        have i6 : Items X.K [] H3 ((some x, d) :: ((wipe σ vs).zip (wipeD ρ1 vs) ++ (hold σ ρ1 vs ++ (held ++ ((some (.ref A), .lst true acc) :: l))))) := i5.perm (by
          refine List.Perm.trans (List.Perm.append_left _ List.perm_middle) ?_
          exact List.perm_middle)
        refine ⟨d, _, _, ρ2, by rw [wipe_length, wipeD_len]; omega, i6, e7, fun σ3 H4 m1 m2 ag i7 => ?_⟩
        rw [wipe_length] at m1 m2
        have same : ∀ i, i ∉ vs → σ3[i]? = σ[i]? := fun i hi => by
          by_cases hin : i < n
          · rw [ag i (hCb i hin hi), wipe_get σ hi]
          · rw [List.getElem?_eq_none (by omega), List.getElem?_eq_none (by omega)]
        refine ⟨wipe_same (by omega) same |>.trans ?_, ?_⟩
        · rfl
        · have back : ∀ (ρ5 : Ev) (H5 : Hp) (l' : List Itm), ρ5.length = σ.length → Items X.K [] H5 (σ3.zip ρ5 ++ (hold σ ρ1 vs ++ l')) → Items X.K [] H5 (σ.zip (unw ρ1 vs ρ5) ++ l') := fun ρ5 H5 l' hl5 hi5 => by
            have := unwipe_items (σ := σ) (ρ := ρ1) (vs := vs) (by omega) (fun v hv' => by rw [m1, hσ]; exact hv v hv') hi5
            rw [unwS_eq (by omega) same] at this
            exact this
          refine ⟨ρ2, _, b, ρ3, by omega, i7, e9, fun H5 m3 i8 => ?_⟩
          cases b with
          | false =>
            rw [if_neg Bool.false_ne_true] at e10
            rw [if_neg Bool.false_ne_true]
            cases e10
            refine ⟨acc, _, rfl, by rw [unw_len]; show ρ3.length = _; omega, ?_⟩
            have i9 := back ρ3 H5 _ (by omega) i8
            exact i9.perm (by
              refine List.Perm.trans (List.Perm.append_left _ List.perm_middle) ?_
              exact List.perm_middle)
          | true =>
            rw [if_pos rfl] at e10
            rw [if_pos rfl]
            obtain ⟨⟨y, ρ4⟩, e11, e12⟩ := Option.bind_eq_some_iff.mp e10
            replace e12 : (if acc.length < 16777216 then some (Sum.inl (acc ++ [y], unw ρ1 vs ρ4)) else none) = some s := e12
            split at e12
            · rename_i hz
              refine ⟨ρ3, _, y, ρ4, by omega, i8, e11, fun v H6 m4 i9 => ?_⟩
              have i10 : Items X.K [] H6 (σ3.zip ρ4 ++ (hold σ ρ1 vs ++ ((some v, y) :: (held ++ ((some (.ref A), .lst true acc) :: l))))) := i9.perm (by
                refine List.Perm.trans List.perm_middle.symm ?_
                exact List.Perm.append_left _ List.perm_middle.symm)
              have i11 := back ρ4 H6 _ (by omega) i10
              have i12 : Items X.K [] H6 ((some (.ref A), .lst true acc) :: ((some v, y) :: (σ.zip (unw ρ1 vs ρ4) ++ (held ++ l)))) := i11.perm (by
                refine List.Perm.trans List.perm_middle ?_
                refine List.Perm.trans (.cons _ (List.Perm.append_left _ List.perm_middle)) ?_
                refine List.Perm.trans (.cons _ List.perm_middle) ?_
                exact List.Perm.swap _ _ _)
              obtain ⟨us, hs, hlen, hop⟩ := i12.open
              refine ⟨us, hs, by rw [sizeLine_eq, hlen]; exact hz, acc ++ [y], _, by cases e12; rfl, by rw [unw_len]; omega, ?_⟩
              refine Items.close hs (by simp [hlen]) ?_
              have ep : prs (us ++ [v]) (acc ++ [y]) = prs us acc ++ [(some v, y)] := by
                show ((us ++ [v]).map some).zip (acc ++ [y]) = _
                rw [List.map_append, List.zip_append (by simp [hlen])]
                rfl
              rw [ep, List.append_assoc]
              exact hop
            · cases e12
theorem de_lc {elt tg iter : Expr} {ifs : List Expr} {scope : Scope} {own : List (Str × Nat)} {pos : Pos} {fi : Ev → Option (Src × Ev)} {g : D → Ev → Option Ev} {test : Ev → Option (Bool × Ev)} {fe : Ev → Option (D × Ev)} (C Cb : List Nat) (n : Nat)
    (hc : X.calm = true) (hN : X.N.Nodup) (hn : X.N.length = n) (hi : DI X C tg iter fi) (ok : BlkOk X.N X.env.scope scope own)
    (hg : ∀ (s : Shared) (H : Hp) (A : Addr) (cl : List (Str × Addr)) (fp : List Addr), DG (X.blk s H scope (compEnvC scope cl A X.env) fp) Cb tg g)
    (ht : ∀ (s : Shared) (H : Hp) (A : Addr) (cl : List (Str × Addr)) (fp : List Addr), DTs (X.blk s H scope (compEnvC scope cl A X.env) fp) ifs test)
    (he : ∀ (s : Shared) (H : Hp) (A : Addr) (cl : List (Str × Addr)) (fp : List Addr), DE (X.blk s H scope (compEnvC scope cl A X.env) fp) elt fe)
    (nd : (own.map (·.2)).Nodup := by decide) (hv : ∀ v ∈ own.map (·.2), v < n := by decide) (hCb : ∀ i, i < n → i ∉ own.map (·.2) → i ∈ Cb := by decide)
    (hs : ∀ x, foldedSetIterable iter X.env x = pure x := by intro _; rfl) : DE X (.ListComp elt [⟨tg, iter, ifs, 0⟩] scope pos) (eLc (own.map (·.2)) fi g test fe) := by
  obtain ⟨ti, pi, ki⟩ := hi.ex
  have h0 := pe_lc (te := canE X.K fe) (tt := canT X.K test) (g := canG X.K Cb g) hc hN pi ok (fun s H A cl fp => (hg s H A cl fp).can) (fun s H A cl fp => (ht s H A cl fp).can) (fun s H A cl fp => (he s H A cl fp).can) (pos := pos) hs
  exact ⟨_, PE.len h0, fun σ H ρ l Q r ρ' h2 h3 h4 h5 h1 => lc_ok hn nd hv hCb ki σ H ρ l Q r ρ' (by omega) h2 h3 h4 h5⟩
/-- name = [..] -/
theorem ds_setLc (i : Nat) {y : Str} {py : Pos} {elt tg iter : Expr} {ifs : List Expr} {scope : Scope} {own : List (Str × Nat)} {pos spos : Pos} {fi : Ev → Option (Src × Ev)} {g : D → Ev → Option Ev} {test : Ev → Option (Bool × Ev)} {fe : Ev → Option (D × Ev)} (C2 Cb : List Nat) (n : Nat)
    (hc : X.calm = true) (hN : X.N.Nodup) (hn : X.N.length = n) (hi : DI X C2 tg iter fi) (ok : BlkOk X.N X.env.scope scope own)
    (hg : ∀ (s : Shared) (H : Hp) (A : Addr) (cl : List (Str × Addr)) (fp : List Addr), DG (X.blk s H scope (compEnvC scope cl A X.env) fp) Cb tg g)
    (ht : ∀ (s : Shared) (H : Hp) (A : Addr) (cl : List (Str × Addr)) (fp : List Addr), DTs (X.blk s H scope (compEnvC scope cl A X.env) fp) ifs test)
    (he : ∀ (s : Shared) (H : Hp) (A : Addr) (cl : List (Str × Addr)) (fp : List Addr), DE (X.blk s H scope (compEnvC scope cl A X.env) fp) elt fe)
    (nd : (own.map (·.2)).Nodup := by decide) (hv : ∀ v ∈ own.map (·.2), v < n := by decide) (hCb : ∀ i, i < n → i ∉ own.map (·.2) → i ∈ Cb := by decide)
    (hC : i ∉ C := by decide) (hy : X.N[i]? = some y := by rfl) (hyl : X.env.scope.names.lookup y = some .local := by rfl)
    (hsw : swapsWith (.ListComp elt [⟨tg, iter, ifs, 0⟩] scope pos) (some (.Name y py)) spos.line X.env = pure true := by exact sw_true rfl rfl rfl (by decide +kernel))
    (hs : ∀ x, foldedSetIterable iter X.env x = pure x := by intro _; rfl) : DS X C (.Assign [.Name y py] (.ListComp elt [⟨tg, iter, ifs, 0⟩] scope pos) spos) (bAsg (eLc (own.map (·.2)) fi g test fe) (gNm i)) := by
  obtain ⟨ti, pi, ki⟩ := hi.ex
  have h0 := ps_setLc (te := canE X.K fe) (tt := canT X.K test) (g := canG X.K Cb g) (i := i) hc hN hy hyl hsw pi ok (fun s H A cl fp => (hg s H A cl fp).can) (fun s H A cl fp => (ht s H A cl fp).can) (fun s H A cl fp => (he s H A cl fp).can) hs
  refine ⟨_, PS.len h0, fun D' σ H ρ l o hl hI hf q h1 => ?_⟩
  obtain ⟨⟨d, ρ1⟩, e1, hf⟩ := Option.bind_eq_some_iff.mp hf
  cases hf
  refine lc_ok hn nd hv hCb ki σ H ρ l _ d ρ1 (by omega) hl hI e1 fun v H1 l1 i1 => ?_
  show D'.nx (σ.set i (some v)) H1
  by_cases h : i < σ.length
  · exact q _ H1 (by simp) (by simp; omega) (Agr.set hC) (set_items (by show σ.length = ρ1.length; have l2 : ρ1.length = ρ.length := l1; omega) h i1)
  · have e1 : σ.set i (some v) = σ := List.set_eq_of_length_le (by omega)
    have e2 : ρ1.set i d = ρ1 := List.set_eq_of_length_le (by omega)
    refine q _ H1 (by simp) (by simp; omega) (Agr.set hC) ?_
    show Items X.K [] H1 ((σ.set i (some v)).zip (ρ1.set i d) ++ l)
    rw [e1, e2]
    exact i1.tail

/-! ### the program's own defs -/
def keepL : List Bool → Ev → List D
  | c :: cs, d :: ρ => (if c = true then d else .any) :: keepL cs ρ
  | _, _ => []
def fnD (cs : List Bool) (ns : Nat) (body : Ev → Option Out) : List D → Option (D × List D) := fun ds => if ds.length = cs.length then (body (ds ++ List.replicate (ns - cs.length) .any)).bind fun o => match o with
    | .rt d ρ => some (d, keepL cs ρ)
    | .nx ρ => some (.non, keepL cs ρ)
    | _ => none
  else none
theorem keepL_items {K : Frg} {H : Hp} : ∀ {cs : List Bool} {σ : Sl} {ρ : Ev} {vs : List V} {l : List Itm}, vs.length = cs.length → cs.length ≤ σ.length → σ.length = ρ.length → (∀ i : Nat, cs[i]? = some true → σ[i]? = (vs[i]?).map some) →
    Items K [] H (σ.zip ρ ++ l) → Items K [] H (prs vs (keepL cs ρ) ++ l) ∧ (keepL cs ρ).length = cs.length
  | [], σ, ρ, vs, l, h1, h2, h3, h4, h => by
    unfold keepL
    cases vs with
    | cons _ _ => simp at h1
    | nil => exact ⟨h.drop, rfl⟩
  | c :: cs, [], _, _, _, _, h2, _, _, _ => by simp at h2
  | c :: cs, s :: σ, [], _, _, _, _, h3, _, _ => by simp at h3
  | c :: cs, s :: σ, d :: ρ, [], _, h1, _, _, _, _ => by simp at h1
  | c :: cs, s :: σ, d :: ρ, v :: vs, l, h1, h2, h3, h4, h => by
    have hh : Items K [] H ((s, d) :: (σ.zip ρ ++ l)) := h
    have rest : ∀ i : Nat, cs[i]? = some true → σ[i]? = (vs[i]?).map some := fun i hi => by
      have := h4 (i + 1) (by simpa using hi)
      simpa using this
    unfold keepL
    cases c with
    | true =>
      have e : s = some v := by
        have := h4 0 rfl
        simpa using this
      subst e
      have hh2 : Items K [] H (σ.zip ρ ++ ((some v, d) :: l)) := hh.perm List.perm_middle.symm
      obtain ⟨k1, k2⟩ := keepL_items (by simpa using h1) (by simpa using h2) (by simpa using h3) rest hh2
      refine ⟨?_, by simp [k2]⟩
      rw [if_pos rfl]
      exact k1.perm List.perm_middle
    | false =>
      obtain ⟨k1, k2⟩ := keepL_items (by simpa using h1) (by simpa using h2) (by simpa using h3) rest hh.tail
      refine ⟨?_, by simp [k2]⟩
      rw [if_neg Bool.false_ne_true]
      exact k1.blank
theorem start_zip {vs : List V} {ds : List D} {n : Nat} (h : vs.length = ds.length) : (vs.map some ++ List.replicate n none).zip (ds ++ List.replicate n D.any) = prs vs ds ++ List.replicate n ((none : Option V), D.any) := by
  rw [List.zip_append (by simp [h])]
  congr 1
  induction n with
  | zero => rfl
  | succ n ih => simp [List.replicate_succ, ih]
theorem blanks {K : Frg} {H : Hp} {l : List Itm} : ∀ {n : Nat}, Items K [] H l → Items K [] H (List.replicate n ((none : Option V), D.any) ++ l)
  | 0, h => h
  | n + 1, h => (blanks (n := n) h).blank
/-- a def by its body -/
theorem def_ok {P : Program} {w : World} {K : Frg} {mg : Str → Option Value} {base : Heap} {x : Str} {st : Stmt} {f : Addr} {fd : FuncData} {N ps : List Str} {k : Nat} (F : Fun K x x st f fd) (S : FnScope N ps (defScope st)) (hb : Binds K fd ps []) (hm : mg x = some (.ref f))
    (C : List Nat) (cs : List Bool) (ns : Nat) (body : Ev → Option Out) (hcs : cs.length = ps.length) (hns : N.length = ns) (hps : ps.length ≤ ns) (hC : ∀ i, i < cs.length → cs.getD i false = true → i ∈ C)
    (hbody : ∀ (cdv : Value) (A : Around) (outer : List Env) (s : Shared) (H : Hp) (E : XK), Room k (A.deeper (envOfC x (defScope st) s.heap.objs.size f cdv)) →
      DSs (cxOf CX0 P w K mg base N x (defScope st) f cdv A outer s H E).nox C (defBody st) body) : FOk P w K mg base (k + 1) x ps (fnD cs ns body) := by
  refine ⟨f, fd, hm, F.kp, hb, (by obtain ⟨oc, od, kV, doc, pm, an, cd', ct, osl, e, lk, _⟩ := F.ex; exact ⟨oc, od, osl, lk⟩), F.ok S ?_ ?_⟩
  · rintro vs H Q E ⟨l, ds, r, bs, h1, _⟩
    exact h1
  · rintro cdv A outer s H vs Q E hr ⟨l, ds, r, bs, h1, h2, hi, hf, q⟩
    obtain ⟨t, ht, kk⟩ := (hbody cdv A outer s H E hr).ex
    refine ⟨t, ht, ?_⟩
    unfold fnD at hf
    rw [if_pos (by omega)] at hf
    obtain ⟨o, e1, hf⟩ := Option.bind_eq_some_iff.mp hf
    have hst : L2.start N vs = vs.map some ++ List.replicate (ns - cs.length) none := by
      unfold L2.start
      rw [hns, h1, hcs]
    rw [hst]
    have hlen : (vs.map some ++ List.replicate (ns - cs.length) (none : Option V)).length = (ds ++ List.replicate (ns - cs.length) D.any).length := by simp [h1, h2]
    have key : ∀ (d : D) (ρ' : Ev) (σ' : Sl) (H' : Hp) (l' : List Itm), σ'.length = (vs.map some ++ List.replicate (ns - cs.length) (none : Option V)).length → ρ'.length = (vs.map some ++ List.replicate (ns - cs.length) (none : Option V)).length → Agr C (vs.map some ++ List.replicate (ns - cs.length) (none : Option V)) σ' →
        Items K [] H' (σ'.zip ρ' ++ l') → Items K [] H' (prs vs (keepL cs ρ') ++ l') ∧ (keepL cs ρ').length = cs.length := fun d ρ' σ' H' l' m1 m2 ag i => by
      refine keepL_items (by omega) (by rw [m1]; simp; omega) (by omega) (fun i hi => ?_) i
      have hlt : i < cs.length := (List.getElem?_eq_some_iff.mp hi).1
      have hin : i ∈ C := hC i hlt (by rw [List.getD_eq_getElem?_getD, hi]; rfl)
      rw [ag i hin, List.getElem?_append_left (by simp; omega), List.getElem?_map]
    refine kk _ _ H _ l o hlen ?_ e1 ?_
    · rw [start_zip (by omega), List.append_assoc]
      refine Items.perm (blanks (n := ns - cs.length) hi) perm_mid
    · cases o with
      | nx ρ' =>
        cases hf
        intro σ' H' m1 m2 ag i
        obtain ⟨k1, k2⟩ := key .non ρ' σ' H' l m1 m2 ag i
        exact q .non H' (by omega) (k1.add (d := .non) rfl fun _ _ => rfl)
      | rt d ρ' =>
        cases hf
        intro v σ' H' m1 m2 ag i
        have i' : Items K [] H' (σ'.zip ρ' ++ ((some v, r) :: l)) := i.perm List.perm_middle.symm
        obtain ⟨k1, k2⟩ := key r ρ' σ' H' ((some v, r) :: l) m1 m2 ag i'
        exact q v H' (by omega) (k1.perm List.perm_middle)
      | bk ρ' => cases hf
      | ct ρ' => cases hf
end
end Mv
end
section
set_option Elab.async false
set_option linter.all false
set_option maxRecDepth 100000
/-! What the operations make of data. -/
namespace Mv
open PySem PySem.Spec PyProof.Rows L2

/-! ### alternatives -/
def rOr (r r' : R2) : R2 := fun x y H Q => r x y H Q ∨ r' x y H Q
section
variable {X : Cx}
theorem OpR.or {f : Value → Value → Sem Value} {r r' : R2} (h : OpR X f r) (h' : OpR X f r') : OpR X f (rOr r r') := by
  intro pins s σ H x y v u Q I rx ry q
  rcases q with q | q
  · exact h pins s σ H x y v u Q I rx ry q
  · exact h' pins s σ H x y v u Q I rx ry q
def gOr (g g' : D → D → Option D) : D → D → Option D := fun a b => match g a b with
  | some d => some d
  | none => g' a b
theorem Op2.or {K : Frg} {r r' : R2} {g g' : D → D → Option D} (h : Op2 K r g) (h' : Op2 K r' g') : Op2 K (rOr r r') (gOr g g') := by
  intro x y H dx dy l Q d hi mx my hg q
  replace hg : (match g dx dy with
    | some d => some d
    | none => g' dx dy) = some d := hg
  split at hg
  · rename_i e
    exact .inl (h x y H dx dy l Q d hi mx my (by rw [e]; exact hg) q)
  · exact .inr (h' x y H dx dy l Q d hi mx my hg q)
end
/-! ### ints -/
/-- two ints in, under a condition, an int or a bool out -/
def gI (C : Int → Int → Prop) [∀ i j, Decidable (C i j)] (f : Int → Int → D) : D → D → Option D := fun a b => match a, b with
  | .int i, .int j => if C i j then some (f i j) else none
  | _, _ => none
def gI0 (f : Int → Int → D) : D → D → Option D := fun a b => match a, b with
  | .int i, .int j => some (f i j)
  | _, _ => none
section
variable {K : Frg}
theorem Op2.int {C C' : Int → Int → Prop} [∀ i j, Decidable (C' i j)] {f : Int → Int → V} {f' : Int → Int → D} (hC : ∀ i j, C' i j → C i j) (hf : ∀ i j, C' i j → (f' i j).frz = true ∧ ∀ G, Fz K G (f' i j) (f i j)) : Op2 K (rI C f) (gI C' f') := by
  intro x y H dx dy l Q d hi mx my hg q
  unfold gI at hg
  split at hg
  · rename_i i j
    split at hg
    · rename_i c
      cases hg
      refine ⟨i, j, hi.view mx, hi.view my, hC i j c, q _ H (hi.add (hf i j c).1 fun G _ => (hf i j c).2 G)⟩
    · cases hg
  · cases hg
theorem Op2.int0 {f : Int → Int → V} {f' : Int → Int → D} (hf : ∀ i j, (f' i j).frz = true ∧ ∀ G, Fz K G (f' i j) (f i j)) : Op2 K (rI0 f) (gI0 f') := by
  intro x y H dx dy l Q d hi mx my hg q
  unfold gI0 at hg
  split at hg
  · rename_i i j
    cases hg
    exact ⟨i, j, hi.view mx, hi.view my, q _ H (hi.add (hf i j).1 fun G _ => (hf i j).2 G)⟩
  · cases hg
end
def MulOk (i j : Int) : Prop := i.natAbs < 2 ^ 64 ∨ j.natAbs < 2 ^ 64 ∨ (i.natAbs < 2 ^ 4000 ∧ j.natAbs < 2 ^ 4000)
instance (i j : Int) : Decidable (MulOk i j) := by unfold MulOk; infer_instance
def DivOk (j : Int) : Prop := 0 < j ∧ j.natAbs < 2 ^ 4000
instance (j : Int) : Decidable (DivOk j) := by unfold DivOk; infer_instance
def DivNo (j : Int) : Prop := j < 0 ∧ j.natAbs < 2 ^ 4000
instance (j : Int) : Decidable (DivNo j) := by unfold DivNo; infer_instance
def PowOk (i j : Int) : Prop := 0 ≤ j ∧ j ≤ 1000000 ∧ i.natAbs < 2 ^ 64
instance (i j : Int) : Decidable (PowOk i j) := by unfold PowOk; infer_instance
def gAddS : D → D → Option D := fun a b => match a, b with
  | .str x, .str y => if x.length + y.length ≤ 16777216 then some (.str (x ++ y)) else none
  | _, _ => none
def gAddL : D → D → Option D := fun a b => match a, b with
  | .lst _ xs, .lst _ ys => if D.frzL xs = true ∧ D.frzL ys = true ∧ xs.length + ys.length ≤ 16777216 then some (.lst true (xs ++ ys)) else none
  | _, _ => none
def gAddT : D → D → Option D := fun a b => match a, b with
  | .tup xs, .tup ys => if D.frzL xs = true ∧ D.frzL ys = true ∧ xs ≠ [] ∧ xs.length + ys.length ≤ 16777216 then some (.tup (xs ++ ys)) else none
  | _, _ => none
def gAdd : D → D → Option D := fun a b => match a, b with
  | .int i, .int j => some (.int (i + j))
  | .str x, .str y => if x.length + y.length ≤ 16777216 then some (.str (x ++ y)) else none
  | .lst _ xs, .lst _ ys => if D.frzL xs = true ∧ D.frzL ys = true ∧ xs.length + ys.length ≤ 16777216 then some (.lst true (xs ++ ys)) else none
  | .tup xs, .tup ys => if D.frzL xs = true ∧ D.frzL ys = true ∧ xs.length + ys.length ≤ 16777216 then some (.tup (xs ++ ys)) else none
  | _, _ => none
def rAdd (K : Frg) : R2 := rOr (rI0 fun i j => .int (i + j)) (rOr (fun x y H Q => ∃ i j, x = .str i ∧ y = .str j ∧ i.length + j.length ≤ sizeLine ∧ Q (.str (i ++ j)) H) (rOr rCat (rCatA K)))
theorem frzL_app : ∀ {xs ys : List D}, D.frzL xs = true → D.frzL ys = true → D.frzL (xs ++ ys) = true
  | [], _, _, h => h
  | d :: ds, ys, h, h' => by
    have z : (d.frz && D.frzL ds) = true := h
    rw [Bool.and_eq_true] at z
    show (d.frz && D.frzL (ds ++ ys)) = true
    rw [z.1, frzL_app z.2 h']; rfl
theorem prs_app {xs ys : List V} {ds es : List D} (h : xs.length = ds.length) : prs (xs ++ ys) (ds ++ es) = prs xs ds ++ prs ys es := by
  show ((xs ++ ys).map some).zip (ds ++ es) = _
  rw [List.map_append, List.zip_append (by simp [h])]
  rfl
section
variable {X : Cx}
theorem op_addA : OpR X (binaryOp .Add) (rAdd X.K) := OpR.or op_add (OpR.or op_add_str (OpR.or op_cat op_catA))
theorem o2_add {K : Frg} : Op2 K (rAdd K) gAdd := by
  intro x y H dx dy l Q d hi mx my hg q
  unfold gAdd at hg
  split at hg
  · rename_i i j
    cases hg
    exact .inl ⟨i, j, hi.view mx, hi.view my, q _ H (hi.add rfl fun _ _ => rfl)⟩
  · rename_i a b
    split at hg
    · rename_i c
      cases hg
      exact .inr (.inl ⟨a, b, hi.view mx, hi.view my, by rw [sizeLine_eq]; exact c, q _ H (hi.add rfl fun _ _ => rfl)⟩)
    · cases hg
  · rename_i _ xs _ ys
    split at hg
    · rename_i c
      cases hg
      obtain ⟨a, us, rfl, ha, la, i1⟩ := hi.listAll mx c.1
      obtain ⟨b, ws, rfl, hb, lb, i2⟩ := i1.listAll (List.mem_append_right _ my) c.2.1
      refine .inr (.inr (.inl ⟨a, b, us, ws, rfl, rfl, ha, hb, by rw [sizeLine_eq, la, lb]; exact c.2.2, fun p np => q _ _ (Items.new np (by simp [la, lb]) ?_ (fun b hb => by cases hb))⟩))
      rw [prs_app la, List.append_assoc]
      exact i2.perm perm_mid
    · cases hg
  · rename_i xs ys
    split at hg
    · rename_i c
      cases hg
      obtain ⟨a, us, rfl, ha, la, i1⟩ := hi.tupleAll mx c.1
      obtain ⟨b, ws, rfl, hb, lb, i2⟩ := i1.tupleAll (List.mem_append_right _ my) c.2.1
      refine .inr (.inr (.inr ⟨a, b, us, ws, rfl, rfl, ha, hb, by rw [sizeLine_eq, la, lb]; exact c.2.2, fun e => ?_, fun _ e => ?_, fun _ _ p np => q _ _ (Items.newT np (by simp [la, lb]) ?_)⟩))
      · subst e
        have : xs = [] := by
          cases xs with
          | nil => rfl
          | cons _ _ => simp at la
        subst this
        exact q _ H (hi.dup my c.2.1)
      · subst e
        have : ys = [] := by
          cases ys with
          | nil => rfl
          | cons _ _ => simp at lb
        subst this
        rw [List.append_nil] at q
        exact q _ H (hi.dup mx c.1)
      · rw [prs_app la, List.append_assoc]
        exact i2.perm perm_mid
    · cases hg
  · cases hg
def gSubt : D → D → Option D := gI0 fun i j => .int (i - j)
theorem o2_sub {K : Frg} : Op2 K (rI0 fun i j => .int (i - j)) gSubt := Op2.int0 fun _ _ => ⟨rfl, fun _ => rfl⟩
def gMul : D → D → Option D := gI MulOk fun i j => .int (i * j)
def rMul : R2 := rOr (rI CMul fun i j => .int (i * j)) (rI CMulW fun i j => .int (i * j))
theorem op_mulA : OpR X (binaryOp .Mult) rMul := OpR.or op_mul op_mulW
theorem o2_mul {K : Frg} : Op2 K rMul gMul := by
  intro x y H dx dy l Q d hi mx my hg q
  unfold gMul gI at hg
  split at hg
  · rename_i i j
    split at hg
    · rename_i c
      cases hg
      have fin := q (.int (i * j)) H (hi.add rfl fun _ _ => rfl)
      rcases c with c | c | c
      · exact .inl ⟨i, j, hi.view mx, hi.view my, .inl (by omega), fin⟩
      · exact .inl ⟨i, j, hi.view mx, hi.view my, .inr (by omega), fin⟩
      · exact .inr ⟨i, j, hi.view mx, hi.view my, wide_mul c.1 c.2 (by decide) (by decide) (by decide), fin⟩
    · cases hg
  · cases hg
def gDiv : D → D → Option D := fun a b => match a, b with
  | .int i, .int j => if DivOk j then some (.int (i / j)) else if DivNo j then some (.int (i.fdiv j)) else none
  | _, _ => none
def CDivX (_ j : Int) : Prop := j ≠ 0 ∧ j.natAbs.log2 < 9000
theorem op_fdivX : OpR X (binaryOp .FloorDiv) (rI CDivX fun i j => .int (i.fdiv j)) := opI fun i j _ _ _ _ _ hc q => PyProof.Rows.floordiv_int hc.1 q (.inl (PyProof.noPylong_of_log2 hc.2))
theorem o2_div {K : Frg} : Op2 K (rI CDivX fun i j => .int (i.fdiv j)) gDiv := by
  intro x y H dx dy l Q d hi mx my hg q
  unfold gDiv at hg
  split at hg
  · rename_i i j
    split at hg
    · rename_i c
      cases hg
      refine ⟨i, j, hi.view mx, hi.view my, ⟨by have := c.1; omega, Nat.lt_of_lt_of_le (PySem.Flt.log2_lt_of (by decide) c.2) (by decide)⟩, ?_⟩
      show Q (.int (i.fdiv j)) H
      rw [Int.fdiv_eq_ediv_of_nonneg i (show 0 ≤ j by have := c.1; omega)]
      exact q _ H (hi.add rfl fun _ _ => rfl)
    · split at hg
      · rename_i c
        cases hg
        exact ⟨i, j, hi.view mx, hi.view my, ⟨by have := c.1; omega, Nat.lt_of_lt_of_le (PySem.Flt.log2_lt_of (by decide) c.2) (by decide)⟩, q _ H (hi.add rfl fun _ _ => rfl)⟩
      · cases hg
  · cases hg
def gMod : D → D → Option D := gI (fun _ j => 0 < j) fun i j => .int (i % j)
theorem o2_mod {K : Frg} : Op2 K (rI (fun _ j => 0 < j) fun i j => .int (i % j)) gMod := Op2.int (fun _ _ h => h) fun _ _ _ => ⟨rfl, fun _ => rfl⟩
def gPow : D → D → Option D := gI PowOk fun i j => .int (i ^ j.toNat)
theorem o2_pow {K : Frg} : Op2 K (rI CPow fun i j => .int (i ^ j.toNat)) gPow := Op2.int (fun _ _ h => h) fun _ _ _ => ⟨rfl, fun _ => rfl⟩
def gShl : D → D → Option D := gI PowOk fun i j => .int (i * 2 ^ j.toNat)
theorem o2_shl {K : Frg} : Op2 K (rI CPow fun i j => .int (i * 2 ^ j.toNat)) gShl := Op2.int (fun _ _ h => h) fun _ _ _ => ⟨rfl, fun _ => rfl⟩
def gShr : D → D → Option D := gI (fun _ j => 0 ≤ j) fun i j => .int (i / 2 ^ j.toNat)
theorem o2_shr {K : Frg} : Op2 K (rI (fun _ j => 0 ≤ j) fun i j => .int (i / 2 ^ j.toNat)) gShr := Op2.int (fun _ _ h => h) fun _ _ _ => ⟨rfl, fun _ => rfl⟩
def gNeg : D → Option D := fun a => match a with
  | .int i => some (.int (-i))
  | _ => none
theorem o1_neg {K : Frg} : Op1 K (rU fun i => .int (-i)) gNeg := by
  intro x H dx l Q d hi mx hg q
  unfold gNeg at hg
  split at hg
  · cases hg
    exact ⟨_, hi.view mx, q _ H (hi.add rfl fun _ _ => rfl)⟩
  · cases hg
def gLt : D → D → Option D := gI0 fun i j => .bl (decide (i < j))
def gLe : D → D → Option D := gI0 fun i j => .bl (decide (i ≤ j))
def gGt : D → D → Option D := gI0 fun i j => .bl (decide (j < i))
def gGe : D → D → Option D := gI0 fun i j => .bl (decide (j ≤ i))
theorem o2_lt {K : Frg} : Op2 K (rI0 fun i j => .bl (decide (i < j))) gLt := Op2.int0 fun _ _ => ⟨rfl, fun _ => rfl⟩
theorem o2_le {K : Frg} : Op2 K (rI0 fun i j => .bl (decide (i ≤ j))) gLe := Op2.int0 fun _ _ => ⟨rfl, fun _ => rfl⟩
theorem o2_gt {K : Frg} : Op2 K (rI0 fun i j => .bl (decide (j < i))) gGt := Op2.int0 fun _ _ => ⟨rfl, fun _ => rfl⟩
theorem o2_ge {K : Frg} : Op2 K (rI0 fun i j => .bl (decide (j ≤ i))) gGe := Op2.int0 fun _ _ => ⟨rfl, fun _ => rfl⟩

/-! ### equal -/
mutual
def D.pd : D → PyData
  | .bl b => .bool b
  | .int i => .int i
  | .str x => .str x
  | .lst _ xs => .list (D.pdL xs)
  | .cst xs => .list (D.pdL xs)
  | .tup xs => .tuple (D.pdL xs)
  | .non => .none
  | .any => .none
  | .rng _ _ => .none
  | .ty _ => .none
def D.pdL : List D → List PyData
  | [] => []
  | d :: ds => D.pd d :: D.pdL ds
end
mutual
def D.dat : D → Bool
  | .bl _ => true
  | .int _ => true
  | .str _ => true
  | .lst _ xs => D.datL xs
  | .cst xs => D.datL xs
  | .tup xs => D.datL xs
  | .non => true
  | .any => false
  | .rng _ _ => false
  | .ty _ => false
def D.datL : List D → Bool
  | [] => true
  | d :: ds => D.dat d && D.datL ds
end
mutual
theorem Fz.dp {K : Frg} {H : Hp} : ∀ (d : D) (v : V), d.dat = true → Fz K H d v → Dp K H v d.pd
  | .bl b, _, _, h => by cases h; exact .bl b
  | .int i, _, _, h => by cases h; exact .int i
  | .str x, _, _, h => by cases h; exact .str x
  | .non, _, _, h => by cases h; exact .non
  | .lst _ xs, _, z, ⟨a, us, ev, hs, hl⟩ => by subst ev; exact .lst (SqL.of hs) (FzL.dp xs us z hl)
  | .cst xs, _, z, ⟨a, us, ev, hs, hl⟩ => by subst ev; exact .lst hs (FzL.dp xs us z hl)
  | .tup xs, _, z, ⟨a, us, ev, hs, hl⟩ => by subst ev; exact .tup hs (FzL.dp xs us z hl)
  | .any, _, z, _ => by cases z
  | .rng _ _, _, z, _ => by cases z
  | .ty _, _, z, _ => by cases z
theorem FzL.dp {K : Frg} {H : Hp} : ∀ (ds : List D) (vs : List V), D.datL ds = true → FzL K H ds vs → DpAll K H vs (D.pdL ds)
  | [], _, _, h => by cases h; exact .nil
  | d :: ds, _, z, ⟨x, r, ex, h1, h2⟩ => by
    have z' : (d.dat && D.datL ds) = true := z
    rw [Bool.and_eq_true] at z'
    subst ex
    exact .cons (Fz.dp d x z'.1 h1) (FzL.dp ds r z'.2 h2)
end
/-- two simple things -/
def sEq : D → D → Option Bool
  | .int i, .int j => some (decide (i = j))
  | .bl i, .bl j => some (decide (i = j))
  | .str i, .str j => some (decide (i = j))
  | .non, .non => some true
  | .non, .int _ => some false
  | .int _, .non => some false
  | .non, .str _ => some false
  | .str _, .non => some false
  | .non, .bl _ => some false
  | .bl _, .non => some false
  | .int _, .str _ => some false
  | .str _, .int _ => some false
  | _, _ => none
theorem sEq_ok {K : Frg} {H : Hp} {dx dy : D} {x y : V} {b : Bool} (h : sEq dx dy = some b) (hx : Fz K H dx x) (hy : Fz K H dy y) : scal x y = true ∧ decide (x = y) = b := by
  unfold sEq at h
  split at h <;> first | cases h | skip
  all_goals (cases hx; cases hy; refine ⟨rfl, ?_⟩)
  all_goals first | (rw [decide_eq_decide]; constructor <;> intro z <;> first | (cases z; rfl) | (rw [z])) | rfl
def gEq : D → D → Option D := fun a b => match sEq a b with
  | some c => some (.bl c)
  | none => if a.dat = true ∧ b.dat = true ∧ SeqAt.shaped a.pd = true ∧ SeqAt.shaped b.pd = true then some (.bl (PyData.eqv a.pd b.pd)) else none
def gNe : D → D → Option D := fun a b => match sEq a b with
  | some c => some (.bl (!c))
  | none => if a.dat = true ∧ b.dat = true ∧ SeqAt.shaped a.pd = true ∧ SeqAt.shaped b.pd = true then some (.bl (!PyData.eqv a.pd b.pd)) else none
theorem o2_eq {K : Frg} : Op2 K (rOr rEq (rEqD K)) gEq := by
  intro x y H dx dy l Q d hi mx my hg q
  unfold gEq at hg
  split at hg
  · rename_i c e
    cases hg
    obtain ⟨k1, k2⟩ := sEq_ok e (hi.view mx) (hi.view my)
    exact .inl ⟨k1, by rw [k2]; exact q _ H (hi.add rfl fun _ _ => rfl)⟩
  · split at hg
    · rename_i c
      cases hg
      exact .inr ⟨_, _, Fz.dp _ _ c.1 (hi.view mx), Fz.dp _ _ c.2.1 (hi.view my), c.2.2.1, c.2.2.2, q _ H (hi.add rfl fun _ _ => rfl)⟩
    · cases hg
theorem o2_ne {K : Frg} : Op2 K (rOr rNe (rNeD K)) gNe := by
  intro x y H dx dy l Q d hi mx my hg q
  unfold gNe at hg
  split at hg
  · rename_i c e
    cases hg
    obtain ⟨k1, k2⟩ := sEq_ok e (hi.view mx) (hi.view my)
    exact .inl ⟨k1, by rw [k2]; exact q _ H (hi.add rfl fun _ _ => rfl)⟩
  · split at hg
    · rename_i c
      cases hg
      exact .inr ⟨_, _, Fz.dp _ _ c.1 (hi.view mx), Fz.dp _ _ c.2.1 (hi.view my), c.2.2.1, c.2.2.2, q _ H (hi.add rfl fun _ _ => rfl)⟩
    · cases hg
theorem op_eqA (hu : X.A.units + 64 < cLine) : OpR X (compareOp .Eq) (rOr rEq (rEqD X.K)) := OpR.or op_eq (op_eqD hu)
theorem op_neA (hu : X.A.units + 64 < cLine) : OpR X (compareOp .NotEq) (rOr rNe (rNeD X.K)) := OpR.or op_ne (op_neD hu)
/-! ### is -/
def gIsB (neg : Bool) : D → D → Option D := fun a b => match b with
  | .non => match a with
    | .any => none
    | .non => some (.bl (!neg))
    | _ => some (.bl neg)
  | .bl c => match a with
    | .any => none
    | .bl e => some (.bl (if neg then !(decide (e = c)) else decide (e = c)))
    | _ => some (.bl neg)
  | _ => none
/-- is a bool, whatever the left one -/
def rIsX (neg : Bool) : R2 := fun x y H Q => ∃ c : Bool, y = .bl c ∧ Q (.bl (if neg then !(decide (x = .bl c)) else decide (x = .bl c))) H
theorem op_isX : OpR X (compareOp .Is) (rIsX false) := by
  intro pins s σ H x y v u Q I rx ry h
  obtain ⟨c, rfl, q⟩ := h
  cases (show u = Value.bool c from ry)
  have q' : Q (.bl (decide (x = .bl c))) H := q
  cases x with
  | bl e =>
    cases (show v = Value.bool e from rx)
    by_cases z : e = c
    · subst z
      exact wpAny_is_self rfl ⟨.bl true, H, I, rfl, by simpa using q'⟩
    · exact wpAny_is_other rfl (fun w => z (Value.bool.inj w)) ⟨.bl false, H, I, rfl, by simpa [z] using q'⟩
  | non => cases (show v = Value.none from rx); exact wpAny_is_other rfl (fun w => nomatch w) ⟨.bl false, H, I, rfl, by simpa using q'⟩
  | int i => obtain ⟨t, rfl⟩ := rx; exact wpAny_is_other rfl (fun w => nomatch w) ⟨.bl false, H, I, rfl, by simpa using q'⟩
  | str i => obtain ⟨t, rfl⟩ := rx; exact wpAny_is_other rfl (fun w => nomatch w) ⟨.bl false, H, I, rfl, by simpa using q'⟩
  | byt i => obtain ⟨t, rfl⟩ := rx; exact wpAny_is_other rfl (fun w => nomatch w) ⟨.bl false, H, I, rfl, by simpa using q'⟩
  | flt i => obtain ⟨t, rfl⟩ := rx; exact wpAny_is_other rfl (fun w => nomatch w) ⟨.bl false, H, I, rfl, by simpa using q'⟩
  | ref a => cases (show v = Value.ref a from rx); exact wpAny_is_other rfl (fun w => nomatch w) ⟨.bl false, H, I, rfl, by simpa using q'⟩
  | ty n => cases (show v = Value.type n from rx); exact wpAny_is_other rfl (fun w => nomatch w) ⟨.bl false, H, I, rfl, by simpa using q'⟩
theorem op_isNotX : OpR X (compareOp .IsNot) (rIsX true) := by
  intro pins s σ H x y v u Q I rx ry h
  obtain ⟨c, rfl, q⟩ := h
  cases (show u = Value.bool c from ry)
  have q' : Q (.bl (!(decide (x = .bl c)))) H := q
  cases x with
  | bl e =>
    cases (show v = Value.bool e from rx)
    by_cases z : e = c
    · subst z
      exact wpAny_isNot_self rfl ⟨.bl false, H, I, rfl, by simpa using q'⟩
    · exact wpAny_isNot_other rfl (fun w => z (Value.bool.inj w)) ⟨.bl true, H, I, rfl, by simpa [z] using q'⟩
  | non => cases (show v = Value.none from rx); exact wpAny_isNot_other rfl (fun w => nomatch w) ⟨.bl true, H, I, rfl, by simpa using q'⟩
  | int i => obtain ⟨t, rfl⟩ := rx; exact wpAny_isNot_other rfl (fun w => nomatch w) ⟨.bl true, H, I, rfl, by simpa using q'⟩
  | str i => obtain ⟨t, rfl⟩ := rx; exact wpAny_isNot_other rfl (fun w => nomatch w) ⟨.bl true, H, I, rfl, by simpa using q'⟩
  | byt i => obtain ⟨t, rfl⟩ := rx; exact wpAny_isNot_other rfl (fun w => nomatch w) ⟨.bl true, H, I, rfl, by simpa using q'⟩
  | flt i => obtain ⟨t, rfl⟩ := rx; exact wpAny_isNot_other rfl (fun w => nomatch w) ⟨.bl true, H, I, rfl, by simpa using q'⟩
  | ref a => cases (show v = Value.ref a from rx); exact wpAny_isNot_other rfl (fun w => nomatch w) ⟨.bl true, H, I, rfl, by simpa using q'⟩
  | ty n => cases (show v = Value.type n from rx); exact wpAny_isNot_other rfl (fun w => nomatch w) ⟨.bl true, H, I, rfl, by simpa using q'⟩
theorem not_bl {K : Frg} {H : Hp} {d : D} {v : V} {c : Bool} (h : Fz K H d v) (h1 : d ≠ .any) (h2 : ∀ e, d ≠ .bl e) : decide (v = .bl c) = false := by
  apply decide_eq_false
  rintro rfl
  cases d with
  | any => exact h1 rfl
  | bl e => exact h2 e rfl
  | non => cases h
  | int _ => cases h
  | str _ => cases h
  | ty _ => cases h
  | lst _ _ => obtain ⟨a, xs, e, _⟩ := h; cases e
  | tup _ => obtain ⟨a, xs, e, _⟩ := h; cases e
  | cst _ => obtain ⟨a, xs, e, _⟩ := h; cases e
  | rng _ _ => obtain ⟨a, e, _⟩ := h; cases e
def rIs : R2 := rOr (fun x y H Q => y = .non ∧ Q (.bl (decide (x = .non))) H) (rIsX false)
def rIsNot : R2 := rOr (fun x y H Q => y = .non ∧ Q (.bl (!decide (x = .non))) H) (rIsX true)
theorem op_isA : OpR X (compareOp .Is) rIs := OpR.or op_isN op_isX
theorem op_isNotA : OpR X (compareOp .IsNot) rIsNot := OpR.or op_notN op_isNotX
theorem not_non {K : Frg} {H : Hp} {d : D} {v : V} (h : Fz K H d v) (h1 : d ≠ .any) (h2 : d ≠ .non) : decide (v = .non) = false := by
  apply decide_eq_false
  rintro rfl
  cases d with
  | any => exact h1 rfl
  | non => exact h2 rfl
  | bl _ => cases h
  | int _ => cases h
  | str _ => cases h
  | ty _ => cases h
  | lst _ _ => obtain ⟨a, xs, e, _⟩ := h; cases e
  | tup _ => obtain ⟨a, xs, e, _⟩ := h; cases e
  | cst _ => obtain ⟨a, xs, e, _⟩ := h; cases e
  | rng _ _ => obtain ⟨a, e, _⟩ := h; cases e
theorem o2_is {K : Frg} : Op2 K rIs (gIsB false) := by
  intro x y H dx dy l Q d hi mx my hg q
  unfold gIsB at hg
  split at hg
  · have hy : y = .non := hi.view my
    refine .inl ⟨hy, ?_⟩
    split at hg
    · cases hg
    · have hx : x = .non := hi.view mx
      cases hg
      rw [hx, decide_eq_true rfl]
      exact q _ H (hi.add rfl fun _ _ => rfl)
    · rename_i h1 h2
      cases hg
      rw [not_non (hi.view mx) h1 h2]
      exact q _ H (hi.add rfl fun _ _ => rfl)
  · rename_i c
    have hy : y = .bl c := hi.view my
    split at hg
    · cases hg
    · rename_i e
      have hx : x = .bl e := hi.view mx
      cases hg
      refine .inr ⟨c, hy, ?_⟩
      have : decide (x = .bl c) = decide (e = c) := by
        rw [hx]
        by_cases z : e = c
        · subst z; simp
        · simp [z]
      rw [this]
      exact q _ H (hi.add rfl fun _ _ => rfl)
    · rename_i h1 h2
      cases hg
      refine .inr ⟨c, hy, ?_⟩
      rw [not_bl (hi.view mx) h1 h2]
      exact q _ H (hi.add rfl fun _ _ => rfl)
  · cases hg
theorem o2_isNot {K : Frg} : Op2 K rIsNot (gIsB true) := by
  intro x y H dx dy l Q d hi mx my hg q
  unfold gIsB at hg
  split at hg
  · have hy : y = .non := hi.view my
    refine .inl ⟨hy, ?_⟩
    split at hg
    · cases hg
    · have hx : x = .non := hi.view mx
      cases hg
      rw [hx, decide_eq_true rfl]
      exact q _ H (hi.add rfl fun _ _ => rfl)
    · rename_i h1 h2
      cases hg
      rw [not_non (hi.view mx) h1 h2]
      exact q _ H (hi.add rfl fun _ _ => rfl)
  · rename_i c
    have hy : y = .bl c := hi.view my
    split at hg
    · cases hg
    · rename_i e
      have hx : x = .bl e := hi.view mx
      cases hg
      refine .inr ⟨c, hy, ?_⟩
      have : decide (x = .bl c) = decide (e = c) := by
        rw [hx]
        by_cases z : e = c
        · subst z; simp
        · simp [z]
      rw [this]
      exact q _ H (hi.add rfl fun _ _ => rfl)
    · rename_i h1 h2
      cases hg
      refine .inr ⟨c, hy, ?_⟩
      rw [not_bl (hi.view mx) h1 h2]
      exact q _ H (hi.add rfl fun _ _ => rfl)
  · cases hg

/-! ### items, lengths -/
def atF (xs : List D) (i : Int) : Option D := (atI xs i).bind fun d => if d.frz = true then some d else none
def gIdx : D → D → Option D := fun a b => match a, b with
  | .lst _ xs, .int i => atF xs i
  | .cst xs, .int i => atF xs i
  | .tup xs, .int i => atF xs i
  | .str z, .int i => if z.length ≤ 16777216 then (atI z.cps.toList i).map fun c => .str ⟨#[c]⟩ else none
  | _, _ => none
theorem atI_rel {xs : List V} {ds : List D} {i : Int} {d : D} (hl : xs.length = ds.length) (h : atI ds i = some d) : ∃ (j : Nat) (v : V), atI xs i = some v ∧ xs[j]? = some v ∧ ds[j]? = some d := by
  unfold atI at h ⊢
  rw [hl]
  cases e : ixN ds.length i with
  | none => rw [e] at h; cases h
  | some j =>
    rw [e] at h
    have h' : ds[j]? = some d := h
    have hj : j < xs.length := by rw [hl]; exact (List.getElem?_eq_some_iff.mp h').1
    exact ⟨j, xs[j], List.getElem?_eq_getElem hj, List.getElem?_eq_getElem hj, h'⟩
theorem o2_idx {K : Frg} : Op2 K (rIx K) gIdx := by
  intro x y H dx dy l Q d hi mx my hg q
  unfold gIdx at hg
  split at hg
  · rename_i b xs i
    obtain ⟨c, e1, e2⟩ := Option.bind_eq_some_iff.mp hg
    split at e2
    · rename_i z
      cases e2
      obtain ⟨a, us, rfl, hs, hl, _, hd⟩ := hi.list mx
      obtain ⟨j, v, k1, k2, k3⟩ := atI_rel hl e1
      exact .inl ⟨a, us, i, v, rfl, hi.view my, SqL.of hs, k1, q v H (hd j _ v k3 k2 z)⟩
    · cases e2
  · rename_i xs i
    obtain ⟨c, e1, e2⟩ := Option.bind_eq_some_iff.mp hg
    split at e2
    · rename_i z
      cases e2
      obtain ⟨a, us, rfl, hs, hl, _, hd⟩ := hi.const mx
      obtain ⟨j, v, k1, k2, k3⟩ := atI_rel hl e1
      exact .inl ⟨a, us, i, v, rfl, hi.view my, hs, k1, q v H (hd j _ v k3 k2 z)⟩
    · cases e2
  · rename_i xs i
    obtain ⟨c, e1, e2⟩ := Option.bind_eq_some_iff.mp hg
    split at e2
    · rename_i z
      cases e2
      obtain ⟨a, us, rfl, hs, hl, _, hd⟩ := hi.tuple mx
      obtain ⟨j, v, k1, k2, k3⟩ := atI_rel hl e1
      exact .inr (.inl ⟨a, us, i, v, rfl, hi.view my, hs, k1, q v H (hd j _ v k3 k2 z)⟩)
    · cases e2
  · rename_i z i
    split at hg
    · rename_i hz
      obtain ⟨c, e1, e2⟩ := Option.map_eq_some_iff.mp hg
      subst e2
      exact .inr (.inr ⟨z, i, c, hi.view mx, hi.view my, by rw [sizeLine_eq]; exact hz, e1, q _ H (hi.add rfl fun _ _ => rfl)⟩)
    · cases hg
  · cases hg
def gLen : List D → Option D := fun ds => match ds with
  | [.lst _ xs] => some (.int xs.length)
  | [.cst xs] => some (.int xs.length)
  | [.tup xs] => some (.int xs.length)
  | [.str z] => if z.length ≤ 16777216 then some (.int z.length) else none
  | _ => none
theorem one_of {K : Frg} {l : List Itm} {xs : List V} {d : D} (h : Paired (fun x dx => (some x, dx) ∈ l) xs [d]) : ∃ x, xs = [x] ∧ (some x, d) ∈ l := by
  cases h with
  | cons h r =>
    cases r
    exact ⟨_, rfl, h⟩
theorem two_of {K : Frg} {l : List Itm} {xs : List V} {d e : D} (h : Paired (fun x dx => (some x, dx) ∈ l) xs [d, e]) : ∃ x y, xs = [x, y] ∧ (some x, d) ∈ l ∧ (some y, e) ∈ l := by
  cases h with
  | cons h r =>
    cases r with
    | cons h' r =>
      cases r
      exact ⟨_, _, rfl, h, h'⟩
theorem on_len {K : Frg} : OpN K (fun xs H Q => ∃ x n, xs = [x] ∧ LenV K x H n ∧ Q (.int n) H) gLen := by
  intro xs H ds l Q d hi hm hg q
  unfold gLen at hg
  split at hg
  · obtain ⟨x, rfl, m⟩ := one_of (K := K) hm
    obtain ⟨a, us, rfl, hs, hl, _⟩ := hi.list m
    cases hg
    exact ⟨_, us.length, rfl, .inl ⟨us, SqL.of hs, rfl⟩, by rw [hl]; exact q _ H (hi.add rfl fun _ _ => rfl)⟩
  · obtain ⟨x, rfl, m⟩ := one_of (K := K) hm
    obtain ⟨a, us, rfl, hs, hl, _⟩ := hi.const m
    cases hg
    exact ⟨_, us.length, rfl, .inl ⟨us, hs, rfl⟩, by rw [hl]; exact q _ H (hi.add rfl fun _ _ => rfl)⟩
  · obtain ⟨x, rfl, m⟩ := one_of (K := K) hm
    obtain ⟨a, us, rfl, hs, hl, _⟩ := hi.tuple m
    cases hg
    exact ⟨_, us.length, rfl, .inr ⟨us, hs, rfl⟩, by rw [hl]; exact q _ H (hi.add rfl fun _ _ => rfl)⟩
  · rename_i z
    obtain ⟨x, rfl, m⟩ := one_of (K := K) hm
    have hx : x = .str z := hi.view m
    subst hx
    split at hg
    · rename_i hz
      cases hg
      exact ⟨_, z.length, rfl, ⟨by rw [sizeLine_eq]; exact hz, rfl⟩, q _ H (hi.add rfl fun _ _ => rfl)⟩
    · cases hg
  · cases hg
/-! ### builtins on ints -/
def gInt : List D → Option D := fun ds => match ds with
  | [.int i] => some (.int i)
  | [.bl b] => some (.int (if b then 1 else 0))
  | [.str a] => (PySem.intText? a).bind fun n => if a.length ≤ 640 then some (.int n) else none
  | _ => none
def rInt : List V → Hp → VK → Prop := fun xs H Q => ((∃ i, xs = [.int i] ∧ Q (.int i) H) ∨ ∃ k, xs = [.bl k] ∧ Q (.int (if k then 1 else 0)) H) ∨ ∃ a n, xs = [.str a] ∧ PySem.intText? a = some n ∧ a.length ≤ 640 ∧ Q (.int n) H
theorem call_intA : CallR X (.type "int") rInt := by
  intro pins s σ H xs us Q I r h
  rcases h with h | h
  · exact call_int1 pins s σ H xs us Q I r h
  · exact call_int_str pins s σ H xs us Q I r h
theorem on_int {K : Frg} : OpN K rInt gInt := by
  intro xs H ds l Q d hi hm hg q
  unfold gInt at hg
  split at hg
  · obtain ⟨x, rfl, m⟩ := one_of (K := K) hm
    cases hg
    exact .inl (.inl ⟨_, by rw [show x = _ from hi.view m], q _ H (hi.add rfl fun _ _ => rfl)⟩)
  · obtain ⟨x, rfl, m⟩ := one_of (K := K) hm
    cases hg
    exact .inl (.inr ⟨_, by rw [show x = _ from hi.view m], q _ H (hi.add rfl fun _ _ => rfl)⟩)
  · obtain ⟨x, rfl, m⟩ := one_of (K := K) hm
    obtain ⟨n, e, hg⟩ := Option.bind_eq_some_iff.mp hg
    split at hg
    · rename_i c
      cases hg
      exact .inr ⟨_, n, by rw [show x = _ from hi.view m], e, c, q _ H (hi.add rfl fun _ _ => rfl)⟩
    · cases hg
  · cases hg
def gAbs : List D → Option D := fun ds => match ds with
  | [.int i] => some (.int (if i < 0 then -i else i))
  | _ => none
theorem on_abs {K : Frg} : OpN K (fun xs H Q => ∃ i, xs = [.int i] ∧ Q (.int (if i < 0 then -i else i)) H) gAbs := by
  intro xs H ds l Q d hi hm hg q
  unfold gAbs at hg
  split at hg
  · obtain ⟨x, rfl, m⟩ := one_of (K := K) hm
    cases hg
    exact ⟨_, by rw [show x = _ from hi.view m], q _ H (hi.add rfl fun _ _ => rfl)⟩
  · cases hg
def gInt2 (f : Int → Int → Int) : List D → Option D := fun ds => match ds with
  | [.int i, .int j] => some (.int (f i j))
  | _ => none
theorem on_int2 {K : Frg} {f : Int → Int → Int} : OpN K (fun xs H Q => ∃ i j, xs = [.int i, .int j] ∧ Q (.int (f i j)) H) (gInt2 f) := by
  intro xs H ds l Q d hi hm hg q
  unfold gInt2 at hg
  split at hg
  · obtain ⟨x, y, rfl, m1, m2⟩ := two_of (K := K) hm
    cases hg
    exact ⟨_, _, by rw [show x = _ from hi.view m1, show y = _ from hi.view m2], q _ H (hi.add rfl fun _ _ => rfl)⟩
  · cases hg
def gMax2 : List D → Option D := gInt2 fun i j => if j > i then j else i
def gMin2 : List D → Option D := gInt2 fun i j => if j < i then j else i
def gGcd : List D → Option D := gInt2 fun a b => ((Nat.gcd a.natAbs b.natAbs : Nat) : Int)
theorem on_gcd {K : Frg} : OpN K rGcd gGcd := on_int2
def ints? : List D → Option (List Int)
  | [] => some []
  | .int i :: ds => (ints? ds).map fun r => i :: r
  | _ => none
theorem ints_ok {K : Frg} {H : Hp} : ∀ {ds : List D} {xs : List V} {ns : List Int}, ints? ds = some ns → FzL K H ds xs → xs = ns.map V.int
  | [], _, _, h, hl => by cases h; cases hl; rfl
  | .int i :: ds, _, _, h, ⟨x, r, ex, h1, h2⟩ => by
    obtain ⟨r', e1, e2⟩ := Option.map_eq_some_iff.mp h
    subst e2 ex
    rw [show x = .int i from h1, ints_ok e1 h2]
    rfl
  | .any :: _, _, _, h, _ => by cases h
  | .non :: _, _, _, h, _ => by cases h
  | .bl _ :: _, _, _, h, _ => by cases h
  | .str _ :: _, _, _, h, _ => by cases h
  | .lst _ _ :: _, _, _, h, _ => by cases h
  | .tup _ :: _, _, _, h, _ => by cases h
  | .cst _ :: _, _, _, h, _ => by cases h
  | .rng _ _ :: _, _, _, h, _ => by cases h
  | .ty _ :: _, _, _, h, _ => by cases h
def gSum : List D → Option D := fun ds => match ds with
  | [.lst _ xs] => (ints? xs).map fun ns => .int ns.sum
  | _ => none
theorem on_sum {K : Frg} : OpN K (rSum K) gSum := by
  intro xs H ds l Q d hi hm hg q
  unfold gSum at hg
  split at hg
  · obtain ⟨x, rfl, m⟩ := one_of (K := K) hm
    obtain ⟨ns, e, rfl⟩ := Option.map_eq_some_iff.mp hg
    obtain ⟨a, us, rfl, hs, hl, hz, _⟩ := hi.list m
    have := ints_ok e hz
    subst this
    exact ⟨a, ns, rfl, SqL.of hs, q _ H (hi.add rfl fun _ _ => rfl)⟩
  · cases hg
/-- the greatest, the least of some ints -/
def topI (ns : List Int) : Option Int := ns.max?
def botI (ns : List Int) : Option Int := ns.min?
def gMaxL : List D → Option D := fun ds => match ds with
  | [.lst _ xs] => (ints? xs).bind fun ns => ns.max?.map D.int
  | _ => none
def gMinL : List D → Option D := fun ds => match ds with
  | [.lst _ xs] => (ints? xs).bind fun ns => ns.min?.map D.int
  | _ => none
theorem on_maxL {K : Frg} : OpN K (rMax K) gMaxL := by
  intro xs H ds l Q d hi hm hg q
  unfold gMaxL at hg
  split at hg
  · obtain ⟨x, rfl, m⟩ := one_of (K := K) hm
    obtain ⟨ns, e, hg⟩ := Option.bind_eq_some_iff.mp hg
    obtain ⟨z, e2, rfl⟩ := Option.map_eq_some_iff.mp hg
    obtain ⟨a, us, rfl, hs, hl, hz, _⟩ := hi.list m
    have := ints_ok e hz
    subst this
    obtain ⟨z1, z2⟩ := List.max?_eq_some_iff.mp e2
    refine ⟨a, ns, rfl, SqL.of hs, List.length_pos_of_mem z1, fun y hy hle => ?_⟩
    have : y = z := Int.le_antisymm (z2 y hy) (hle z z1)
    rw [this]
    exact q _ H (hi.add rfl fun _ _ => rfl)
  · cases hg
theorem on_minL {K : Frg} : OpN K (rMin K) gMinL := by
  intro xs H ds l Q d hi hm hg q
  unfold gMinL at hg
  split at hg
  · obtain ⟨x, rfl, m⟩ := one_of (K := K) hm
    obtain ⟨ns, e, hg⟩ := Option.bind_eq_some_iff.mp hg
    obtain ⟨z, e2, rfl⟩ := Option.map_eq_some_iff.mp hg
    obtain ⟨a, us, rfl, hs, hl, hz, _⟩ := hi.list m
    have := ints_ok e hz
    subst this
    obtain ⟨z1, z2⟩ := List.min?_eq_some_iff.mp e2
    refine ⟨a, ns, rfl, SqL.of hs, List.length_pos_of_mem z1, fun y hy hle => ?_⟩
    have : y = z := Int.le_antisymm (hle z z1) (z2 y hy)
    rw [this]
    exact q _ H (hi.add rfl fun _ _ => rfl)
  · cases hg
/-! ### texts of numbers -/
def gStrI : List D → Option D := fun ds => match ds with
  | [.int i] => if i.natAbs < 2 ^ 1900 then some (.str (toString i)) else none
  | _ => none
theorem log_lt {i : Int} (h : i.natAbs < 2 ^ 1900) : i.natAbs.log2 < 1920 := Nat.lt_of_lt_of_le (PySem.Flt.log2_lt_of (by decide) h) (by decide)
theorem on_strI {K : Frg} : OpN K (fun xs H Q => ∃ i, xs = [.int i] ∧ i.natAbs.log2 < 1920 ∧ Q (.str (toString i)) H) gStrI := by
  intro xs H ds l Q d hi hm hg q
  unfold gStrI at hg
  split at hg
  · obtain ⟨x, rfl, m⟩ := one_of (K := K) hm
    split at hg
    · rename_i c
      cases hg
      exact ⟨_, by rw [show x = _ from hi.view m], log_lt c, q _ H (hi.add rfl fun _ _ => rfl)⟩
    · cases hg
  · cases hg
/-- repr of an int, of a text -/
def rRepr : List V → Hp → VK → Prop := fun xs H Q => (∃ i, xs = [.int i] ∧ i.natAbs.log2 < 1920 ∧ Q (.str (toString i)) H) ∨ ∃ z : Str, xs = [.str z] ∧ (reprText z).length ≤ sizeLine ∧ Q (.str (reprText z)) H
theorem call_repr : CallR X (.builtin "repr") rRepr := by
  intro pins s σ H xs us Q I r h
  rcases h with h | ⟨z, rfl, hz, q⟩
  · exact SkE.call_repr_int pins s σ H xs us Q I r h
  · cases r with
    | cons r rr =>
      cases rr
      obtain ⟨t, rfl⟩ := r
      exact PySem.P.repr_of_str ⟨.str _, H, I.tok _, ⟨_, rfl⟩, q⟩ hz
def gRepr : List D → Option D := fun ds => match ds with
  | [.int i] => if i.natAbs < 2 ^ 1900 then some (.str (toString i)) else none
  | [.str z] => if (reprText z).length ≤ 16777216 then some (.str (reprText z)) else none
  | _ => none
theorem on_repr {K : Frg} : OpN K rRepr gRepr := by
  intro xs H ds l Q d hi hm hg q
  unfold gRepr at hg
  split at hg
  · obtain ⟨x, rfl, m⟩ := one_of (K := K) hm
    split at hg
    · rename_i c
      cases hg
      exact .inl ⟨_, by rw [show x = _ from hi.view m], log_lt c, q _ H (hi.add rfl fun _ _ => rfl)⟩
    · cases hg
  · obtain ⟨x, rfl, m⟩ := one_of (K := K) hm
    split at hg
    · rename_i c
      cases hg
      exact .inr ⟨_, by rw [show x = _ from hi.view m], by rw [sizeLine_eq]; exact c, q _ H (hi.add rfl fun _ _ => rfl)⟩
    · cases hg
  · cases hg
/-! ### isinstance -/
def D.tyn : D → Option String
  | .non => some "NoneType"
  | .bl _ => some "bool"
  | .int _ => some "int"
  | .str _ => some "str"
  | .lst _ _ => some "list"
  | .tup _ => some "tuple"
  | _ => none
def isiT (a b : String) : Option Bool :=
  if b = "int" then (if a = "int" ∨ a = "bool" then some true else some false)
  else if b = "str" ∨ b = "bool" ∨ b = "list" ∨ b = "tuple" then some (decide (a = b))
  else none
def gIsi : List D → Option D := fun ds => match ds with
  | [a, .ty c] => a.tyn.bind fun t => (isiT t c).map D.bl
  | _ => none
theorem kit_all {K : Frg} : ∀ a ∈ ["NoneType", "bool", "int", "str", "list", "tuple"], ∀ b ∈ ["int", "str", "bool", "list", "tuple"], ∀ r, isiT a b = some r → PySem.W.kitOne K (.type a) (.type b) = some r := by
  intro a ha b hb r h
  apply kit_ty
  revert a b r
  decide +kernel
theorem tyn_in {d : D} {t : String} (h : d.tyn = some t) : t ∈ ["NoneType", "bool", "int", "str", "list", "tuple"] := by
  cases d <;> cases h <;> decide
theorem isi_in {a b : String} {r : Bool} (h : isiT a b = some r) : b ∈ ["int", "str", "bool", "list", "tuple"] := by
  unfold isiT at h
  split at h
  · rename_i e; subst e; decide
  · split at h
    · rename_i e
      rcases e with rfl | rfl | rfl | rfl <;> decide
    · cases h
theorem on_isi {K : Frg} : OpN K (rIsi K) gIsi := by
  intro xs H ds l Q d hi hm hg q
  unfold gIsi at hg
  split at hg
  · rename_i a c
    obtain ⟨x, y, rfl, m1, m2⟩ := two_of (K := K) hm
    obtain ⟨t, e1, hg⟩ := Option.bind_eq_some_iff.mp hg
    obtain ⟨b, e2, rfl⟩ := Option.map_eq_some_iff.mp hg
    have hy : y = .ty c := hi.view m2
    subst hy
    refine ⟨x, .ty c, .type t, .type c, b, rfl, .ty c, ?_, kit_all t (tyn_in e1) c (isi_in e2) b e2, q _ H (hi.add rfl fun _ _ => rfl)⟩
    have hx := hi.view m1
    cases a with
    | non => cases e1; cases hx; exact .base .non
    | bl _ => cases e1; cases hx; exact .base (.bl _)
    | int _ => cases e1; cases hx; exact .base (.int _)
    | str _ => cases e1; cases hx; exact .base (.str _)
    | lst _ _ =>
      cases e1
      obtain ⟨p, us, rfl, hs, _⟩ := hx
      exact .base (.lst hs)
    | tup _ =>
      cases e1
      obtain ⟨p, us, rfl, hs, _⟩ := hx
      rcases hs with (hs | ⟨o, hs⟩) | ⟨o, its, n, hs, hc, _⟩
      · exact .base (.tup hs)
      · exact .fTuple hs
      · exact .kTuple hs hc
    | any => cases e1
    | cst _ => cases e1
    | rng _ _ => cases e1
    | ty _ => cases e1
  · cases hg
/-! ### list.append -/
def gApp : List D → List D → Option (D × List D) := fun xs ds => match ds with
  | [d] => if xs.length < 16777216 then some (.non, xs ++ [d]) else none
  | _ => none
theorem mo_app {K : Frg} : MutOp K rAppend gApp := by
  intro a vs H ds xs l Q d ys hlen hi hg q
  unfold gApp at hg
  split at hg
  · rename_i e
    split at hg
    · rename_i c
      cases hg
      match vs, hlen with
      | [v], _ =>
        obtain ⟨us, hs, hl, hop⟩ := hi.open
        refine ⟨a, us, v, rfl, rfl, hs, by rw [sizeLine_eq, hl]; exact c, q .non _ ?_⟩
        have hcl : Items K [a] H (prs (us ++ [v]) (xs ++ [e]) ++ l) := by
          rw [prs_app hl, List.append_assoc]
          exact hop
        exact (Items.close hs (by simp [hl]) hcl).add (d := .non) rfl fun _ _ => rfl
    · cases hg
  · cases hg
/-! ### a module's name for a built-in function; a type's name -/
theorem de_bf {x : Str} {id : String} {p pos : Pos} {e : Expr} {es : List Expr} {fa : Ev → Option (List Hd × Ev)} {r : List V → Hp → VK → Prop} {g : List D → Option D} (hc : CallR X (.builtin id) r) (hgo : OpN X.K r g) (hg : Gl X x) (hm : X.mg x = some (.builtin id)) (ha : DA X (e :: es) fa)
    (hdb : (x == ("__debug__" : Str)) = false := by decide) (he : starEach (e :: es) X.env = (false, eval e X.env) :: starEach es X.env := by rfl) (hpl : (backTo pos (starEach es X.env)).any (·.1) = false := by rfl) :
    DE X (.Call (.Name x p) (e :: es) [] pos) (eN g fa) := by
  obtain ⟨t, ht, k⟩ := callN hgo ha
  exact ⟨_, pe_callBfun hc hg hm ht hdb he hpl, k⟩
theorem de_tyn {x : Str} {T : String} {pos : Pos} (hg : Gl X x) (hm : X.mg x = none) (hv : bootBuiltins x = some (.type T)) (hn : x ≠ "__name__" := by decide) (hd : (x == ("__debug__" : Str)) = false := by decide) : DE X (.Name x pos) (eC (.ty T)) :=
  de_const (pe_bltn (v := .ty T) hg hm hv rfl hn hd) rfl fun _ => rfl
end
end Mv
end
section
set_option Elab.async false
set_option linter.all false
set_option maxRecDepth 100000
/-! More of what the operations make of data. -/
namespace Mv
open PySem PySem.Spec PyProof.Rows L2

theorem hu64 {A : Around} {k : Nat} (hr : Room k A) : A.units + 64 < cLine := by have := hr.un; omega
theorem hu65 {A : Around} {k : Nat} (hr : Room k A) : A.units + 65 < cLine := by have := hr.un; omega
theorem hsl_of {C : List Nat} {f : Ev → Option (D × Ev)} : ∀ ρ hd ρ', hE f ρ = some (hd, ρ') → hsl C hd := fun ρ hd ρ' h => by
  obtain ⟨p, _, e⟩ := Option.map_eq_some_iff.mp h
  cases e
  trivial
theorem hsl_var {C : List Nat} {i : Nat} (hi : i ∈ C) : ∀ ρ hd ρ', hV i ρ = some (hd, ρ') → hsl C hd := fun ρ hd ρ' h => by
  unfold hV at h
  split at h
  · cases h
  · cases h; exact hi
  · cases h
theorem blk_ok {N : List Str} {sc scope : Scope} {own : List (Str × Nat)} (h : blkC N sc scope own = true) : BlkOk N sc scope own := blkOk_by h

theorem FOk.void {P : Program} {w : World} {K : Frg} {mg : Str → Option Value} {base : Heap} {k : Nat} {x : Str} {st : Stmt} {f : Addr} {fd : FuncData} {ps : List Str} (F : Fun K x x st f fd) (hb : Binds K fd ps []) (hm : mg x = some (.ref f)) :
    FOk P w K mg base k x ps (fun _ => none) :=
  ⟨f, fd, hm, F.kp, hb, (by obtain ⟨oc, od, kV, doc, pm, an, cd', ct, osl, e, lk, _⟩ := F.ex; exact ⟨oc, od, osl, lk⟩), ⟨fun vs H Q E ⟨l, ds, r, bs, h1, _⟩ => h1, fun A outer s H args us vs Q E _ _ _ _ ⟨l, ds, r, bs, _, _, _, hf, _⟩ => nomatch hf⟩⟩
/-- what was owned is frozen -/
def eFz (f : Ev → Option (D × Ev)) : Ev → Option (D × Ev) := fun ρ => (f ρ).map fun p => (p.1.fz, p.2)
theorem de_fz {X : Cx} {e : Expr} {f : Ev → Option (D × Ev)} (h : DE X e f) : DE X e (eFz f) := by
  obtain ⟨t, ht, k⟩ := h.ex
  refine ⟨t, ht, fun σ H ρ l Q r ρ' hl hi hf q => ?_⟩
  obtain ⟨⟨d, ρ1⟩, e1, hf⟩ := Option.map_eq_some_iff.mp hf
  cases hf
  exact k σ H ρ l Q d ρ1 hl hi e1 fun v H1 l1 i1 => q v H1 l1 i1.freeze
section
variable {X : Cx}
/-! ### f-strings -/
def gFmt : D → Option D := fun d => match d with
  | .str y => if y.length ≤ 16777216 then some (.str y) else none
  | .int i => if i.natAbs < 2 ^ 1900 then some (.str (toString i)) else none
  | _ => none
theorem de_fmt {e : Expr} {pos : Pos} {f : Ev → Option (Hd × Ev)} (h : DH X e f) : DE X (.FormattedValue e (-1) none pos) (e1 gFmt f) := by
  obtain ⟨t, ht, k⟩ := h.ex
  refine ⟨_, pe_fmt ht, fun σ H ρ l Q d ρ' hl hi hf q => ?_⟩
  obtain ⟨⟨hd, ρ1⟩, e1, hf⟩ := Option.bind_eq_some_iff.mp hf
  obtain ⟨b, e2, hf⟩ := Option.map_eq_some_iff.mp hf
  obtain ⟨eb, eρ⟩ : b = d ∧ ρ1 = ρ' := by cases hf; exact ⟨rfl, rfl⟩
  subst eb eρ
  refine k σ H ρ l _ hd ρ1 hl hi e1 fun v H' hl' ha hi' => ?_
  have hz := hi'.view (mem_hd (X := X) (hl := by omega) ha hi')
  replace e2 : gFmt (hd.get ρ1) = some b := e2
  unfold gFmt at e2
  split at e2
  · rename_i y e
    rw [e] at hz
    cases hz
    split at e2
    · rename_i c
      cases e2
      exact .inl ⟨y, rfl, by rw [sizeLine_eq]; exact c, q _ H' hl' (hi'.drop.add (d := .str y) rfl fun _ _ => rfl)⟩
    · cases e2
  · rename_i i e
    rw [e] at hz
    cases hz
    split at e2
    · rename_i c
      cases e2
      exact .inr ⟨i, rfl, log_lt c, q _ H' hl' (hi'.drop.add (d := .str (toString i)) rfl fun _ _ => rfl)⟩
    · cases e2
  · cases e2
def eJ : List (Ev → Option (D × Ev)) → Str → Ev → Option (D × Ev)
  | [], acc, ρ => some (.str acc, ρ)
  | f :: fs, acc, ρ => (f ρ).bind fun p => match p.1 with
    | .str y => if (acc ++ y).length ≤ 16777216 then eJ fs (acc ++ y) p.2 else none
    | _ => none
structure DJ (X : Cx) (es : List Expr) (fs : List (Ev → Option (D × Ev))) : Prop where
  ex : ∃ ts, PJ X es ts ∧ ∀ (σ : Sl) (H : Hp) (ρ : Ev) (l : List Itm) (acc : Str) (Q : Str → Hp → Prop) (r : D) (ρ' : Ev), σ.length = ρ.length → Items X.K [] H (σ.zip ρ ++ l) → eJ fs acc ρ = some (r, ρ') →
    (∀ out H', r = .str out → ρ'.length = ρ.length → Items X.K [] H' (σ.zip ρ' ++ l) → Q out H') → tJs ts acc σ H Q
theorem dj_nil : DJ X [] [] := ⟨[], .nil, fun σ H ρ l acc Q r ρ' hl hi hf q => by cases hf; exact q acc H rfl rfl hi⟩
theorem dj_cons {e : Expr} {es : List Expr} {f : Ev → Option (D × Ev)} {fs : List (Ev → Option (D × Ev))} (h : DE X e f) (h' : DJ X es fs) : DJ X (e :: es) (f :: fs) := by
  obtain ⟨t, ht, k⟩ := h.ex
  obtain ⟨ts, hts, k'⟩ := h'.ex
  refine ⟨t :: ts, .cons ht hts, fun σ H ρ l acc Q r ρ' hl hi hf q => ?_⟩
  obtain ⟨⟨d, ρ1⟩, e1, hf⟩ := Option.bind_eq_some_iff.mp hf
  refine k σ H ρ l _ d ρ1 hl hi e1 fun v H1 l1 i1 => ?_
  cases d with
  | str y =>
    replace hf : (if (acc ++ y).length ≤ 16777216 then eJ fs (acc ++ y) ρ1 else none) = some (r, ρ') := hf
    split at hf
    · rename_i c
      have hv : v = .str y := i1.view (List.mem_cons_self)
      exact ⟨y, hv, by rw [sizeLine_eq]; exact c, k' σ H1 ρ1 l (acc ++ y) Q r ρ' (by omega) i1.tail hf fun out H2 eo l2 i2 => q out H2 eo (by omega) i2⟩
    · cases hf
  | _ => cases hf
theorem de_joined {v1 v2 : Expr} {rest : List Expr} {pos : Pos} {fs : List (Ev → Option (D × Ev))} (h : DJ X (v1 :: v2 :: rest) fs) : DE X (.JoinedStr (v1 :: v2 :: rest) pos) (eJ fs Str.empty) := by
  obtain ⟨ts, hts, k⟩ := h.ex
  refine ⟨_, pe_joined hts, fun σ H ρ l Q r ρ' hl hi hf q => ?_⟩
  refine k σ H ρ l Str.empty _ r ρ' hl hi hf fun out H' eo hl' hi' => ?_
  subst eo
  exact q _ H' hl' (hi'.add (d := .str out) rfl fun _ _ => rfl)
theorem de_joined1 {e : Expr} {pos : Pos} {f : Ev → Option (D × Ev)} (h : DE X e f) : DE X (.JoinedStr [e] pos) f := by
  obtain ⟨t, ht, k⟩ := h.ex
  exact ⟨_, pe_joined1 ht, k⟩
end
end Mv
end
section
set_option Elab.async false
set_option linter.all false
set_option maxRecDepth 100000
/-! list, tuple, any, all. -/
namespace Mv
open PySem PySem.Spec PyProof.Rows L2
def gList : List D → Option D := fun ds => match ds with
  | [.lst _ xs] => if D.frzL xs = true then some (.lst true xs) else none
  | [.tup xs] => if D.frzL xs = true then some (.lst true xs) else none
  | _ => none
theorem on_list {K : Frg} : OpN K (fun xs H Q => ∃ p ys, xs = [.ref p] ∧ (SqL K H p ys ∨ SqT K H p ys) ∧ ∀ l, H l = none → Q (.ref l) (upd H l (.lst ys))) gList := by
  intro xs H ds l Q d hi hm hg q
  unfold gList at hg
  split at hg
  · obtain ⟨x, rfl, m⟩ := one_of (K := K) hm
    split at hg
    · rename_i c
      cases hg
      obtain ⟨a, us, rfl, hs, hl, i1⟩ := hi.listAll m c
      exact ⟨a, us, rfl, .inl (SqL.of hs), fun p np => q _ _ (Items.new np hl i1 (fun b hb => by cases hb))⟩
    · cases hg
  · obtain ⟨x, rfl, m⟩ := one_of (K := K) hm
    split at hg
    · rename_i c
      cases hg
      obtain ⟨a, us, rfl, hs, hl, i1⟩ := hi.tupleAll m c
      exact ⟨a, us, rfl, .inr hs, fun p np => q _ _ (Items.new np hl i1 (fun b hb => by cases hb))⟩
    · cases hg
  · cases hg
def gTuple : List D → Option D := fun ds => match ds with
  | [.lst _ xs] => if D.frzL xs = true then some (.tup xs) else none
  | [.tup xs] => if D.frzL xs = true then some (.tup xs) else none
  | _ => none
theorem on_tuple {K : Frg} : OpN K (fun xs H Q => ∃ p ys, xs = [.ref p] ∧ ((SqL K H p ys ∧ ∀ l, H l = none → Q (.ref l) (upd H l (.tup ys))) ∨ (SqT K H p ys ∧ Q (.ref p) H))) gTuple := by
  intro xs H ds l Q d hi hm hg q
  unfold gTuple at hg
  split at hg
  · obtain ⟨x, rfl, m⟩ := one_of (K := K) hm
    split at hg
    · rename_i c
      cases hg
      obtain ⟨a, us, rfl, hs, hl, i1⟩ := hi.listAll m c
      exact ⟨a, us, rfl, .inl ⟨SqL.of hs, fun p np => q _ _ (Items.newT np hl i1)⟩⟩
    · cases hg
  · obtain ⟨x, rfl, m⟩ := one_of (K := K) hm
    split at hg
    · rename_i c
      cases hg
      obtain ⟨a, us, rfl, hs, hl, _⟩ := hi.tuple m
      exact ⟨a, us, rfl, .inr ⟨hs, q _ _ (hi.dup m c)⟩⟩
    · cases hg
  · cases hg
def bls? : List D → Option (List Bool)
  | [] => some []
  | .bl i :: ds => (bls? ds).map fun r => i :: r
  | _ => none
theorem bls_ok {K : Frg} {H : Hp} : ∀ {ds : List D} {xs : List V} {ns : List Bool}, bls? ds = some ns → FzL K H ds xs → xs = ns.map V.bl
  | [], _, _, h, hl => by cases h; cases hl; rfl
  | .bl i :: ds, _, _, h, ⟨x, r, ex, h1, h2⟩ => by
    obtain ⟨r', e1, e2⟩ := Option.map_eq_some_iff.mp h
    subst e2 ex
    rw [show x = .bl i from h1, bls_ok e1 h2]
    rfl
  | .any :: _, _, _, h, _ => by cases h
  | .non :: _, _, _, h, _ => by cases h
  | .int _ :: _, _, _, h, _ => by cases h
  | .str _ :: _, _, _, h, _ => by cases h
  | .lst _ _ :: _, _, _, h, _ => by cases h
  | .tup _ :: _, _, _, h, _ => by cases h
  | .cst _ :: _, _, _, h, _ => by cases h
  | .rng _ _ :: _, _, _, h, _ => by cases h
  | .ty _ :: _, _, _, h, _ => by cases h
def gAny : List D → Option D := fun ds => match ds with
  | [.lst _ xs] => (bls? xs).map fun bs => .bl (bs.any id)
  | _ => none
def gAll : List D → Option D := fun ds => match ds with
  | [.lst _ xs] => (bls? xs).map fun bs => .bl (bs.all id)
  | _ => none
theorem on_any {K : Frg} : OpN K (rAny K) gAny := by
  intro xs H ds l Q d hi hm hg q
  unfold gAny at hg
  split at hg
  · obtain ⟨x, rfl, m⟩ := one_of (K := K) hm
    obtain ⟨ns, e, rfl⟩ := Option.map_eq_some_iff.mp hg
    obtain ⟨a, us, rfl, hs, hl, hz, _⟩ := hi.list m
    have := bls_ok e hz
    subst this
    exact ⟨a, ns, rfl, SqL.of hs, q _ H (hi.add rfl fun _ _ => rfl)⟩
  · cases hg
theorem on_all {K : Frg} : OpN K (rAll K) gAll := by
  intro xs H ds l Q d hi hm hg q
  unfold gAll at hg
  split at hg
  · obtain ⟨x, rfl, m⟩ := one_of (K := K) hm
    obtain ⟨ns, e, rfl⟩ := Option.map_eq_some_iff.mp hg
    obtain ⟨a, us, rfl, hs, hl, hz, _⟩ := hi.list m
    have := bls_ok e hz
    subst this
    exact ⟨a, ns, rfl, SqL.of hs, q _ H (hi.add rfl fun _ _ => rfl)⟩
  · cases hg
/-! ### what the top has left -/
theorem fn_top {K : Frg} {h : Heap} {mg : Str → Option Value} {x : Str} {st : Stmt} {f : Addr} {ps : List Str} {od an : Option Addr} {sl : Array (Option Value)} {oc kV dc pm cd ct : Value} (X : K.In h) (G : h.Ns mainGlobals mg)
    (a : PySem.W.nsIn K mainGlobals x = some (some (.ref f))) (l : K.lookup f = some ⟨oc, od, .func (PySem.W.fnOf x x (defArgs st) (defBody st) (defScope st) .none kV dc pm an cd ct), sl⟩) (c : PySem.W.codeIn K cd x = true) (k : PySem.W.keepIn K (.ref f) = true)
    (hb : ∀ (kV doc pm : Value) (an : Option Addr) (cdv ct : Value) (us : List Value), us.length = ps.length → bindArgs (PySem.W.fnOf x x (defArgs st) (defBody st) (defScope st) .none kV doc pm an cdv ct) ⟨us, []⟩ = pure (ps.zip us)) :
    ∃ f fd, Fun K x x st f fd ∧ Binds K fd ps [] ∧ mg x = some (.ref f) := by
  have F := fun_mk (st := st) l c k
  exact ⟨f, _, F, F.binds hb, PySem.W.mg_of X G a⟩
/-- the law's own promise -/
def spL (K : Frg) : Sp := fun vs H Q _ => ∃ (a : Addr) (ns : List Int), vs = [.ref a] ∧ SqL K H a (ns.map V.int) ∧ ns.length ≤ 63 ∧ ∀ H', Q (.bl true) H'
theorem law_end {P : Program} {w : World} {K : Frg} {mg : Str → Option Value} {base : Heap} {k : Nat} {x y : Str} {F : List D → Option (D × List D)} (h : FOk P w K mg base k x [y] F) (hF : ∀ ns : List Int, ns.length ≤ 63 → ∃ bs, F [.cst (ns.map D.int)] = some (.bl true, bs)) {fa : Addr} (hfa : mg x = some (.ref fa)) {fd : FuncData} {oc : Value} {od : Option Addr} {osl : Array (Option Value)} (hk : K.lookup fa = some ⟨oc, od, .func fd, osl⟩) :
    FnOk P w K mg base CX0 k fa fd [y] (spL K) := by
  obtain ⟨f, fd', h1, h2, h3, ⟨oc', od', osl', h4⟩, h5⟩ := h.ex
  rw [hfa] at h1
  cases h1
  rw [hk] at h4
  cases h4
  refine h5.imp ?_
  rintro vs H Q E ⟨a, ns, rfl, hs, hn, q⟩
  obtain ⟨bs, e⟩ := hF ns hn
  have hfz : ∀ ns : List Int, FzL K H (ns.map D.int) (ns.map V.int) := fun ns => by
    induction ns with
    | nil => rfl
    | cons n r ih => exact ⟨_, _, rfl, rfl, ih⟩
  have hfr : ∀ ns : List Int, D.frzL (ns.map D.int) = true := fun ns => by
    induction ns with
    | nil => rfl
    | cons n r ih => exact ih
  refine ⟨[], [.cst (ns.map D.int)], .bl true, bs, rfl, rfl, ?_, e, fun v H' hb hi => ?_⟩
  · exact ⟨H, [], Same.refl H, ⟨[], [], ⟨⟨a, _, rfl, hs, hfz ns⟩, rfl⟩, rfl, rfl⟩, .nil, fun a ha => by cases ha⟩
  · have : v = .bl true := hi.view (List.mem_cons_self)
    rw [this]
    exact q H'
end Mv
end
section
set_option Elab.async false
set_option linter.all false
set_option maxRecDepth 100000
/-! Slices. -/
namespace Mv
open PySem PySem.Spec PyProof.Rows L2
def cutD (xs : List D) (lo hi : Option Int) : List D := (xs.drop (HT.sIx xs.length 0 lo)).take (HT.sIx xs.length xs.length hi - HT.sIx xs.length 0 lo)
/-- what a slice makes of data (of a tuple never the whole) -/
def gSl : D → Option Int → Option Int → Option D := fun d lo hi => match d with
  | .lst _ xs => if D.frzL xs = true then some (.lst true (cutD xs lo hi)) else none
  | .str z => if z.length ≤ 16777216 then some (.str (cutS z lo hi)) else none
  | .tup xs => if D.frzL xs = true ∧ ¬ (HT.sIx xs.length 0 lo = 0 ∧ HT.sIx xs.length xs.length hi = xs.length) then some (.tup (cutD xs lo hi)) else none
  | _ => none
def rSl (K : PySem.W.Frag) : V → Option Int → Option Int → Hp → VK → Prop := fun x lo hi H Q => (rSlL K x lo hi H Q ∨ rSlS x lo hi H Q) ∨ rSlT K x lo hi H Q
theorem sl_any {X : Cx} : SlR X (rSl X.K) := SlR.or (SlR.or sl_list sl_str) sl_tup
theorem prs_drop : ∀ (n : Nat) (us : List V) (ds : List D), prs (us.drop n) (ds.drop n) = (prs us ds).drop n
  | 0, _, _ => rfl
  | n + 1, [], ds => by unfold prs; simp
  | n + 1, u :: us, [] => by unfold prs; simp
  | n + 1, u :: us, d :: ds => by
    show prs (us.drop n) (ds.drop n) = (prs us ds).drop n
    exact prs_drop n us ds
theorem prs_take : ∀ (n : Nat) (us : List V) (ds : List D), prs (us.take n) (ds.take n) = (prs us ds).take n
  | 0, _, _ => by unfold prs; simp
  | n + 1, [], ds => by unfold prs; simp
  | n + 1, u :: us, [] => by unfold prs; simp
  | n + 1, u :: us, d :: ds => by
    show (some u, d) :: prs (us.take n) (ds.take n) = (some u, d) :: (prs us ds).take n
    rw [prs_take n us ds]
theorem Items.cut {K : Frg} {E : List Addr} {H : Hp} {us : List V} {ds : List D} {l : List Itm} {lo hi : Option Int} (hl : us.length = ds.length) (h : Items K E H (prs us ds ++ l)) : Items K E H (prs (cutV us lo hi) (cutD ds lo hi) ++ l) := by
  unfold cutV cutD
  rw [hl, prs_take, prs_drop]
  generalize HT.sIx ds.length 0 lo = a
  generalize HT.sIx ds.length ds.length hi - a = b
  refine h.sub ⟨(prs us ds).take a ++ ((prs us ds).drop a).drop b, ?_⟩
  have e : prs us ds = (prs us ds).take a ++ (((prs us ds).drop a).take b ++ ((prs us ds).drop a).drop b) := by rw [List.take_append_drop, List.take_append_drop]
  conv => lhs; rw [e]
  simp only [List.append_assoc]
  refine List.Perm.append_left _ ?_
  rw [← List.append_assoc, ← List.append_assoc]
  exact List.Perm.append_right l List.perm_append_comm
theorem cutV_len {us : List V} {ds : List D} {lo hi : Option Int} (hl : us.length = ds.length) : (cutV us lo hi).length = (cutD ds lo hi).length := by
  unfold cutV cutD
  rw [List.length_take, List.length_take, List.length_drop, List.length_drop, hl]
theorem o3_sl {K : Frg} {x : V} {H : Hp} {dx : D} {lo hi : Option Int} {l : List Itm} {Q : VK} {d : D} (hi' : Items K [] H l) (m : (some x, dx) ∈ l) (hg : gSl dx lo hi = some d)
    (q : ∀ v H', Items K [] H' ((some v, d) :: l) → Q v H') : rSl K x lo hi H Q := by
  unfold gSl at hg
  split at hg
  · split at hg
    · rename_i c
      cases hg
      obtain ⟨a, us, rfl, hs, hl, i1⟩ := hi'.listAll m c
      exact .inl (.inl ⟨a, us, rfl, SqL.of hs, fun p np => q _ _ (Items.new np (cutV_len hl) (Items.cut hl i1) (fun b hb => by cases hb))⟩)
    · cases hg
  · split at hg
    · rename_i c
      cases hg
      rename_i z
      exact .inl (.inr ⟨z, hi'.view m, by rw [sizeLine_eq]; exact c, q _ H (hi'.add rfl fun _ _ => rfl)⟩)
    · cases hg
  · split at hg
    · rename_i c
      cases hg
      obtain ⟨a, us, rfl, hs, hl, i1⟩ := hi'.tupleAll m c.1
      exact .inr ⟨a, us, rfl, hs, by rw [hl]; exact c.2, fun p np => q _ _ (Items.newT np (cutV_len hl) (Items.cut hl i1))⟩
    · cases hg
  · cases hg
section
variable {X : Cx}
/-- a slice's bound -/
structure DP (X : Cx) (e : Option Expr) (f : Ev → Option (Option Int × Ev)) : Prop where
  ex : ∃ t, PO X e t ∧ ∀ (σ : Sl) (H : Hp) (ρ : Ev) (l : List Itm) (Q : Option Int → Hp → Prop) (r : Option Int) (ρ' : Ev), σ.length = ρ.length → Items X.K [] H (σ.zip ρ ++ l) → f ρ = some (r, ρ') →
    (∀ H', ρ'.length = ρ.length → Items X.K [] H' (σ.zip ρ' ++ l) → Q r H') → t σ H Q
def pN : Ev → Option (Option Int × Ev) := fun ρ => some (none, ρ)
def pS (f : Ev → Option (Hd × Ev)) : Ev → Option (Option Int × Ev) := fun ρ => (f ρ).bind fun p => match p.1.get p.2 with
  | .int i => some (some i, p.2)
  | _ => none
theorem dp_none : DP X none pN := ⟨_, po_none, fun σ H ρ l Q r ρ' hl hi hf q => by cases hf; exact q H rfl hi⟩
theorem dp_some {e : Expr} {f : Ev → Option (Hd × Ev)} (h : DH X e f) : DP X (some e) (pS f) := by
  obtain ⟨t, pt, k⟩ := h.ex
  refine ⟨_, po_some pt, fun σ H ρ l Q r ρ' hl hi hf q => ?_⟩
  obtain ⟨⟨hd, ρ1⟩, e1, hf⟩ := Option.bind_eq_some_iff.mp hf
  refine k σ H ρ l _ hd ρ1 hl hi e1 fun v H' l1 a1 i1 => ?_
  have m := i1.view (mem_hd (X := X) (hl := by omega) a1 i1)
  replace hf : (match hd.get ρ1 with
    | .int i => some (some i, ρ1)
    | _ => none) = some (r, ρ') := hf
  split at hf
  · rename_i i e
    cases hf
    rw [e] at m
    exact ⟨i, m, q H' l1 i1.drop⟩
  · cases hf
def eSl (fe : Ev → Option (Hd × Ev)) (fl fh : Ev → Option (Option Int × Ev)) : Ev → Option (D × Ev) := fun ρ => (fe ρ).bind fun p => (fl p.2).bind fun q => (fh q.2).bind fun r => (gSl (p.1.get r.2) q.1 r.1).map fun d => (d, r.2)
theorem de_sl {e : Expr} {lo hi : Option Expr} {p2 pos : Pos} {fe : Ev → Option (Hd × Ev)} {fl fh : Ev → Option (Option Int × Ev)} (he : DH X e fe) (hlo : DP X lo fl) (hhi : DP X hi fh) : DE X (.Subscript e (.Slice lo hi none p2) pos) (eSl fe fl fh) := by
  obtain ⟨te, pe, ke⟩ := he.ex
  obtain ⟨tl, pl, kl⟩ := hlo.ex
  obtain ⟨th, ph, kh⟩ := hhi.ex
  refine ⟨_, pe_slice sl_any pe pl ph, fun σ H ρ l Q d ρ' hl hi hf q => ?_⟩
  obtain ⟨⟨hd, ρ1⟩, e1, hf⟩ := Option.bind_eq_some_iff.mp hf
  obtain ⟨⟨lo, ρ2⟩, e2, hf⟩ := Option.bind_eq_some_iff.mp hf
  obtain ⟨⟨hi2, ρ3⟩, e3, hf⟩ := Option.bind_eq_some_iff.mp hf
  obtain ⟨d', e4, hf⟩ := Option.map_eq_some_iff.mp hf
  cases hf
  refine ke σ H ρ l _ hd ρ1 hl hi e1 fun v H1 l1 a1 i1 => ?_
  have i1' : Items X.K [] H1 (σ.zip ρ1 ++ (hd.its v ++ l)) := i1.perm (by
    rw [← List.append_assoc, ← List.append_assoc]
    exact List.Perm.append_right l List.perm_append_comm)
  refine kl σ H1 ρ1 _ _ lo ρ2 (by omega) i1' e2 fun H2 l2 i2 => ?_
  refine kh σ H2 ρ2 _ _ hi2 ρ3 (by omega) i2 e3 fun H3 l3 i3 => ?_
  have i3' : Items X.K [] H3 (hd.its v ++ (σ.zip ρ3 ++ l)) := i3.perm (by
    rw [← List.append_assoc, ← List.append_assoc]
    exact List.Perm.append_right l List.perm_append_comm)
  have m := mem_hd (X := X) (hl := by omega) a1 i3'
  refine o3_sl i3' m e4 fun w H4 i4 => ?_
  exact q w H4 (by show ρ3.length = ρ.length; omega) (i4.sub ⟨hd.its v, by
    exact List.perm_middle.symm⟩)
/-! ### enumerate, zip -/
theorem late1 {C : List Nat} {σ σ1 : Sl} {hd : Hd} {v : V} {ρ2 : Ev} (a1 : hd.at' σ v) (hh : hsl C hd) (ag : Agr C σ σ1) (h1 : σ1.length = σ.length) (h2 : ρ2.length = σ.length) : (some v, hd.get ρ2) ∈ σ1.zip ρ2 ∨ (some v, hd.get ρ2) ∈ hd.its v := by
  cases hd with
  | tm d => exact .inr (by simp [Hd.its, Hd.get])
  | sl i =>
    have a1' : σ[i]? = some (some v) := a1
    have a2 : σ1[i]? = some (some v) := by rw [ag i hh]; exact a1'
    have h3 : i < ρ2.length := by have := (List.getElem?_eq_some_iff.mp a2).1; omega
    have h4 : ρ2[i]? = some ρ2[i] := List.getElem?_eq_getElem h3
    refine .inl ?_
    show (some v, ρ2.getD i .any) ∈ _
    rw [getD_of h4]
    exact zip_mem a2 h4
/-- a list's turns -/
theorem it_list {K : Frg} {H : Hp} {l : List Itm} {v : V} {d : D} (hi : Items K [] H l) (hm : (some v, d) ∈ l) (k : Nat) (hL : isL d = true) :
    ∃ a, v = .ref a ∧ (itD d k = some none → ∃ xs : List V, SqL K H a xs ∧ xs.length ≤ k) ∧ ∀ c, itD d k = some (some c) → (∃ (xs : List V) (x : V), SqL K H a xs ∧ xs[k]? = some x) ∧ ∀ x, (∀ xs, SqL K H a xs → xs[k]? = some x) → Items K [] H ((some x, c) :: l) ∧ c.frz = true := by
  obtain ⟨it1, it2, it3, it4⟩ := it_item hi hm k
  cases d with
  | lst b ds =>
    obtain ⟨a, ev, p1, p2⟩ := it1 b ds rfl
    refine ⟨a, ev, fun h => p1 h, fun c h => ⟨(p2 c h).1, fun x hx => ⟨(p2 c h).2 x H ⟨rfl, hx⟩, ?_⟩⟩⟩
    replace h : (match ds[k]? with
      | some c => if c.frz = true then some (some c) else none
      | none => some (none : Option D)) = some (some c) := h
    split at h
    · split at h
      · cases h; assumption
      · cases h
    · cases h
  | cst ds =>
    obtain ⟨a, ev, p1, p2⟩ := it2 ds rfl
    refine ⟨a, ev, fun h => p1 h, fun c h => ⟨(p2 c h).1, fun x hx => ⟨(p2 c h).2 x H ⟨rfl, hx⟩, ?_⟩⟩⟩
    replace h : (match ds[k]? with
      | some c => if c.frz = true then some (some c) else none
      | none => some (none : Option D)) = some (some c) := h
    split at h
    · split at h
      · cases h; assumption
      · cases h
    · cases h
  | _ => cases hL
def itE (h : Hd) : Src := fun k ρ => (itK isL h k ρ).map (Option.map fun c => D.tup [.int (k : Nat), c])
def iEn (fa : Ev → Option (List Hd × Ev)) : Ev → Option (Src × Ev) := fun ρ => (fa ρ).bind fun p => match p.1 with
  | [h] => if isL (h.get p.2) = true then some (itE h, p.2) else none
  | _ => none
theorem di_enum {C : List Nat} {e : Expr} {fa : Ev → Option (List Hd × Ev)} {p pos tpos : Pos} {elts : List Expr} {kk : Nat} (hg : Gl X "enumerate") (hm : X.mg "enumerate" = none) (ha : DA X [e] fa) (hC : ∀ ρ hds ρ', fa ρ = some (hds, ρ') → ∀ h ∈ hds, hsl C h) (hs : starEach [e] X.env = [(false, eval e X.env)] := by rfl) :
    DI X C (.Tuple elts kk tpos) (.Call (.Name "enumerate" p) [e] [] pos) (iEn fa) := by
  obtain ⟨t, ht, k⟩ := ha.ex
  refine ⟨_, pi_enum hg hm ht hs, fun σ H ρ l R it ρ' hl hi hf q => ?_⟩
  obtain ⟨⟨hds, ρ1⟩, e1, hf⟩ := Option.bind_eq_some_iff.mp hf
  refine k σ H ρ l _ hds ρ1 hl hi e1 fun vs H1 l1 a1 i1 => ?_
  have hh := hC ρ hds ρ1 e1
  match hds, vs, hf, a1, i1, hh with
  | [h], [v], hf, ⟨a1, _⟩, i1, hh =>
    replace hf : (if isL (h.get ρ1) = true then some (itE h, ρ1) else none) = some (it, ρ') := hf
    split at hf
    · rename_i hL
      cases hf
      have i1' : Items X.K [] H1 (h.its v ++ (σ.zip ρ' ++ l)) := by
        have e0 : hits [h] [v] = h.its v := by show h.its v ++ [] = _; rw [List.append_nil]
        rw [e0] at i1; exact i1
      have m1 := mem_hd (X := X) (hl := by omega) a1 i1'
      obtain ⟨a, ev, _, _⟩ := it_list i1' m1 0 hL
      subst ev
      have hq : ∃ xs, SqL X.K H1 a xs := by
        cases e : h.get ρ' with
        | lst b ds => rw [e] at m1; obtain ⟨a', xs, ev, hs, _⟩ := i1'.list m1; cases ev; exact ⟨xs, SqL.of hs⟩
        | cst ds => rw [e] at m1; obtain ⟨a', xs, ev, hs, _⟩ := i1'.const m1; cases ev; exact ⟨xs, hs⟩
        | _ => rw [e] at hL; cases hL
      obtain ⟨xs, hq⟩ := hq
      refine ⟨a, xs, rfl, hq, q (Ite X.K a) H1 (h.its (.ref a)) l1 (i1'.perm perm_mid) fun k σ1 ρ2 H2 l2 ag h1 h2 i2 => ?_⟩
      have m2 : (some (.ref a), h.get ρ2) ∈ σ1.zip ρ2 ++ (h.its (.ref a) ++ l2) := by
        rcases late1 a1 (hh h (by simp)) ag h1 h2 with m | m
        · exact List.mem_append_left _ m
        · exact List.mem_append_right _ (List.mem_append_left _ m)
      unfold itE itK
      by_cases hL2 : isL (h.get ρ2) = true
      · rw [if_pos hL2]
        obtain ⟨a', ev, p1, p2⟩ := it_list i2 m2 k hL2
        cases ev
        refine ⟨fun hn => ?_, fun d hd => ?_⟩
        · obtain ⟨o, eo, eo2⟩ := Option.map_eq_some_iff.mp hn
          cases o with
          | none => exact p1 eo
          | some c => cases eo2
        · obtain ⟨o, eo, eo2⟩ := Option.map_eq_some_iff.mp hd
          cases o with
          | none => cases eo2
          | some c =>
            cases eo2
            obtain ⟨g1, g2⟩ := p2 c eo
            refine ⟨g1, fun x H3 hy => ?_⟩
            obtain ⟨T, y, rfl, nT, rfl, hy⟩ := hy
            obtain ⟨i3, _⟩ := g2 y hy
            refine Items.newT nT rfl ?_
            exact i3.add (v := .int (k : Nat)) rfl fun _ _ => rfl
      · rw [if_neg hL2]
        exact ⟨fun h => (by cases h), fun d h => (by cases h)⟩
    · cases hf
def itZ (h h' : Hd) : Src := fun k ρ => (itK isL h k ρ).bind fun o => (itK isL h' k ρ).map fun o' => match o, o' with
  | some c, some c' => some (D.tup [c, c'])
  | _, _ => none
def iZp (fa : Ev → Option (List Hd × Ev)) : Ev → Option (Src × Ev) := fun ρ => (fa ρ).bind fun p => match p.1 with
  | [h, h'] => if isL (h.get p.2) = true ∧ isL (h'.get p.2) = true then some (itZ h h', p.2) else none
  | _ => none
theorem di_zip {C : List Nat} {e e2 : Expr} {fa : Ev → Option (List Hd × Ev)} {p pos tpos : Pos} {elts : List Expr} {kk : Nat} (hg : Gl X "zip") (hm : X.mg "zip" = none) (ha : DA X [e, e2] fa) (hC : ∀ ρ hds ρ', fa ρ = some (hds, ρ') → ∀ h ∈ hds, hsl C h)
    (hs : starEach [e, e2] X.env = (false, eval e X.env) :: starEach [e2] X.env := by rfl) (hpl : (backTo pos (starEach [e2] X.env)).any (·.1) = false := by rfl) :
    DI X C (.Tuple elts kk tpos) (.Call (.Name "zip" p) [e, e2] [] pos) (iZp fa) := by
  obtain ⟨t, ht, k⟩ := ha.ex
  refine ⟨_, pi_zip hg hm ht hs hpl, fun σ H ρ l R it ρ' hl hi hf q => ?_⟩
  obtain ⟨⟨hds, ρ1⟩, e1, hf⟩ := Option.bind_eq_some_iff.mp hf
  refine k σ H ρ l _ hds ρ1 hl hi e1 fun vs H1 l1 a1 i1 => ?_
  have hh := hC ρ hds ρ1 e1
  match hds, vs, hf, a1, i1, hh with
  | [h, h'], [v, v'], hf, ⟨a1, a2, _⟩, i1, hh =>
    replace hf : (if isL (h.get ρ1) = true ∧ isL (h'.get ρ1) = true then some (itZ h h', ρ1) else none) = some (it, ρ') := hf
    split at hf
    · rename_i hL
      cases hf
      have i1' : Items X.K [] H1 (σ.zip ρ' ++ ((h.its v ++ h'.its v') ++ l)) := by
        have e0 : hits [h, h'] [v, v'] = h.its v ++ h'.its v' := by show h.its v ++ (h'.its v' ++ []) = _; rw [List.append_nil]
        rw [e0] at i1; exact i1.perm perm_mid
      have mem : ∀ (σ1 : Sl) (ρ2 : Ev) (l2 : List Itm), Agr C σ σ1 → σ1.length = σ.length → ρ2.length = σ.length → (some v, h.get ρ2) ∈ σ1.zip ρ2 ++ ((h.its v ++ h'.its v') ++ l2) ∧ (some v', h'.get ρ2) ∈ σ1.zip ρ2 ++ ((h.its v ++ h'.its v') ++ l2) := fun σ1 ρ2 l2 ag h1 h2 => by
        constructor
        · rcases late1 a1 (hh h (by simp)) ag h1 h2 with m | m
          · exact List.mem_append_left _ m
          · exact List.mem_append_right _ (List.mem_append_left _ (List.mem_append_left _ m))
        · rcases late1 a2 (hh h' (by simp)) ag h1 h2 with m | m
          · exact List.mem_append_left _ m
          · exact List.mem_append_right _ (List.mem_append_left _ (List.mem_append_right _ m))
      obtain ⟨m1, m2⟩ := mem σ ρ' l (fun _ _ => rfl) rfl (by omega)
      have sq : ∀ (v : V) (d : D), (some v, d) ∈ σ.zip ρ' ++ ((h.its v ++ h'.its v') ++ l) → True := fun _ _ _ => trivial
      have sq : ∀ (u : V) (d : D), (some u, d) ∈ σ.zip ρ' ++ ((h.its v ++ h'.its v') ++ l) → isL d = true → ∃ a xs, u = .ref a ∧ SqL X.K H1 a xs := fun u d m hL => by
        cases d with
        | lst b ds => obtain ⟨a', xs, ev, hs, _⟩ := i1'.list m; exact ⟨a', xs, ev, SqL.of hs⟩
        | cst ds => obtain ⟨a', xs, ev, hs, _⟩ := i1'.const m; exact ⟨a', xs, ev, hs⟩
        | _ => cases hL
      obtain ⟨a, xs, ea, sa⟩ := sq v _ m1 hL.1
      obtain ⟨b, ys, eb, sb⟩ := sq v' _ m2 hL.2
      subst ea eb
      refine ⟨a, b, xs, ys, rfl, sa, sb, q (Itz X.K a b) H1 _ l1 i1' fun k σ1 ρ2 H2 l2 ag h1 h2 i2 => ?_⟩
      obtain ⟨m3, m4⟩ := mem σ1 ρ2 l2 ag h1 h2
      unfold itZ itK
      by_cases hL2 : isL (h.get ρ2) = true
      · rw [if_pos hL2]
        by_cases hL3 : isL (h'.get ρ2) = true
        · rw [if_pos hL3]
          obtain ⟨a', ev, p1, p2⟩ := it_list i2 m3 k hL2
          cases ev
          obtain ⟨b', ev, p3, p4⟩ := it_list i2 m4 k hL3
          cases ev
          have any1 : ∀ o, itD (h.get ρ2) k = some o → ∃ xs : List V, SqL X.K H2 a xs := fun o eo => by
            cases o with
            | none => obtain ⟨xs, s, _⟩ := p1 eo; exact ⟨xs, s⟩
            | some c => obtain ⟨⟨xs, _, s, _⟩, _⟩ := p2 c eo; exact ⟨xs, s⟩
          have any2 : ∀ o, itD (h'.get ρ2) k = some o → ∃ xs : List V, SqL X.K H2 b xs := fun o eo => by
            cases o with
            | none => obtain ⟨xs, s, _⟩ := p3 eo; exact ⟨xs, s⟩
            | some c => obtain ⟨⟨xs, _, s, _⟩, _⟩ := p4 c eo; exact ⟨xs, s⟩
          refine ⟨fun hn => ?_, fun d hd => ?_⟩
          · obtain ⟨o, eo, hn⟩ := Option.bind_eq_some_iff.mp hn
            obtain ⟨o', eo', eo2⟩ := Option.map_eq_some_iff.mp hn
            obtain ⟨xs, s1⟩ := any1 o eo
            obtain ⟨ys, s2⟩ := any2 o' eo'
            cases o with
            | none => obtain ⟨xs, s1, z⟩ := p1 eo; exact ⟨xs, ys, s1, s2, .inl z⟩
            | some c =>
              cases o' with
              | none => obtain ⟨ys, s2, z⟩ := p3 eo'; exact ⟨xs, ys, s1, s2, .inr z⟩
              | some c' => cases eo2
          · obtain ⟨o, eo, hd⟩ := Option.bind_eq_some_iff.mp hd
            obtain ⟨o', eo', eo2⟩ := Option.map_eq_some_iff.mp hd
            cases o with
            | none => cases eo2
            | some c =>
              cases o' with
              | none => cases eo2
              | some c' =>
                cases eo2
                obtain ⟨⟨xs, x, s1, e1⟩, g2⟩ := p2 c eo
                obtain ⟨⟨ys, y, s2, e2⟩, g4⟩ := p4 c' eo'
                refine ⟨⟨xs, ys, x, y, s1, s2, e1, e2⟩, fun z H3 hy => ?_⟩
                obtain ⟨T, x', y', rfl, nT, rfl, hx', hy'⟩ := hy
                obtain ⟨i3, z3⟩ := g2 x' hx'
                obtain ⟨b'', ev, _, p4'⟩ := it_list i3 (List.mem_cons_of_mem _ m4) k hL3
                cases ev
                obtain ⟨i5, _⟩ := (p4' c' eo').2 y' hy'
                exact Items.newT nT rfl (i5.perm (List.Perm.swap _ _ _))
        · rw [if_neg hL3]
          refine ⟨fun hn => ?_, fun d hd => ?_⟩
          · obtain ⟨o, eo, hn⟩ := Option.bind_eq_some_iff.mp hn; cases hn
          · obtain ⟨o, eo, hd⟩ := Option.bind_eq_some_iff.mp hd; cases hd
      · rw [if_neg hL2]
        exact ⟨fun h => (by cases h), fun d h => (by cases h)⟩
    · cases hf
end
end Mv
end
section
set_option Elab.async false
set_option linter.all false
set_option maxRecDepth 100000
/-! range of three, reversed, index, count, two comparisons. -/
namespace Mv
open PySem PySem.Spec PyProof.Rows L2
section
variable {X : Cx} {C : List Nat}
def iRg3 (fa : Ev → Option (List Hd × Ev)) : Ev → Option (Src × Ev) := fun ρ => (fa ρ).bind fun p => match p.1.map (Hd.get p.2) with
  | [.int i, .int j, .int c] => if c ≠ 0 ∧ c.natAbs < 1073741824 ∧ Builtin.Range.small i j c = true then some (itR i c (Builtin.Range.rangeSize i j c).toNat, p.2) else none
  | _ => none
theorem itRc_ok {σ : Sl} {lo c : Int} {n : Nat} : ItOk X C σ [] (Itc lo c n) (itR lo c n) := fun k σ1 ρ1 H1 l1 ag h1 h2 i1 => by
  unfold itR
  by_cases hk : k < n
  · rw [if_pos hk]
    refine ⟨fun h => (by cases h), fun d h => ?_⟩
    cases h
    refine ⟨hk, fun x H2 hy => ?_⟩
    obtain ⟨rfl, rfl⟩ := hy
    exact i1.add rfl fun _ _ => rfl
  · rw [if_neg hk]
    exact ⟨fun _ => Nat.le_of_not_lt hk, fun d h => (by cases h)⟩
theorem di_range3 {a b c : Expr} {tg : Expr} {fa : Ev → Option (List Hd × Ev)} {p pos : Pos} (hg : Gl X "range") (hm : X.mg "range" = none) (ha : DA X [a, b, c] fa)
    (hs : starEach [a, b, c] X.env = (false, eval a X.env) :: starEach [b, c] X.env := by rfl) (hpl : (backTo pos (starEach [b, c] X.env)).any (·.1) = false := by rfl) : DI X C tg (.Call (.Name "range" p) [a, b, c] [] pos) (iRg3 fa) := by
  obtain ⟨t, ht, k⟩ := ha.ex
  refine ⟨_, pi_range3 hg hm ht hs hpl, fun σ H ρ l R it ρ' hl hi hf q => ?_⟩
  obtain ⟨⟨hds, ρ1⟩, e1, hf⟩ := Option.bind_eq_some_iff.mp hf
  refine k σ H ρ l _ hds ρ1 hl hi e1 fun vs H1 l1 a1 i1 => ?_
  have hm := mem_hits (K := X.K) (H := H1) (ρ := ρ1) (by omega) (l := l) a1
  replace hf : (match hds.map (Hd.get ρ1) with
    | [.int i, .int j, .int c] => if c ≠ 0 ∧ c.natAbs < 1073741824 ∧ Builtin.Range.small i j c = true then some (itR i c (Builtin.Range.rangeSize i j c).toNat, ρ1) else none
    | _ => none) = some (it, ρ') := hf
  split at hf
  · rename_i i j c e
    rw [e] at hm
    cases hm with
    | cons m1 mr =>
      cases mr with
      | cons m2 mr =>
        cases mr with
        | cons m3 mr =>
          cases mr
          rename_i x y z
          have hx : x = .int i := i1.view m1
          have hy : y = .int j := i1.view m2
          have hz : z = .int c := i1.view m3
          subst hx hy hz
          split at hf
          · rename_i hj
            cases hf
            exact ⟨i, j, c, _, rfl, ⟨hj.1, hj.2.1, hj.2.2, rangeSize_toNat i j c⟩, q (Itc i c _) H1 [] l1 i1.drop itRc_ok⟩
          · cases hf
  · cases hf
/-! ### reversed -/
def itV (n : Nat) (h : Hd) : Src := fun k ρ => if k < n then (if isL (h.get ρ) = true then (match itD (h.get ρ) (n - 1 - k) with
  | some (some c) => some (some c)
  | _ => none) else none) else some none
def lenL : D → Nat
  | .lst _ ds => ds.length
  | .cst ds => ds.length
  | _ => 0
def iRv (fa : Ev → Option (List Hd × Ev)) : Ev → Option (Src × Ev) := fun ρ => (fa ρ).bind fun p => match p.1 with
  | [h] => if isL (h.get p.2) = true then some (itV (lenL (h.get p.2)) h, p.2) else none
  | _ => none
theorem di_rev {e tg : Expr} {fa : Ev → Option (List Hd × Ev)} {p pos : Pos} (hg : Gl X "reversed") (hm : X.mg "reversed" = none) (ha : DA X [e] fa) (hC : ∀ ρ hds ρ', fa ρ = some (hds, ρ') → ∀ h ∈ hds, hsl C h) (hs : starEach [e] X.env = [(false, eval e X.env)] := by rfl) :
    DI X C tg (.Call (.Name "reversed" p) [e] [] pos) (iRv fa) := by
  obtain ⟨t, ht, k⟩ := ha.ex
  refine ⟨_, pi_reversed hg hm ht hs, fun σ H ρ l R it ρ' hl hi hf q => ?_⟩
  obtain ⟨⟨hds, ρ1⟩, e1, hf⟩ := Option.bind_eq_some_iff.mp hf
  refine k σ H ρ l _ hds ρ1 hl hi e1 fun vs H1 l1 a1 i1 => ?_
  have hh := hC ρ hds ρ1 e1
  match hds, vs, hf, a1, i1, hh with
  | [h], [v], hf, ⟨a1, _⟩, i1, hh =>
    replace hf : (if isL (h.get ρ1) = true then some (itV (lenL (h.get ρ1)) h, ρ1) else none) = some (it, ρ') := hf
    split at hf
    · rename_i hL
      cases hf
      have i1' : Items X.K [] H1 (h.its v ++ (σ.zip ρ' ++ l)) := by
        have e0 : hits [h] [v] = h.its v := by show h.its v ++ [] = _; rw [List.append_nil]
        rw [e0] at i1; exact i1
      have m1 := mem_hd (X := X) (hl := by omega) a1 i1'
      have hq : ∃ a xs, v = .ref a ∧ SqL X.K H1 a xs ∧ xs.length = lenL (h.get ρ') := by
        cases e : h.get ρ' with
        | lst b ds => rw [e] at m1; obtain ⟨a', xs, ev, hs, hl, _⟩ := i1'.list m1; exact ⟨a', xs, ev, SqL.of hs, hl⟩
        | cst ds => rw [e] at m1; obtain ⟨a', xs, ev, hs, hl, _⟩ := i1'.const m1; exact ⟨a', xs, ev, hs, hl⟩
        | _ => rw [e] at hL; cases hL
      obtain ⟨a, xs, rfl, hq, hlen⟩ := hq
      refine ⟨a, xs, rfl, hq, ?_⟩
      rw [← hlen] at q
      refine q (Itv X.K a xs.length) H1 (h.its (.ref a)) l1 (i1'.perm perm_mid) fun k σ1 ρ2 H2 l2 ag h1 h2 i2 => ?_
      have m2 : (some (.ref a), h.get ρ2) ∈ σ1.zip ρ2 ++ (h.its (.ref a) ++ l2) := by
        rcases late1 a1 (hh h (by simp)) ag h1 h2 with m | m
        · exact List.mem_append_left _ m
        · exact List.mem_append_right _ (List.mem_append_left _ m)
      unfold itV
      by_cases hk : k < xs.length
      · rw [if_pos hk]
        by_cases hL2 : isL (h.get ρ2) = true
        · rw [if_pos hL2]
          obtain ⟨a', ev, p1, p2⟩ := it_list i2 m2 (xs.length - 1 - k) hL2
          cases ev
          refine ⟨fun hn => ?_, fun d hd => ?_⟩
          · split at hn <;> cases hn
          · split at hd
            · rename_i c eo
              cases hd
              obtain ⟨⟨ys, y, s1, e1⟩, g2⟩ := p2 _ eo
              refine ⟨⟨hk, ys, y, s1, e1⟩, fun x H3 hy => ?_⟩
              obtain ⟨rfl, hy⟩ := hy
              exact (g2 x hy).1
            · cases hd
        · rw [if_neg hL2]
          exact ⟨fun h => (by cases h), fun d h => (by cases h)⟩
      · rw [if_neg hk]
        exact ⟨fun _ => Nat.le_of_not_lt hk, fun d h => (by cases h)⟩
    · cases hf
/-! ### list.index, list.count of numbers -/
def gIndex : List D → Option D := fun ds => match ds with
  | [.lst _ xs, .int k] => (ints? xs).bind fun ns => if k ∈ ns then some (.int (ns.idxOf k : Nat)) else none
  | _ => none
theorem on_index {K : Frg} : OpN K (fun xs H Q => ∃ x r', xs = x :: r' ∧ rIndex K x r' H Q) gIndex := by
  intro xs H ds l Q d hi hm hg q
  unfold gIndex at hg
  split at hg
  · rename_i b ys k
    obtain ⟨ns, e1, hg⟩ := Option.bind_eq_some_iff.mp hg
    split at hg
    · rename_i hk
      cases hg
      cases hm with
      | cons m1 mr =>
        cases mr with
        | cons m2 mr =>
          cases mr
          rename_i x y
          have hy : y = .int k := hi.view m2
          subst hy
          obtain ⟨a, us, rfl, hs, hl, hz, _⟩ := hi.list m1
          have hu := ints_ok e1 hz
          subst hu
          have hlt : ns.idxOf k < ns.length := List.idxOf_lt_length_of_mem hk
          refine ⟨_, _, rfl, a, _, .int k, ns.idxOf k, .int k, rfl, rfl, SqL.of hs, rfl, by simp [flatV], ?_, by simp [eqV], ?_, q _ H (hi.add rfl fun _ _ => rfl)⟩
          · rw [List.getElem?_map, List.getElem?_eq_getElem hlt]
            simp
          · intro m z' hm hz'
            rw [List.getElem?_map] at hz'
            obtain ⟨i, ei, rfl⟩ := Option.map_eq_some_iff.mp hz'
            have : i ≠ k := by
              intro e
              subst e
              have := List.not_of_lt_findIdx (p := (· == i)) (xs := ns) (i := m) hm
              obtain ⟨hlt, e⟩ := List.getElem?_eq_some_iff.mp ei
              rw [e] at this
              simp at this
            show (i == k) = false
            simpa using this
    · cases hg
  · cases hg
def gCount : List D → Option D := fun ds => match ds with
  | [.lst _ xs, .int k] => (ints? xs).map fun ns => .int (ns.count k : Nat)
  | _ => none
theorem on_count {K : Frg} : OpN K (fun xs H Q => ∃ x r', xs = x :: r' ∧ rCntI K x r' H Q) gCount := by
  intro xs H ds l Q d hi hm hg q
  unfold gCount at hg
  split at hg
  · rename_i b ys k
    obtain ⟨ns, e1, hg⟩ := Option.map_eq_some_iff.mp hg
    subst hg
    cases hm with
    | cons m1 mr =>
      cases mr with
      | cons m2 mr =>
        cases mr
        rename_i x y
        have hy : y = .int k := hi.view m2
        subst hy
        obtain ⟨a, us, rfl, hs, hl, hz, _⟩ := hi.list m1
        have hu := ints_ok e1 hz
        subst hu
        exact ⟨_, _, rfl, a, ns, k, rfl, rfl, SqL.of hs, q _ H (hi.add rfl fun _ _ => rfl)⟩
  · cases hg
/-! ### a < b < c -/
def eCh (g g' : D → D → Option D) (fa fb fc : Ev → Option (Hd × Ev)) : Ev → Option (D × Ev) := fun ρ => (fa ρ).bind fun p => (fb p.2).bind fun q => (g (p.1.get q.2) (q.1.get q.2)).bind fun d => match d with
  | .bl b => if b = true then (fc q.2).bind fun r => (g' (q.1.get r.2) (r.1.get r.2)).map fun d => (d, r.2) else some (.bl false, q.2)
  | _ => none
theorem chain2 {a b c : Expr} {fa fb fc : Ev → Option (Hd × Ev)} {g g' : D → D → Option D} {r r' : R2} (hg : Op2 X.K r g) (hg' : Op2 X.K r' g') (ha : DH X a fa) (hb : DH X b fb) (hc : DH X c fc) :
    ∃ ta tb tc, PE X a ta ∧ PE X b tb ∧ PE X c tc ∧ ∀ (σ : Sl) (H : Hp) (ρ : Ev) (l : List Itm) (Q : VK) (d : D) (ρ' : Ev), σ.length = ρ.length → Items X.K [] H (σ.zip ρ ++ l) → eCh g g' fa fb fc ρ = some (d, ρ') →
      (∀ v H', ρ'.length = ρ.length → Items X.K [] H' ((some v, d) :: (σ.zip ρ' ++ l)) → Q v H') → tChain r r' ta tb tc σ H Q := by
  obtain ⟨ta, pa, ka⟩ := ha.ex
  obtain ⟨tb, pb, kb⟩ := hb.ex
  obtain ⟨tc, pc, kc⟩ := hc.ex
  refine ⟨ta, tb, tc, pa, pb, pc, fun σ H ρ l Q d ρ' hl hi hf q => ?_⟩
  obtain ⟨⟨h1, ρ1⟩, e1, hf⟩ := Option.bind_eq_some_iff.mp hf
  obtain ⟨⟨h2, ρ2⟩, e2, hf⟩ := Option.bind_eq_some_iff.mp hf
  obtain ⟨d', e3, hf⟩ := Option.bind_eq_some_iff.mp hf
  refine ka σ H ρ l _ h1 ρ1 hl hi e1 fun v1 H1 l1 a1 i1 => ?_
  have i1' : Items X.K [] H1 (σ.zip ρ1 ++ (h1.its v1 ++ l)) := i1.perm perm_mid
  refine kb σ H1 ρ1 _ _ h2 ρ2 (by omega) i1' e2 fun v2 H2 l2 a2 i2 => ?_
  have m2 := mem_hd (X := X) (hl := by omega) a2 i2
  have i2' : Items X.K [] H2 (h1.its v1 ++ (σ.zip ρ2 ++ (h2.its v2 ++ l))) := i2.perm (by
    refine perm_mid.trans ?_
    refine List.Perm.trans ?_ perm_mid
    refine List.Perm.append_left _ perm_mid)
  have m1 := mem_hd (X := X) (hl := by omega) a1 i2'
  have m1' : (some v1, h1.get ρ2) ∈ h2.its v2 ++ (σ.zip ρ2 ++ (h1.its v1 ++ l)) := by
    simp only [List.mem_append] at m1 ⊢
    rcases m1 with m | m | m | m
    · exact .inr (.inr (.inl m))
    · exact .inr (.inl m)
    · exact .inl m
    · exact .inr (.inr (.inr m))
  refine hg v1 v2 H2 _ _ _ _ _ i2 m1' m2 e3 fun v H3 i3 => ?_
  cases d' with
  | bl b =>
    have hv : v = .bl b := i3.view List.mem_cons_self
    subst hv
    refine ⟨b, rfl, ?_⟩
    cases b with
    | false =>
      cases hf
      refine q (.bl false) H3 (by show ρ2.length = ρ.length; omega) (i3.sub ⟨h2.its v2 ++ h1.its v1, ?_⟩)
      have p3 : (h2.its v2 ++ (σ.zip ρ2 ++ (h1.its v1 ++ l))).Perm ((h2.its v2 ++ h1.its v1) ++ (σ.zip ρ2 ++ l)) := by
        rw [List.append_assoc]
        exact List.Perm.append_left _ perm_mid
      exact (List.Perm.cons _ p3).trans List.perm_middle.symm
    | true =>
      replace hf : ((fc ρ2).bind fun r => (g' (h2.get r.2) (r.1.get r.2)).map fun d => (d, r.2)) = some (d, ρ') := hf
      obtain ⟨⟨h3, ρ3⟩, e4, hf⟩ := Option.bind_eq_some_iff.mp hf
      obtain ⟨d', e5, hf⟩ := Option.map_eq_some_iff.mp hf
      cases hf
      have i4 : Items X.K [] H3 (σ.zip ρ2 ++ (h2.its v2 ++ (h1.its v1 ++ l))) := i3.tail.perm perm_mid
      refine kc σ H3 ρ2 _ _ h3 ρ3 (by omega) i4 e4 fun v3 H4 l4 a4 i5 => ?_
      have m3 := mem_hd (X := X) (hl := by omega) a4 i5
      have i5' : Items X.K [] H4 (h2.its v2 ++ (σ.zip ρ3 ++ (h3.its v3 ++ (h1.its v1 ++ l)))) := i5.perm (by
        refine perm_mid.trans ?_
        refine List.Perm.trans ?_ perm_mid
        refine List.Perm.append_left _ perm_mid)
      have m4 := mem_hd (X := X) (hl := by omega) a2 i5'
      have m4' : (some v2, h2.get ρ3) ∈ h3.its v3 ++ (σ.zip ρ3 ++ (h2.its v2 ++ (h1.its v1 ++ l))) := by
        simp only [List.mem_append] at m4 ⊢
        rcases m4 with m | m | m | m | m
        · exact .inr (.inr (.inl m))
        · exact .inr (.inl m)
        · exact .inl m
        · exact .inr (.inr (.inr (.inl m)))
        · exact .inr (.inr (.inr (.inr m)))
      refine hg' v2 v3 H4 _ _ _ Q _ i5 m4' m3 e5 fun v H5 i6 => ?_
      refine q v H5 (by show ρ3.length = ρ.length; omega) (i6.sub ⟨h3.its v3 ++ (h2.its v2 ++ h1.its v1), ?_⟩)
      have p3 : (h3.its v3 ++ (σ.zip ρ3 ++ (h2.its v2 ++ (h1.its v1 ++ l)))).Perm ((h3.its v3 ++ (h2.its v2 ++ h1.its v1)) ++ (σ.zip ρ3 ++ l)) := by
        rw [List.append_assoc]
        refine List.Perm.append_left _ ?_
        refine perm_mid.trans ?_
        rw [List.append_assoc]
        exact List.Perm.append_left _ perm_mid
      exact (List.Perm.cons _ p3).trans List.perm_middle.symm
  | _ => cases hf
theorem de_chain {a b c : Expr} {op op' : CmpOp} {fa fb fc : Ev → Option (Hd × Ev)} {g g' : D → D → Option D} {r r' : R2} {pos : Pos} (ho : OpR X (compareOp op) r) (ho' : OpR X (compareOp op') r') (hg : Op2 X.K r g) (hg' : Op2 X.K r' g') (ha : DH X a fa) (hb : DH X b fb) (hc : DH X c fc)
    (hm : lastMarks [op, op'] [b, c] = false := by with_unfolding_all rfl) : DE X (.Compare a [op, op'] [b, c] pos) (eCh g g' fa fb fc) := by
  obtain ⟨ta, tb, tc, pa, pb, pc, k⟩ := chain2 hg hg' ha hb hc
  exact ⟨_, pe_chain ho ho' pa pb pc hm, k⟩
theorem dt_chain {a b c : Expr} {op op' : CmpOp} {fa fb fc : Ev → Option (Hd × Ev)} {g g' : D → D → Option D} {r r' : R2} {pos : Pos} (ho : OpR X (compareOp op) r) (ho' : OpR X (compareOp op') r') (hg : Op2 X.K r g) (hg' : Op2 X.K r' g') (ha : DH X a fa) (hb : DH X b fb) (hc : DH X c fc)
    (hm : lastMarks [op, op'] [b, c] = false := by with_unfolding_all rfl) : DT X (.Compare a [op, op'] [b, c] pos) (tB' (eCh g g' fa fb fc)) := by
  obtain ⟨ta, tb, tc, pa, pb, pc, k⟩ := chain2 hg hg' ha hb hc
  refine ⟨_, pt_chain ho ho' pa pb pc hm, fun σ H ρ l Q c ρ' hl hi hf q => ?_⟩
  obtain ⟨⟨d, ρ1⟩, e1, hf⟩ := Option.bind_eq_some_iff.mp hf
  cases d with
  | bl b' =>
    cases hf
    refine k σ H ρ l _ _ _ hl hi e1 fun v H' hl' hi' => ?_
    have hv : v = .bl c := hi'.view (List.mem_cons_self)
    subst hv
    exact ⟨c, rfl, q H' hl' hi'.tail⟩
  | _ => cases hf
/-! what the operands of enumerate, zip, reversed keep -/
theorem hsls_nil : ∀ ρ hds ρ', aNil ρ = some (hds, ρ') → ∀ h ∈ hds, hsl C h := fun ρ hds ρ' e h hh => by cases e; cases hh
theorem hsls_cons {f : Ev → Option (Hd × Ev)} {g : Ev → Option (List Hd × Ev)} (hf : ∀ ρ hd ρ', f ρ = some (hd, ρ') → hsl C hd) (hg : ∀ ρ hds ρ', g ρ = some (hds, ρ') → ∀ h ∈ hds, hsl C h) : ∀ ρ hds ρ', aCons f g ρ = some (hds, ρ') → ∀ h ∈ hds, hsl C h := fun ρ hds ρ' e h hh => by
  obtain ⟨⟨hd, ρ1⟩, e1, e⟩ := Option.bind_eq_some_iff.mp e
  obtain ⟨⟨hs, ρ2⟩, e2, e⟩ := Option.map_eq_some_iff.mp e
  cases e
  rcases List.mem_cons.mp hh with rfl | hh
  · exact hf _ _ _ e1
  · exact hg _ _ _ e2 h hh
theorem hsls_var {i : Nat} {g : Ev → Option (List Hd × Ev)} (hi : i ∈ C) (hg : ∀ ρ hds ρ', g ρ = some (hds, ρ') → ∀ h ∈ hds, hsl C h) : ∀ ρ hds ρ', aCons (hV i) g ρ = some (hds, ρ') → ∀ h ∈ hds, hsl C h := hsls_cons (hsl_var hi) hg
theorem hsls_of {f : Ev → Option (D × Ev)} {g : Ev → Option (List Hd × Ev)} (hg : ∀ ρ hds ρ', g ρ = some (hds, ρ') → ∀ h ∈ hds, hsl C h) : ∀ ρ hds ρ', aCons (hE f) g ρ = some (hds, ρ') → ∀ h ∈ hds, hsl C h := hsls_cons hsl_of hg
end
end Mv
end
section
set_option Elab.async false
set_option linter.all false
set_option maxRecDepth 100000
/-! Ranges that are kept in a name. -/
namespace Mv
open PySem PySem.Spec PyProof.Rows L2
theorem Items.newR {K : Frg} {H : Hp} {l : List Itm} {a : Addr} {i j : Int} (ha : H a = none) (h : Items K [] H l) : Items K [] (upd H a (.rng i j)) ((some (.ref a), .rng i j) :: l) := by
  obtain ⟨G, fp, e, ho, nd, hn⟩ := h
  have ga : G a = none := e.free ha
  have hnd : a ∉ fp := fun z => by
    obtain ⟨ys, q⟩ := ho.there a z
    rw [ha] at q; cases q
  have keep : ∀ b ∈ fp, upd H a (.rng i j) b = H b := fun b hb => upd_ne fun z => hnd (z ▸ hb)
  have sG : Same G (upd G a (.rng i j)) := fun b o hb => by rw [upd_ne (ne_of_none hb ga)]; exact hb
  refine ⟨upd G a (.rng i j), fp, fun b o hb => ?_, ⟨[], fp, Ow.of_fz (K := K) (H := upd H a (.rng i j)) (.rng i j) (.ref a) rfl ⟨a, rfl, upd_same⟩, ho.mono sG keep, rfl⟩, nd, fun b hb => ?_⟩
  · by_cases z : b = a
    · subst z; rw [upd_same] at hb ⊢; exact hb
    · rw [upd_ne z] at hb ⊢; exact e b o hb
  · rw [upd_ne (show b ≠ a from fun z => hnd (z ▸ (by simpa using hb)))]
    exact hn b hb
def gRange : List D → Option D := fun ds => match ds with
  | [.int i, .int j] => some (.rng i j)
  | _ => none
theorem on_range {K : Frg} : OpN K (fun vs H Q => ∃ i j, vs = [V.int i, V.int j] ∧ ∀ p, H p = none → Q (.ref p) (upd H p (.rng i j))) gRange := by
  intro xs H ds l Q d hi hm hg q
  unfold gRange at hg
  split at hg
  · rename_i i j
    cases hg
    cases hm with
    | cons m1 mr =>
      cases mr with
      | cons m2 mr =>
        cases mr
        rename_i x y
        have hx : x = .int i := hi.view m1
        have hy : y = .int j := hi.view m2
        subst hx hy
        exact ⟨i, j, rfl, fun p np => q _ _ (hi.newR np)⟩
  · cases hg
section
variable {X : Cx} {C : List Nat}
def iRngV (te : TE) : TI := fun σ H R => te σ H fun x H1 => ∃ a lo hi, x = .ref a ∧ H1 a = some (.rng lo hi) ∧ -(2 ^ 62) ≤ lo ∧ lo < 2 ^ 62 ∧ -(2 ^ 62) ≤ hi ∧ hi < 2 ^ 62 ∧ R (Itr lo (hi - lo).toNat) H1
theorem pi_rngV {tg e : Expr} {te : TE} (he : PE X e te) : PI X tg e (iRngV te) := by
  constructor
  intro pins s σ H R I h
  refine thn (he.run pins s σ H _ I h) ?_
  rintro v s1 ⟨x, H1, I1, r1, a, lo, hi, rfl, ha, h1, h2, h3, h4, q⟩
  cases r1
  have hr : ∃ t u v, s1.heap.get? a = some { cls := .type "range", data := .fields #[.int lo t, .int hi u, .int 1 v] } := I1.hok a _ ha
  obtain ⟨t, u, v, hr⟩ := hr
  refine wpAny_pyIter_range hr (small_one h1 h2 h3 h4) ?_
  refine ⟨s1.heap.objs.size, [s1.heap.objs.size], _, _, H1, rfl, I1.kept (t' := s1.toks) fun b o e => Heap.get?_push_of_some _ e, turn_range _ lo (hi - lo).toNat, ?_, fun b hb => ?_, q⟩
  · have e1 : lo + ((0 : Nat) : Int) * 1 = lo := by simp
    have e2 : (((hi - lo).toNat : Nat) : Int) - ((0 : Nat) : Int) = Builtin.Range.rangeSize lo hi 1 := by rw [rangeSize_one]; split <;> omega
    show IsRangeIter _ _ (lo + ((0 : Nat) : Int) * 1) ((((hi - lo).toNat : Nat) : Int) - ((0 : Nat) : Int)) 1
    rw [e1, e2]
    exact Heap.get?_push_size _ rfl
  · have e : b = s1.heap.objs.size := by simpa using hb
    subst e
    exact I1.fpOk (Nat.le_refl _) (I1.hok.fresh (Nat.le_refl _))
def iRgV (f : Ev → Option (Hd × Ev)) : Ev → Option (Src × Ev) := fun ρ => (f ρ).bind fun p => match p.1.get p.2 with
  | .rng lo hi => if -(2 ^ 62) ≤ lo ∧ lo < 2 ^ 62 ∧ -(2 ^ 62) ≤ hi ∧ hi < 2 ^ 62 then some (itR lo 1 (hi - lo).toNat, p.2) else none
  | _ => none
theorem di_rngV {tg e : Expr} {f : Ev → Option (Hd × Ev)} (h : DH X e f) : DI X C tg e (iRgV f) := by
  obtain ⟨t, ht, k⟩ := h.ex
  refine ⟨_, pi_rngV ht, fun σ H ρ l R it ρ' hl hi hf q => ?_⟩
  obtain ⟨⟨hd, ρ1⟩, e1, hf⟩ := Option.bind_eq_some_iff.mp hf
  refine k σ H ρ l _ hd ρ1 hl hi e1 fun v H1 l1 a1 i1 => ?_
  have m1 := mem_hd (X := X) (hl := by omega) a1 i1
  replace hf : (match hd.get ρ1 with
    | .rng lo hi => if -(2 ^ 62) ≤ lo ∧ lo < 2 ^ 62 ∧ -(2 ^ 62) ≤ hi ∧ hi < 2 ^ 62 then some (itR lo 1 (hi - lo).toNat, ρ1) else none
    | _ => none) = some (it, ρ') := hf
  split at hf
  · rename_i lo hi e
    split at hf
    · rename_i hb
      cases hf
      rw [e] at m1
      obtain ⟨a, ev, ha⟩ := i1.range m1
      exact ⟨a, lo, hi, ev, ha, hb.1, hb.2.1, hb.2.2.1, hb.2.2.2, q (Itr lo (hi - lo).toNat) H1 [] l1 i1.drop itR_ok⟩
    · cases hf
  · cases hf
end
end Mv
end
section
set_option Elab.async false
set_option linter.all false
set_option maxRecDepth 100000
/-! Reckoning with readings: W o Q says that o is some a with Q a. -/
namespace Mv
open PySem PySem.Spec PyProof.Rows L2
def W {α : Type} (o : Option α) (Q : α → Prop) : Prop := ∃ a, o = some a ∧ Q a
section
variable {α β : Type}
theorem W_some {a : α} {Q : α → Prop} : W (some a) Q = Q a := propext ⟨fun ⟨b, e, q⟩ => by cases e; exact q, fun q => ⟨a, rfl, q⟩⟩
theorem W_none {Q : α → Prop} : W none Q = False := propext ⟨fun ⟨b, e, q⟩ => (nomatch e), fun q => q.elim⟩
theorem W_bind {o : Option α} {f : α → Option β} {Q : β → Prop} : W (o.bind f) Q = W o fun a => W (f a) Q := propext ⟨fun ⟨b, e, q⟩ => by
  obtain ⟨a, e1, e2⟩ := Option.bind_eq_some_iff.mp e
  exact ⟨a, e1, b, e2, q⟩, fun ⟨a, e1, b, e2, q⟩ => ⟨b, Option.bind_eq_some_iff.mpr ⟨a, e1, e2⟩, q⟩⟩
theorem W_map {o : Option α} {f : α → β} {Q : β → Prop} : W (o.map f) Q = W o fun a => Q (f a) := propext ⟨fun ⟨b, e, q⟩ => by
  obtain ⟨a, e1, e2⟩ := Option.map_eq_some_iff.mp e
  subst e2
  exact ⟨a, e1, q⟩, fun ⟨a, e1, q⟩ => ⟨f a, by rw [e1]; rfl, q⟩⟩
theorem W_ite {c : Prop} [Decidable c] {a b : Option α} {Q : α → Prop} : W (if c then a else b) Q = if c then W a Q else W b Q := by
  by_cases h : c
  · rw [if_pos h, if_pos h]
  · rw [if_neg h, if_neg h]
theorem W_mono {o : Option α} {Q Q' : α → Prop} (h : W o Q) (k : ∀ a, Q a → Q' a) : W o Q' := let ⟨a, e, q⟩ := h; ⟨a, e, k a q⟩
theorem W_of {o : Option α} {a : α} {Q : α → Prop} (e : o = some a) (q : Q a) : W o Q := ⟨a, e, q⟩
theorem W_eq {o : Option α} {a : α} {Q : α → Prop} (e : o = some a) : W o Q = Q a := by rw [e, W_some]
theorem W_if {c : Prop} [Decidable c] {a : Option α} {Q : α → Prop} (h : c) (k : W a Q) : W (if c then a else none) Q := by rw [if_pos h]; exact k
end
section
variable {x0 : D} {ρ : Ev}
/-! ### blocks -/
theorem W_bNil {Q : Out → Prop} : W (bNil (x0 :: ρ)) Q = Q (.nx (x0 :: ρ)) := W_some
theorem W_bCons {f g : Ev → Option Out} {Q : Out → Prop} : W (bCons f g (x0 :: ρ)) Q = W (f (x0 :: ρ)) fun o => match o with
    | .nx ρ' => W (g ρ') Q
    | .rt d ρ' => Q (.rt d ρ')
    | .bk ρ' => Q (.bk ρ')
    | .ct ρ' => Q (.ct ρ') := by
  unfold bCons
  rw [W_bind]
  congr 1
  funext o
  cases o <;> simp only [W_some]
theorem W_bBrk {Q : Out → Prop} : W (bBrk (x0 :: ρ)) Q = Q (.bk (x0 :: ρ)) := W_some
theorem W_bCnt {Q : Out → Prop} : W (bCnt (x0 :: ρ)) Q = Q (.ct (x0 :: ρ)) := W_some
theorem W_bExp {f : Ev → Option (D × Ev)} {Q : Out → Prop} : W (bExp f (x0 :: ρ)) Q = W (f (x0 :: ρ)) fun p => Q (.nx p.2) := W_map
theorem W_bRet {f : Ev → Option (D × Ev)} {Q : Out → Prop} : W (bRet f (x0 :: ρ)) Q = W (f (x0 :: ρ)) fun p => Q (.rt p.1 p.2) := W_map
theorem W_bRetN {Q : Out → Prop} : W (bRetN (x0 :: ρ)) Q = Q (.rt .non (x0 :: ρ)) := W_some
theorem W_bIf {c : Ev → Option (Bool × Ev)} {f g : Ev → Option Out} {Q : Out → Prop} : W (bIf c f g (x0 :: ρ)) Q = W (c (x0 :: ρ)) fun p => if p.1 = true then W (f p.2) Q else W (g p.2) Q := by
  unfold bIf
  rw [W_bind]
  congr 1
  funext p
  exact W_ite
theorem W_bAsg {f : Ev → Option (D × Ev)} {g : D → Ev → Option Ev} {Q : Out → Prop} : W (bAsg f g (x0 :: ρ)) Q = W (f (x0 :: ρ)) fun p => W (g p.1 p.2) fun ρ' => Q (.nx ρ') := by
  unfold bAsg
  rw [W_bind]
  congr 1
  funext p
  exact W_map
theorem W_bPar {i j : Nat} {fa : Ev → Option (List Hd × Ev)} {Q : Out → Prop} : W (bPar i j fa (x0 :: ρ)) Q = W (fa (x0 :: ρ)) fun p => W (match tms p.1 with
  | some [d, e] => some (.nx ((p.2.set i d).set j e))
  | _ => none) Q := W_bind
theorem W_bAug {i : Nat} {g : D → D → Option D} {fe : Ev → Option (Hd × Ev)} {Q : Out → Prop} : W (bAug i g fe (x0 :: ρ)) Q = W (fe (x0 :: ρ)) fun p => W (match (x0 :: ρ)[i]? with
  | some .any => none
  | none => none
  | some _ => (g (p.2.getD i .any) (p.1.get p.2)).map fun d => .nx (p.2.set i d)) Q := W_bind
/-! ### expressions -/
theorem W_eC {d : D} {Q : D × Ev → Prop} : W (eC d (x0 :: ρ)) Q = Q (d, (x0 :: ρ)) := W_some
theorem W_eV {i : Nat} {Q : D × Ev → Prop} : W (eV i (x0 :: ρ)) Q = W (match (x0 :: ρ)[i]? with
  | some .any => none
  | some d => if d.frz = true then some (d, (x0 :: ρ)) else some (d.fz, (x0 :: ρ).set i d.fz)
  | none => none) Q := rfl
theorem W_eM {i : Nat} {Q : D × Ev → Prop} : W (eM i (x0 :: ρ)) Q = W (match (x0 :: ρ)[i]? with
  | some .any => none
  | some d => some (d, (x0 :: ρ).set i .any)
  | none => none) Q := rfl
theorem W_hV {i : Nat} {Q : Hd × Ev → Prop} : W (hV i (x0 :: ρ)) Q = W (match (x0 :: ρ)[i]? with
  | some .any => none
  | some _ => some (.sl i, (x0 :: ρ))
  | none => none) Q := rfl
theorem W_eFz {f : Ev → Option (D × Ev)} {Q : D × Ev → Prop} : W (eFz f (x0 :: ρ)) Q = W (f (x0 :: ρ)) fun p => Q (p.1.fz, p.2) := W_map
theorem W_hE {f : Ev → Option (D × Ev)} {Q : Hd × Ev → Prop} : W (hE f (x0 :: ρ)) Q = W (f (x0 :: ρ)) fun p => Q (.tm p.1, p.2) := W_map
theorem W_e1 {g : D → Option D} {fa : Ev → Option (Hd × Ev)} {Q : D × Ev → Prop} : W (e1 g fa (x0 :: ρ)) Q = W (fa (x0 :: ρ)) fun p => W (g (p.1.get p.2)) fun d => Q (d, p.2) := by
  unfold e1
  rw [W_bind]
  congr 1
  funext p
  exact W_map
theorem W_e2 {g : D → D → Option D} {fa fb : Ev → Option (Hd × Ev)} {Q : D × Ev → Prop} : W (e2 g fa fb (x0 :: ρ)) Q = W (fa (x0 :: ρ)) fun p => W (fb p.2) fun q => W (g (p.1.get q.2) (q.1.get q.2)) fun d => Q (d, q.2) := by
  unfold e2
  rw [W_bind]
  congr 1
  funext p
  rw [W_bind]
  congr 1
  funext q
  exact W_map
theorem W_aNil {Q : List Hd × Ev → Prop} : W (aNil (x0 :: ρ)) Q = Q ([], (x0 :: ρ)) := W_some
theorem W_aCons {f : Ev → Option (Hd × Ev)} {g : Ev → Option (List Hd × Ev)} {Q : List Hd × Ev → Prop} : W (aCons f g (x0 :: ρ)) Q = W (f (x0 :: ρ)) fun p => W (g p.2) fun q => Q (p.1 :: q.1, q.2) := by
  unfold aCons
  rw [W_bind]
  congr 1
  funext p
  exact W_map
theorem W_eN {g : List D → Option D} {fa : Ev → Option (List Hd × Ev)} {Q : D × Ev → Prop} : W (eN g fa (x0 :: ρ)) Q = W (fa (x0 :: ρ)) fun p => W (g (p.1.map (Hd.get p.2))) fun d => Q (d, p.2) := by
  unfold eN
  rw [W_bind]
  congr 1
  funext p
  exact W_map
theorem W_eTup {fa : Ev → Option (List Hd × Ev)} {Q : D × Ev → Prop} : W (eTup fa (x0 :: ρ)) Q = W (fa (x0 :: ρ)) fun p => W (tms p.1) fun ds => W (if ds.length ≤ 16777216 then some (D.tup ds, p.2) else none) Q := by
  unfold eTup
  rw [W_bind]
  congr 1
  funext p
  exact W_bind
theorem W_eLst {fa : Ev → Option (List Hd × Ev)} {Q : D × Ev → Prop} : W (eLst fa (x0 :: ρ)) Q = W (fa (x0 :: ρ)) fun p => W (tms p.1) fun ds => W (if ds.length ≤ 16777216 then some (D.lst true ds, p.2) else none) Q := by
  unfold eLst
  rw [W_bind]
  congr 1
  funext p
  exact W_bind
theorem W_eCall {n : Nat} {F : List D → Option (D × List D)} {fa : Ev → Option (List Hd × Ev)} {Q : D × Ev → Prop} : W (eCall n F fa (x0 :: ρ)) Q = W (fa (x0 :: ρ)) fun p => p.1.length = n ∧ W (F (lend p.1 p.2).1) fun r => Q (r.1, unlend p.1 (lend p.1 p.2).1 r.2 (lend p.1 p.2).2) := by
  unfold eCall
  rw [W_bind]
  congr 1
  funext p
  by_cases h : p.1.length = n
  · rw [if_pos h, W_map]; simp [h]
  · rw [if_neg h, W_none]; simp [h]
theorem W_eMut {i : Nat} {g : List D → List D → Option (D × List D)} {fa : Ev → Option (List Hd × Ev)} {Q : D × Ev → Prop} : W (eMut i g fa (x0 :: ρ)) Q = W (match (x0 :: ρ)[i]? with
  | some (.lst _ _) => (fa (x0 :: ρ)).bind fun p => (tms p.1).bind fun ds => match p.2[i]? with
    | some (.lst true xs) => (g xs ds).map fun q => (q.1, p.2.set i (.lst true q.2))
    | _ => none
  | _ => none) Q := rfl
theorem W_eMt {T : String} {g : List D → Option D} {fo : Ev → Option (Hd × Ev)} {fa : Ev → Option (List Hd × Ev)} {Q : D × Ev → Prop} : W (eMt T g fo fa (x0 :: ρ)) Q = W (fo (x0 :: ρ)) fun p => W (if kindD T (p.1.get p.2) = true then (fa p.2).bind fun q => (g (p.1.get q.2 :: q.1.map (Hd.get q.2))).map fun d => (d, q.2) else none) Q := W_bind
theorem W_eIf {c : Ev → Option (Bool × Ev)} {f g : Ev → Option (D × Ev)} {Q : D × Ev → Prop} : W (eIf c f g (x0 :: ρ)) Q = W (c (x0 :: ρ)) fun p => if p.1 = true then W (f p.2) Q else W (g p.2) Q := by
  unfold eIf
  rw [W_bind]
  congr 1
  funext p
  exact W_ite
theorem W_eAn {f g : Ev → Option (D × Ev)} {Q : D × Ev → Prop} : W (eAn f g (x0 :: ρ)) Q = W (f (x0 :: ρ)) fun p => W p.1.tru fun b => if b = true then W (g p.2) Q else Q p := by
  unfold eAn
  rw [W_bind]
  congr 1
  funext p
  rw [W_bind]
  congr 1
  funext b
  rw [W_ite, W_some]
theorem W_eOr {f g : Ev → Option (D × Ev)} {Q : D × Ev → Prop} : W (eOr f g (x0 :: ρ)) Q = W (f (x0 :: ρ)) fun p => W p.1.tru fun b => if b = true then Q p else W (g p.2) Q := by
  unfold eOr
  rw [W_bind]
  congr 1
  funext p
  rw [W_bind]
  congr 1
  funext b
  rw [W_ite, W_some]
theorem W_eNo {f : Ev → Option (D × Ev)} {Q : D × Ev → Prop} : W (eNo f (x0 :: ρ)) Q = W (f (x0 :: ρ)) fun p => W p.1.tru fun b => Q (.bl (!b), p.2) := by
  unfold eNo
  rw [W_bind]
  congr 1
  funext p
  exact W_map
theorem W_eLc {vs : List Nat} {fi : Ev → Option (Src × Ev)} {g : D → Ev → Option Ev} {test : Ev → Option (Bool × Ev)} {elt : Ev → Option (D × Ev)} {Q : D × Ev → Prop} : W (eLc vs fi g test elt (x0 :: ρ)) Q = W (fi (x0 :: ρ)) fun p => W (lrun (cStep vs p.1 g test elt) ([], p.2)) Q := W_bind
theorem W_eJ0 {acc : Str} {Q : D × Ev → Prop} : W (eJ [] acc (x0 :: ρ)) Q = Q (.str acc, (x0 :: ρ)) := W_some
theorem W_eJ1 {f : Ev → Option (D × Ev)} {fs : List (Ev → Option (D × Ev))} {acc : Str} {Q : D × Ev → Prop} : W (eJ (f :: fs) acc (x0 :: ρ)) Q = W (f (x0 :: ρ)) fun p => W (match p.1 with
    | .str y => if (acc ++ y).length ≤ 16777216 then eJ fs (acc ++ y) p.2 else none
    | _ => none) Q := W_bind
/-! ### tests -/
theorem W_tT {f : Ev → Option (Hd × Ev)} {Q : Bool × Ev → Prop} : W (tT f (x0 :: ρ)) Q = W (f (x0 :: ρ)) fun p => W (p.1.get p.2).tru fun b => Q (b, p.2) := by
  unfold tT
  rw [W_bind]
  congr 1
  funext p
  exact W_map
theorem W_tB {f : Ev → Option (D × Ev)} {Q : Bool × Ev → Prop} : W (tB' f (x0 :: ρ)) Q = W (f (x0 :: ρ)) fun p => W (match p.1 with
  | .bl b => some (b, p.2)
  | _ => none) Q := W_bind
theorem W_tNo {f : Ev → Option (Bool × Ev)} {Q : Bool × Ev → Prop} : W (tNo f (x0 :: ρ)) Q = W (f (x0 :: ρ)) fun p => Q (!p.1, p.2) := W_map
theorem W_tAn {f g : Ev → Option (Bool × Ev)} {Q : Bool × Ev → Prop} : W (tAn f g (x0 :: ρ)) Q = W (f (x0 :: ρ)) fun p => if p.1 = true then W (g p.2) Q else Q (false, p.2) := by
  unfold tAn
  rw [W_bind]
  congr 1
  funext p
  rw [W_ite, W_some]
theorem W_tOr {f g : Ev → Option (Bool × Ev)} {Q : Bool × Ev → Prop} : W (tOr' f g (x0 :: ρ)) Q = W (f (x0 :: ρ)) fun p => if p.1 = true then Q (true, p.2) else W (g p.2) Q := by
  unfold tOr'
  rw [W_bind]
  congr 1
  funext p
  rw [W_ite, W_some]
theorem W_tAll {Q : Bool × Ev → Prop} : W (tAll (x0 :: ρ)) Q = Q (true, (x0 :: ρ)) := W_some
/-! ### targets, loops -/
theorem W_gNm {i : Nat} {d : D} {Q : Ev → Prop} : W (gNm i d (x0 :: ρ)) Q = Q ((x0 :: ρ).set i d) := W_some
theorem W_gsNil {Q : Ev → Prop} : W (gsNil [] (x0 :: ρ)) Q = Q (x0 :: ρ) := W_some
theorem W_gsCons {f : D → Ev → Option Ev} {g : List D → Ev → Option Ev} {d : D} {r : List D} {Q : Ev → Prop} : W (gsCons f g (d :: r) (x0 :: ρ)) Q = W (f d (x0 :: ρ)) fun ρ1 => W (g r ρ1) Q := W_bind
theorem W_gTp {n : Nat} {g : List D → Ev → Option Ev} {ds : List D} {Q : Ev → Prop} : W (gTp n g (.tup ds) (x0 :: ρ)) Q = W (if ds.length = n then g ds (x0 :: ρ) else none) Q := rfl
theorem W_gTpL {n : Nat} {g : List D → Ev → Option Ev} {o : Bool} {ds : List D} {Q : Ev → Prop} : W (gTp n g (.lst o ds) (x0 :: ρ)) Q = W (if ds.length = n ∧ D.frzL ds = true then g ds (x0 :: ρ) else none) Q := rfl
theorem W_gIx {j : Nat} {fi : Ev → Option (Hd × Ev)} {d : D} {Q : Ev → Prop} : W (gIx j fi d (x0 :: ρ)) Q = W (match (x0 :: ρ)[j]? with
  | some (.lst _ _) => (fi (x0 :: ρ)).bind fun p => match p.2[j]?, p.1.get p.2 with
    | some (.lst true xs), .int k => (ixN xs.length k).map fun m => p.2.set j (.lst true (xs.set m d))
    | _, _ => none
  | _ => none) Q := rfl
theorem W_bFor {fi : Ev → Option (Src × Ev)} {g : D → Ev → Option Ev} {body : Ev → Option Out} {Q : Out → Prop} : W (bFor fi g body (x0 :: ρ)) Q = W (fi (x0 :: ρ)) fun p => W (lrun (fStep p.1 g body) p.2) Q := W_bind
theorem W_bWhile {c : Ev → Option (Bool × Ev)} {body : Ev → Option Out} {Q : Out → Prop} : W (bWhile c body (x0 :: ρ)) Q = W (lrun (wStep c body) (x0 :: ρ)) Q := rfl
theorem W_iRg1 {fa : Ev → Option (List Hd × Ev)} {Q : Src × Ev → Prop} : W (iRg1 fa (x0 :: ρ)) Q = W (fa (x0 :: ρ)) fun p => W (match p.1.map (Hd.get p.2) with
  | [.int j] => if -(2 ^ 62) ≤ j ∧ j < 2 ^ 62 then some (itR 0 1 j.toNat, p.2) else none
  | _ => none) Q := W_bind
theorem W_iRg2 {fa : Ev → Option (List Hd × Ev)} {Q : Src × Ev → Prop} : W (iRg2 fa (x0 :: ρ)) Q = W (fa (x0 :: ρ)) fun p => W (match p.1.map (Hd.get p.2) with
  | [.int i, .int j] => if -(2 ^ 62) ≤ i ∧ i < 2 ^ 62 ∧ -(2 ^ 62) ≤ j ∧ j < 2 ^ 62 then some (itR i 1 (j - i).toNat, p.2) else none
  | _ => none) Q := W_bind
theorem W_iSq {f : Ev → Option (Hd × Ev)} {Q : Src × Ev → Prop} : W (iSq f (x0 :: ρ)) Q = W (f (x0 :: ρ)) fun p => W (match p.1.get p.2 with
  | .lst _ _ => some (itK isL p.1, p.2)
  | .cst _ => some (itK isL p.1, p.2)
  | .tup _ => some (itK isT p.1, p.2)
  | .str _ => some (itK isS p.1, p.2)
  | _ => none) Q := W_bind
end
/-- a def's reading by its body -/
theorem W_fnD {cs : List Bool} {ns : Nat} {body : Ev → Option Out} {ds : List D} {Q : D × List D → Prop} (hl : ds.length = cs.length) : W (fnD cs ns body ds) Q = W (body (ds ++ List.replicate (ns - cs.length) .any)) fun o => match o with
    | .rt d ρ => Q (d, keepL cs ρ)
    | .nx ρ => Q (.non, keepL cs ρ)
    | _ => False := by
  unfold fnD
  rw [if_pos hl, W_bind]
  congr 1
  funext o
  cases o <;> simp only [W_some, W_none]
theorem of_W {α : Type} {o : Option α} {a : α} (h : W o fun b => b = a) : o = some a := by
  obtain ⟨b, e, rfl⟩ := h
  exact e
/-! ### loops -/
theorem W_lrun {α β : Type} {step : Nat → α → Option (α ⊕ β)} {a : α} {Q : β → Prop} (P : Nat → α → Prop) (μ : Nat → α → Nat) (h0 : P 0 a)
    (hs : ∀ k a, P k a → W (step k a) fun s => match s with
      | .inl b => P (k + 1) b ∧ μ (k + 1) b < μ k a
      | .inr o => Q o) : W (lrun step a) Q := by
  obtain ⟨o, e, q⟩ := lrun_inv P Q μ h0 fun k a p => hs k a p
  exact ⟨o, e, q⟩
/-- for .. in range: what holds before turn k -/
theorem W_range {lo : Int} {n : Nat} {g : D → Ev → Option Ev} {body : Ev → Option Out} {ρ : Ev} {Q : Out → Prop} (P : Nat → Ev → Prop) (h0 : P 0 ρ)
    (hs : ∀ k ρ, k < n → P k ρ → W (g (.int (lo + k)) ρ) fun ρ1 => W (body ρ1) fun o => match o with
      | .nx ρ2 => P (k + 1) ρ2
      | .ct ρ2 => P (k + 1) ρ2
      | .bk ρ2 => Q (.nx ρ2)
      | .rt d ρ2 => Q (.rt d ρ2))
    (hd : ∀ ρ, P n ρ → Q (.nx ρ)) : W (lrun (fStep (itR lo 1 n) g body) ρ) Q := by
  refine W_lrun (fun k ρ => k ≤ n ∧ P k ρ) (fun k _ => n - k) ⟨Nat.zero_le _, h0⟩ ?_
  rintro k ρ ⟨hk, hp⟩
  unfold fStep
  rw [W_bind]
  unfold itR
  by_cases h : k < n
  · rw [if_pos h, W_some, Int.mul_one]
    rw [W_bind]
    refine W_mono (hs k ρ h hp) fun ρ1 h1 => ?_
    rw [W_map]
    refine W_mono h1 fun o ho => ?_
    cases o with
    | nx ρ2 => exact ⟨⟨h, ho⟩, by show n - (k + 1) < n - k; omega⟩
    | ct ρ2 => exact ⟨⟨h, ho⟩, by show n - (k + 1) < n - k; omega⟩
    | bk ρ2 => exact ho
    | rt d ρ2 => exact ho
  · rw [if_neg h, W_some]
    have : k = n := by omega
    subst this
    rw [W_some]
    exact hd ρ hp
/-- for .. in a list that stays -/
theorem W_list {it : Src} {ds : List D} {g : D → Ev → Option Ev} {body : Ev → Option Out} {ρ : Ev} {Q : Out → Prop} (P : Nat → Ev → Prop) (h0 : P 0 ρ)
    (hi : ∀ k ρ, P k ρ → it k ρ = some ds[k]?)
    (hs : ∀ k d ρ, ds[k]? = some d → P k ρ → W (g d ρ) fun ρ1 => W (body ρ1) fun o => match o with
      | .nx ρ2 => P (k + 1) ρ2
      | .ct ρ2 => P (k + 1) ρ2
      | .bk ρ2 => Q (.nx ρ2)
      | .rt d ρ2 => Q (.rt d ρ2))
    (hd : ∀ ρ, P ds.length ρ → Q (.nx ρ)) : W (lrun (fStep it g body) ρ) Q := by
  refine W_lrun (fun k ρ => k ≤ ds.length ∧ P k ρ) (fun k _ => ds.length - k) ⟨Nat.zero_le _, h0⟩ ?_
  rintro k ρ ⟨hk, hp⟩
  unfold fStep
  rw [W_bind, hi k ρ hp, W_some]
  cases e : ds[k]? with
  | some d =>
    have h : k < ds.length := (List.getElem?_eq_some_iff.mp e).1
    show W ((g d ρ).bind _) _
    rw [W_bind]
    refine W_mono (hs k d ρ e hp) fun ρ1 h1 => ?_
    rw [W_map]
    refine W_mono h1 fun o ho => ?_
    cases o with
    | nx ρ2 => exact ⟨⟨h, ho⟩, by show ds.length - (k + 1) < ds.length - k; omega⟩
    | ct ρ2 => exact ⟨⟨h, ho⟩, by show ds.length - (k + 1) < ds.length - k; omega⟩
    | bk ρ2 => exact ho
    | rt d ρ2 => exact ho
  | none =>
    have : k = ds.length := by
      have := List.getElem?_eq_none_iff.mp e
      omega
    subst this
    show W (some _) _
    rw [W_some]
    exact hd ρ hp
/-- while -/
theorem W_while {c : Ev → Option (Bool × Ev)} {body : Ev → Option Out} {ρ : Ev} {Q : Out → Prop} (P : Ev → Prop) (μ : Ev → Nat) (h0 : P ρ)
    (hs : ∀ ρ, P ρ → W (c ρ) fun p => if p.1 = true then W (body p.2) fun o => match o with
      | .nx ρ2 => P ρ2 ∧ μ ρ2 < μ ρ
      | .ct ρ2 => P ρ2 ∧ μ ρ2 < μ ρ
      | .bk ρ2 => Q (.nx ρ2)
      | .rt d ρ2 => Q (.rt d ρ2) else Q (.nx p.2)) : W (lrun (wStep c body) ρ) Q := by
  refine W_lrun (fun _ ρ => P ρ) (fun _ ρ => μ ρ) h0 fun k ρ hp => ?_
  unfold wStep
  rw [W_bind]
  refine W_mono (hs ρ hp) fun p h1 => ?_
  obtain ⟨b, ρ1⟩ := p
  cases b with
  | true =>
    rw [if_pos rfl] at h1 ⊢
    rw [W_map]
    refine W_mono h1 fun o ho => ?_
    cases o <;> exact ho
  | false =>
    rw [if_neg Bool.false_ne_true] at h1 ⊢
    rw [W_some]
    exact h1
/-- a comprehension over a range -/
theorem W_compR {vs : List Nat} {lo : Int} {n : Nat} {g : D → Ev → Option Ev} {test : Ev → Option (Bool × Ev)} {elt : Ev → Option (D × Ev)} {ρ : Ev} {Q : D × Ev → Prop} (P : Nat → List D → Ev → Prop) (h0 : P 0 [] ρ)
    (hs : ∀ k acc ρ, k < n → P k acc ρ → W (g (.int (lo + k)) (wipeD ρ vs)) fun ρ1 => W (test ρ1) fun p => if p.1 = true then W (elt p.2) fun q => acc.length < 16777216 ∧ P (k + 1) (acc ++ [q.1]) (unw ρ vs q.2) else P (k + 1) acc (unw ρ vs p.2))
    (hd : ∀ acc ρ, P n acc ρ → Q (.lst true acc, ρ)) : W (lrun (cStep vs (itR lo 1 n) g test elt) ([], ρ)) Q := by
  refine W_lrun (fun k a => k ≤ n ∧ P k a.1 a.2) (fun k _ => n - k) ⟨Nat.zero_le _, h0⟩ ?_
  rintro k ⟨acc, ρ⟩ ⟨hk, hp⟩
  unfold cStep
  rw [W_bind]
  unfold itR
  by_cases h : k < n
  · rw [if_pos h, W_some, Int.mul_one]
    show W ((g _ _).bind _) _
    rw [W_bind]
    refine W_mono (hs k acc ρ h hp) fun ρ1 h1 => ?_
    rw [W_bind]
    refine W_mono h1 fun p h2 => ?_
    rw [W_ite]
    split
    · rename_i hb
      rw [if_pos hb] at h2
      rw [W_bind]
      refine W_mono h2 fun q h3 => ?_
      rw [if_pos h3.1, W_some]
      exact ⟨⟨h, h3.2⟩, by show n - (k + 1) < n - k; omega⟩
    · rename_i hb
      rw [if_neg hb] at h2
      rw [W_some]
      exact ⟨⟨h, h2⟩, by show n - (k + 1) < n - k; omega⟩
  · rw [if_neg h, W_some]
    have : k = n := by omega
    subst this
    rw [W_some]
    exact hd acc ρ hp
theorem W_compL {vs : List Nat} {it : Src} {ds : List D} {g : D → Ev → Option Ev} {test : Ev → Option (Bool × Ev)} {elt : Ev → Option (D × Ev)} {ρ : Ev} {Q : D × Ev → Prop} (P : Nat → List D → Ev → Prop) (h0 : P 0 [] ρ)
    (hi : ∀ k acc ρ, P k acc ρ → it k ρ = some ds[k]?)
    (hs : ∀ k d acc ρ, ds[k]? = some d → P k acc ρ → W (g d (wipeD ρ vs)) fun ρ1 => W (test ρ1) fun p => if p.1 = true then W (elt p.2) fun q => acc.length < 16777216 ∧ P (k + 1) (acc ++ [q.1]) (unw ρ vs q.2) else P (k + 1) acc (unw ρ vs p.2))
    (hd : ∀ acc ρ, P ds.length acc ρ → Q (.lst true acc, ρ)) : W (lrun (cStep vs it g test elt) ([], ρ)) Q := by
  refine W_lrun (fun k a => k ≤ ds.length ∧ P k a.1 a.2) (fun k _ => ds.length - k) ⟨Nat.zero_le _, h0⟩ ?_
  rintro k ⟨acc, ρ⟩ ⟨hk, hp⟩
  unfold cStep
  rw [W_bind, hi k acc ρ hp, W_some]
  cases e : ds[k]? with
  | some d =>
    have h : k < ds.length := (List.getElem?_eq_some_iff.mp e).1
    show W ((g _ _).bind _) _
    rw [W_bind]
    refine W_mono (hs k d acc ρ e hp) fun ρ1 h1 => ?_
    rw [W_bind]
    refine W_mono h1 fun p h2 => ?_
    rw [W_ite]
    split
    · rename_i hb
      rw [if_pos hb] at h2
      rw [W_bind]
      refine W_mono h2 fun q h3 => ?_
      rw [if_pos h3.1, W_some]
      exact ⟨⟨h, h3.2⟩, by show ds.length - (k + 1) < ds.length - k; omega⟩
    · rename_i hb
      rw [if_neg hb] at h2
      rw [W_some]
      exact ⟨⟨h, h2⟩, by show ds.length - (k + 1) < ds.length - k; omega⟩
  | none =>
    have : k = ds.length := by
      have := List.getElem?_eq_none_iff.mp e
      omega
    subst this
    show W (some _) _
    rw [W_some]
    exact hd acc ρ hp
end Mv
end
section
set_option Elab.async false
set_option linter.all false
set_option maxRecDepth 100000
/-! Operations on data of a known kind. -/
namespace Mv
open PySem PySem.Spec PyProof.Rows L2
/-- the greatest common divisor -/
def gd (a b : Int) : Int := ((Nat.gcd a.natAbs b.natAbs : Nat) : Int)
section
variable {i j k : Int} {x y : Str} {b c : Bool} {xs ys : List D} {o o' : Bool} {d e : D} {n : Nat}
theorem vv_add : gAdd (.int i) (.int j) = some (.int (i + j)) := rfl
theorem vv_addS : gAdd (.str x) (.str y) = if x.length + y.length ≤ 16777216 then some (.str (x ++ y)) else none := rfl
theorem vv_addL : gAdd (.lst o xs) (.lst o' ys) = if D.frzL xs = true ∧ D.frzL ys = true ∧ xs.length + ys.length ≤ 16777216 then some (.lst true (xs ++ ys)) else none := rfl
theorem vv_addT : gAdd (.tup xs) (.tup ys) = if D.frzL xs = true ∧ D.frzL ys = true ∧ xs.length + ys.length ≤ 16777216 then some (.tup (xs ++ ys)) else none := rfl
theorem vv_sub : gSubt (.int i) (.int j) = some (.int (i - j)) := rfl
theorem vv_mul : gMul (.int i) (.int j) = if MulOk i j then some (.int (i * j)) else none := rfl
theorem vv_div : gDiv (.int i) (.int j) = if DivOk j then some (.int (i / j)) else if DivNo j then some (.int (i.fdiv j)) else none := rfl
theorem vv_mod : gMod (.int i) (.int j) = if 0 < j then some (.int (i % j)) else none := rfl
theorem vv_pow : gPow (.int i) (.int j) = if PowOk i j then some (.int (i ^ j.toNat)) else none := rfl
theorem vv_shl : gShl (.int i) (.int j) = if PowOk i j then some (.int (i * 2 ^ j.toNat)) else none := rfl
theorem vv_shr : gShr (.int i) (.int j) = if 0 ≤ j then some (.int (i / 2 ^ j.toNat)) else none := rfl
theorem vv_neg : gNeg (.int i) = some (.int (-i)) := rfl
theorem vv_lt : gLt (.int i) (.int j) = some (.bl (decide (i < j))) := rfl
theorem vv_le : gLe (.int i) (.int j) = some (.bl (decide (i ≤ j))) := rfl
theorem vv_gt : gGt (.int i) (.int j) = some (.bl (decide (j < i))) := rfl
theorem vv_ge : gGe (.int i) (.int j) = some (.bl (decide (j ≤ i))) := rfl
theorem vv_int : gInt [.int i] = some (.int i) := rfl
theorem vv_intS : gInt [.str x] = (PySem.intText? x).bind fun n => if x.length ≤ 640 then some (.int n) else none := rfl
theorem vv_intb : gInt [.bl b] = some (.int (if b then 1 else 0)) := rfl
theorem vv_abs : gAbs [.int i] = some (.int (if i < 0 then -i else i)) := rfl
theorem vv_gcd : gGcd [.int i, .int j] = some (.int (gd i j)) := rfl
theorem vv_max2 : gMax2 [.int i, .int j] = some (.int (if j > i then j else i)) := rfl
theorem vv_min2 : gMin2 [.int i, .int j] = some (.int (if j < i then j else i)) := rfl
theorem vv_lenL : gLen [.lst o xs] = some (.int xs.length) := rfl
theorem vv_lenC : gLen [.cst xs] = some (.int xs.length) := rfl
theorem vv_lenT : gLen [.tup xs] = some (.int xs.length) := rfl
theorem vv_lenS : gLen [.str x] = if x.length ≤ 16777216 then some (.int x.length) else none := rfl
theorem vv_idxL : gIdx (.lst o xs) (.int i) = atF xs i := rfl
theorem vv_idxC : gIdx (.cst xs) (.int i) = atF xs i := rfl
theorem vv_idxT : gIdx (.tup xs) (.int i) = atF xs i := rfl
theorem vv_eqI : gEq (.int i) (.int j) = some (.bl (decide (i = j))) := rfl
theorem vv_eqS : gEq (.str x) (.str y) = some (.bl (decide (x = y))) := rfl
theorem vv_eqB : gEq (.bl b) (.bl c) = some (.bl (decide (b = c))) := rfl
theorem vv_neI : gNe (.int i) (.int j) = some (.bl (!decide (i = j))) := rfl
theorem vv_neS : gNe (.str x) (.str y) = some (.bl (!decide (x = y))) := rfl
theorem vv_eqG (h : sEq d e = none) : gEq d e = if d.dat = true ∧ e.dat = true ∧ SeqAt.shaped d.pd = true ∧ SeqAt.shaped e.pd = true then some (.bl (PyData.eqv d.pd e.pd)) else none := by unfold gEq; rw [h]
theorem vv_neG (h : sEq d e = none) : gNe d e = if d.dat = true ∧ e.dat = true ∧ SeqAt.shaped d.pd = true ∧ SeqAt.shaped e.pd = true then some (.bl (!PyData.eqv d.pd e.pd)) else none := by unfold gNe; rw [h]
theorem vv_list : gList [.lst o xs] = if D.frzL xs = true then some (.lst true xs) else none := rfl
theorem vv_listT : gList [.tup xs] = if D.frzL xs = true then some (.lst true xs) else none := rfl
theorem vv_tuple : gTuple [.lst o xs] = if D.frzL xs = true then some (.tup xs) else none := rfl
theorem vv_tupleT : gTuple [.tup xs] = if D.frzL xs = true then some (.tup xs) else none := rfl
theorem vv_sum : gSum [.lst o xs] = (ints? xs).map fun ns => .int ns.sum := rfl
theorem vv_maxL : gMaxL [.lst o xs] = (ints? xs).bind fun ns => ns.max?.map D.int := rfl
theorem vv_minL : gMinL [.lst o xs] = (ints? xs).bind fun ns => ns.min?.map D.int := rfl
theorem vv_strI : gStrI [.int i] = if i.natAbs < 2 ^ 1900 then some (.str (toString i)) else none := rfl
theorem vv_app : gApp xs [d] = if xs.length < 16777216 then some (.non, xs ++ [d]) else none := rfl
theorem vv_isNN : gIsB false .non .non = some (.bl true) := rfl
theorem vv_isIN : gIsB false (.int i) .non = some (.bl false) := rfl
theorem vv_isSN : gIsB false (.str x) .non = some (.bl false) := rfl
theorem vv_isBN : gIsB false (.bl b) .non = some (.bl false) := rfl
theorem vv_isLN : gIsB false (.lst o xs) .non = some (.bl false) := rfl
theorem vv_isTN : gIsB false (.tup xs) .non = some (.bl false) := rfl
theorem vv_isBB : gIsB false (.bl b) (.bl c) = some (.bl (decide (b = c))) := rfl
theorem vv_isNB : gIsB false .non (.bl c) = some (.bl false) := rfl
theorem vv_isIB : gIsB false (.int i) (.bl c) = some (.bl false) := rfl
theorem vv_isSB : gIsB false (.str x) (.bl c) = some (.bl false) := rfl
theorem vv_isLB : gIsB false (.lst o xs) (.bl c) = some (.bl false) := rfl
theorem vv_isTB : gIsB false (.tup xs) (.bl c) = some (.bl false) := rfl
theorem vv_inNN : gIsB true .non .non = some (.bl false) := rfl
theorem vv_inIN : gIsB true (.int i) .non = some (.bl true) := rfl
theorem vv_inSN : gIsB true (.str x) .non = some (.bl true) := rfl
theorem vv_inBN : gIsB true (.bl b) .non = some (.bl true) := rfl
theorem vv_inLN : gIsB true (.lst o xs) .non = some (.bl true) := rfl
theorem vv_inTN : gIsB true (.tup xs) .non = some (.bl true) := rfl
theorem vv_inBB : gIsB true (.bl b) (.bl c) = some (.bl (!decide (b = c))) := rfl
theorem tru_b : (D.bl b).tru = some b := rfl
theorem tru_i : (D.int i).tru = some (i != 0) := rfl
theorem tru_n : D.non.tru = some false := rfl
theorem tru_l : (D.lst o xs).tru = some (!xs.isEmpty) := rfl
theorem tru_t : (D.tup xs).tru = some (!xs.isEmpty) := rfl
theorem tru_c : (D.cst xs).tru = some (!xs.isEmpty) := rfl
/-! isinstance -/
theorem isiI_int : gIsi [.int i, .ty "int"] = some (.bl true) := rfl
theorem isiI_str : gIsi [.int i, .ty "str"] = some (.bl false) := rfl
theorem isiI_bool : gIsi [.int i, .ty "bool"] = some (.bl false) := rfl
theorem isiI_list : gIsi [.int i, .ty "list"] = some (.bl false) := rfl
theorem isiI_tuple : gIsi [.int i, .ty "tuple"] = some (.bl false) := rfl
theorem isiS_int : gIsi [.str x, .ty "int"] = some (.bl false) := rfl
theorem isiS_str : gIsi [.str x, .ty "str"] = some (.bl true) := rfl
theorem isiS_bool : gIsi [.str x, .ty "bool"] = some (.bl false) := rfl
theorem isiS_list : gIsi [.str x, .ty "list"] = some (.bl false) := rfl
theorem isiS_tuple : gIsi [.str x, .ty "tuple"] = some (.bl false) := rfl
theorem isiB_int : gIsi [.bl b, .ty "int"] = some (.bl true) := rfl
theorem isiB_str : gIsi [.bl b, .ty "str"] = some (.bl false) := rfl
theorem isiB_bool : gIsi [.bl b, .ty "bool"] = some (.bl true) := rfl
theorem isiB_list : gIsi [.bl b, .ty "list"] = some (.bl false) := rfl
theorem isiB_tuple : gIsi [.bl b, .ty "tuple"] = some (.bl false) := rfl
theorem isiL_int : gIsi [.lst o xs, .ty "int"] = some (.bl false) := rfl
theorem isiL_str : gIsi [.lst o xs, .ty "str"] = some (.bl false) := rfl
theorem isiL_bool : gIsi [.lst o xs, .ty "bool"] = some (.bl false) := rfl
theorem isiL_list : gIsi [.lst o xs, .ty "list"] = some (.bl true) := rfl
theorem isiL_tuple : gIsi [.lst o xs, .ty "tuple"] = some (.bl false) := rfl
theorem isiT_int : gIsi [.tup xs, .ty "int"] = some (.bl false) := rfl
theorem isiT_str : gIsi [.tup xs, .ty "str"] = some (.bl false) := rfl
theorem isiT_bool : gIsi [.tup xs, .ty "bool"] = some (.bl false) := rfl
theorem isiT_list : gIsi [.tup xs, .ty "list"] = some (.bl false) := rfl
theorem isiT_tuple : gIsi [.tup xs, .ty "tuple"] = some (.bl true) := rfl
theorem isiN_int : gIsi [.non, .ty "int"] = some (.bl false) := rfl
theorem isiN_str : gIsi [.non, .ty "str"] = some (.bl false) := rfl
theorem isiN_bool : gIsi [.non, .ty "bool"] = some (.bl false) := rfl
theorem isiN_list : gIsi [.non, .ty "list"] = some (.bl false) := rfl
theorem isiN_tuple : gIsi [.non, .ty "tuple"] = some (.bl false) := rfl
/-! places in written lists -/
def okD (d : D) : Option D := if d.frz = true then some d else none
variable {a0 a1 a2 a3 a4 a5 a6 : D}
theorem atF_nat {xs : List D} {n : Nat} : atF xs (n : Int) = (xs[n]?).bind okD := by
  unfold atF atI ixN
  rw [if_pos (by omega)]
  by_cases h : n < xs.length
  · rw [if_pos (by omega)]
    simp only [Option.bind_some, Int.toNat_natCast]
    rfl
  · rw [if_neg (by omega), List.getElem?_eq_none (by omega)]
    rfl
theorem atF0 : atF (a0 :: xs) 0 = okD a0 := atF_nat (n := 0)
theorem atF1 : atF (a0 :: a1 :: xs) 1 = okD a1 := atF_nat (n := 1)
theorem atF2 : atF (a0 :: a1 :: a2 :: xs) 2 = okD a2 := atF_nat (n := 2)
theorem atF3 : atF (a0 :: a1 :: a2 :: a3 :: xs) 3 = okD a3 := atF_nat (n := 3)
theorem atF4 : atF (a0 :: a1 :: a2 :: a3 :: a4 :: xs) 4 = okD a4 := atF_nat (n := 4)
theorem atF5 : atF (a0 :: a1 :: a2 :: a3 :: a4 :: a5 :: xs) 5 = okD a5 := atF_nat (n := 5)
theorem okD_of {d : D} (h : d.frz = true) : okD d = some d := if_pos h
theorem okI : okD (.int i) = some (.int i) := rfl
theorem okB : okD (.bl b) = some (.bl b) := rfl
theorem okS : okD (.str x) = some (.str x) := rfl
theorem okN : okD .non = some .non := rfl
theorem okL : okD (.lst false xs) = some (.lst false xs) := rfl
theorem okT (h : D.frzL xs = true) : okD (.tup xs) = some (.tup xs) := if_pos h
theorem ix0 {n : Nat} : ixN (n + 1) 0 = some 0 := by unfold ixN; rw [if_pos (by omega), if_pos (by omega)]; rfl
theorem ix1 {n : Nat} : ixN (n + 2) 1 = some 1 := by unfold ixN; rw [if_pos (by omega), if_pos (by omega)]; rfl
theorem ix2 {n : Nat} : ixN (n + 3) 2 = some 2 := by unfold ixN; rw [if_pos (by omega), if_pos (by omega)]; rfl
theorem ix_nat {n m : Nat} (h : m < n) : ixN n (m : Int) = some m := by unfold ixN; rw [if_pos (by omega), if_pos (by omega)]; simp
end
theorem frzL_int : ∀ ns : List Int, D.frzL (ns.map D.int) = true
  | [] => rfl
  | n :: r => by show (true && _) = true; rw [Bool.true_and]; exact frzL_int r
theorem fzL_int : ∀ ns : List Int, D.fzL (ns.map D.int) = ns.map D.int
  | [] => rfl
  | n :: r => by show D.int n :: D.fzL (r.map D.int) = _; rw [fzL_int r]; rfl
theorem frzL_of {xs : List D} (h : ∀ d ∈ xs, d.frz = true) : D.frzL xs = true := by
  rw [D.frzL_all]
  exact List.all_eq_true.mpr h
theorem intsD_map : ∀ ns : List Int, ints? (ns.map D.int) = some ns
  | [] => rfl
  | n :: r => by show (ints? (r.map D.int)).map _ = _; rw [intsD_map r]; rfl
theorem MulOk.left {i j : Int} (h : i.natAbs < 2 ^ 64) : MulOk i j := .inl h
theorem MulOk.right {i j : Int} (h : j.natAbs < 2 ^ 64) : MulOk i j := .inr (.inl h)
theorem W_ok {α : Type} {c : Prop} [Decidable c] {a : α} {o : Option α} {Q : α → Prop} (h : c) : W (if c then some a else o) Q = Q a := by rw [if_pos h, W_some]
theorem W_no {α : Type} {c : Prop} [Decidable c] {a o : Option α} {Q : α → Prop} (h : ¬ c) : W (if c then a else o) Q = W o Q := by rw [if_neg h]
theorem ite_b {c : Prop} [Decidable c] {A B : Prop} : (if decide c = true then A else B) = if c then A else B := by
  by_cases h : c <;> simp [h]
end Mv
end
section
set_option Elab.async false
set_option linter.all false
set_option maxRecDepth 100000
set_option exponentiation.threshold 5000
/-! Numbers as text. -/
namespace Mv
open PySem PySem.Spec PyProof.Rows L2 NumText TL
theorem tl_int (i : Int) : tl (Str.ofString (toString i)) = if i < 0 then 45 :: numL i.natAbs else numL i.natAbs := by
  cases i with
  | ofNat n =>
    rw [if_neg (by have : (0 : Int) ≤ Int.ofNat n := Int.natCast_nonneg n; omega)]
    exact tl_num n
  | negSucc n =>
    rw [if_pos (Int.negSucc_lt_zero n)]
    have e : toString (Int.negSucc n) = "-" ++ Nat.repr (n + 1) := rfl
    rw [e, tl_ofString, String.toList_append, List.map_append]
    have e3 := tl_num (n + 1)
    have e2 : toString (((n + 1 : Nat)) : Int) = Nat.repr (n + 1) := rfl
    rw [e2, tl_ofString] at e3
    rw [e3]
    rfl
theorem text_signs (i : Int) : ∀ c ∈ tl (Str.ofString (toString i)), c = 45 ∨ (48 ≤ c ∧ c ≤ 57) := by
  intro c hc
  rw [tl_int] at hc
  split at hc
  · rcases List.mem_cons.mp hc with e | h
    · exact .inl e
    · exact .inr (numL_digits _ c h)
  · exact .inr (numL_digits _ c hc)
theorem text_len {i : Int} {k : Nat} (hk : 0 < k) (h : i.natAbs < 10 ^ k) : (Str.ofString (toString i)).length ≤ k + 1 := by
  rw [len_tl, tl_int]
  have := numL_len hk h
  split
  · rw [List.length_cons]; omega
  · omega
theorem text_len64 {i : Int} (h : i.natAbs < 2 ^ 64) : (Str.ofString (toString i)).length ≤ 21 := text_len (k := 20) (by decide) (by omega)
theorem int_text {i : Int} (h : i.natAbs < 2 ^ 64) : intText? (Str.ofString (toString i)) = some i := by
  have hl := text_len64 h
  by_cases hi : i < 0
  · have e := tl_int i
    rw [if_pos hi] at e
    have := intText_neg (x := Str.ofString (toString i)) e (numL_digits _) (numL_ne _) (by omega)
    rw [numL_val] at this
    rw [this]
    congr 1
    omega
  · obtain ⟨n, rfl⟩ := Int.eq_ofNat_of_zero_le (a := i) (by omega)
    exact int_num (by have e := len_tl (Str.ofString (toString (n : Int))); rw [tl_num] at e; omega)
theorem repr_len {x : Str} (h : ∀ c ∈ tl x, c < 16 ^ 8) (h2 : x.length ≤ 1000000) : (reprText x).length ≤ 16777216 := by
  have := StrLaws.reprText_len x h
  omega
theorem repr_int {i : Int} (h : i.natAbs < 2 ^ 64) : (reprText (Str.ofString (toString i))).length ≤ 16777216 :=
  repr_len (fun c hc => by have := text_signs i c hc; omega) (by have := text_len64 h; omega)
section
variable {i j : Int} {x y : Str}
theorem vv_fmtI : gFmt (.int i) = if i.natAbs < 2 ^ 1900 then some (.str (toString i)) else none := rfl
theorem vv_fmtS : gFmt (.str x) = if x.length ≤ 16777216 then some (.str x) else none := rfl
theorem vv_reprI : gRepr [.int i] = if i.natAbs < 2 ^ 1900 then some (.str (toString i)) else none := rfl
theorem vv_reprS : gRepr [.str x] = if (reprText x).length ≤ 16777216 then some (.str (reprText x)) else none := rfl
end
theorem ite_nb {c : Prop} [Decidable c] {A B : Prop} : (if (!decide c) = true then A else B) = if c then B else A := by
  by_cases h : c <;> simp [h]
/-! ### comprehensions over numbers -/
def ilist (lo : Int) (n : Nat) : List Int := (List.range n).map fun k : Nat => lo + (k : Int)
theorem ilist_succ {lo : Int} {n : Nat} : ilist lo (n + 1) = ilist lo n ++ [lo + (n : Int)] := by
  unfold ilist
  rw [List.range_succ, List.map_append]
  rfl
theorem ilist_len {lo : Int} {n : Nat} : (ilist lo n).length = n := by unfold ilist; rw [List.length_map, List.length_range]
theorem mem_ilist {lo : Int} {n : Nat} {x : Int} : x ∈ ilist lo n ↔ lo ≤ x ∧ x < lo + n := by
  unfold ilist
  rw [List.mem_map]
  constructor
  · rintro ⟨k, hk, rfl⟩
    have := List.mem_range.mp hk
    omega
  · intro ⟨h1, h2⟩
    exact ⟨(x - lo).toNat, List.mem_range.mpr (by omega), by omega⟩
theorem W_compI {vs : List Nat} {lo : Int} {n : Nat} {g : D → Ev → Option Ev} {test : Ev → Option (Bool × Ev)} {elt : Ev → Option (D × Ev)} {ρ : Ev} {Q : D × Ev → Prop} (p : Int → Bool) (f : Int → D) (hn : n < 16777216)
    (hs : ∀ i, lo ≤ i → i < lo + n → W (g (.int i) (wipeD ρ vs)) fun ρ1 => W (test ρ1) fun q => q.1 = p i ∧ (if p i = true then W (elt q.2) fun r => r.1 = f i ∧ unw ρ vs r.2 = ρ else unw ρ vs q.2 = ρ))
    (hd : Q (.lst true (((ilist lo n).filter p).map f), ρ)) : W (lrun (cStep vs (itR lo 1 n) g test elt) ([], ρ)) Q := by
  refine W_compR (fun k acc ρ' => ρ' = ρ ∧ acc = ((ilist lo k).filter p).map f) ⟨rfl, rfl⟩ ?_ ?_
  · rintro k acc ρ' hk ⟨rfl, rfl⟩
    refine W_mono (hs (lo + k) (by omega) (by omega)) fun ρ1 h1 => W_mono h1 fun q ⟨h2, h3⟩ => ?_
    rw [h2]
    have hl : (((ilist lo k).filter p).map f).length ≤ k := by
      rw [List.length_map]
      exact Nat.le_trans (List.length_filter_le _ _) (by rw [ilist_len]; exact Nat.le_refl _)
    cases hp : p (lo + k)
    · rw [hp] at h3
      rw [if_neg (by decide)] at h3
      rw [if_neg (by decide)]
      refine ⟨h3, ?_⟩
      rw [ilist_succ, List.filter_append, List.filter_cons_of_neg (by rw [hp]; decide)]
      simp
    · rw [hp, if_pos rfl] at h3
      rw [if_pos rfl]
      refine W_mono h3 fun r ⟨h4, h5⟩ => ⟨by omega, h5, ?_⟩
      rw [ilist_succ, List.filter_append, List.filter_cons_of_pos hp, List.map_append, h4]
      rfl
  · rintro acc ρ' ⟨rfl, rfl⟩
    exact hd
theorem filter_first {lo : Int} {p : Int → Bool} {t : Int} : ∀ {n : Nat}, lo ≤ t → t < lo + n → p t = true → (∀ s, lo ≤ s → s < t → p s = false) → ∃ r, (ilist lo n).filter p = t :: r
  | 0, h1, h2, _, _ => by omega
  | n + 1, h1, h2, h3, h4 => by
    rw [ilist_succ, List.filter_append]
    by_cases h : t < lo + n
    · obtain ⟨r, e⟩ := filter_first h1 h h3 h4
      rw [e]
      exact ⟨_, rfl⟩
    · have e : lo + (n : Int) = t := by omega
      have e2 : (ilist lo n).filter p = [] := by
        rw [List.filter_eq_nil_iff]
        intro a ha
        have := mem_ilist.mp ha
        rw [h4 a this.1 (by omega)]
        decide
      rw [e2, e, List.filter_cons_of_pos h3]
      exact ⟨_, rfl⟩
theorem filter_none {lo : Int} {p : Int → Bool} {n : Nat} (h : ∀ s, lo ≤ s → s < lo + n → p s = false) : (ilist lo n).filter p = [] := by
  rw [List.filter_eq_nil_iff]
  intro a ha
  have := mem_ilist.mp ha
  rw [h a this.1 this.2]
  decide
theorem max_of {l : List Int} {a : Int} (h : a ∈ l) (k : ∀ b ∈ l, b ≤ a) : l.max? = some a := List.max?_eq_some_iff.mpr ⟨h, k⟩
theorem min_of {l : List Int} {a : Int} (h : a ∈ l) (k : ∀ b ∈ l, a ≤ b) : l.min? = some a := List.min?_eq_some_iff.mpr ⟨h, k⟩
/-! ### == of data -/
def D.ok (n : Nat) (d : D) : Prop := d.dat = true ∧ d.pd.canLay0 = true ∧ d.pd.depth ≤ n
theorem ok_mono {n m : Nat} {d : D} (h : D.ok n d) (k : n ≤ m) : D.ok m d := ⟨h.1, h.2.1, Nat.le_trans h.2.2 k⟩
theorem ok_int {n : Nat} {i : Int} : D.ok n (.int i) := ⟨rfl, by simp [D.pd, PyData.canLay0], by simp [D.pd, PyData.depth]⟩
theorem ok_bl {n : Nat} {i : Bool} : D.ok n (.bl i) := ⟨rfl, by simp [D.pd, PyData.canLay0], by simp [D.pd, PyData.depth]⟩
theorem ok_non {n : Nat} : D.ok n .non := ⟨rfl, by simp [D.pd, PyData.canLay0], by simp [D.pd, PyData.depth]⟩
theorem okL_aux {n : Nat} : ∀ xs : List D, (∀ d ∈ xs, D.ok n d) → D.datL xs = true ∧ PyData.canLayAll0 (D.pdL xs) = true ∧ PyData.depthAll (D.pdL xs) ≤ n
  | [], _ => ⟨rfl, by simp [D.pdL, PyData.canLayAll0], by simp [D.pdL, PyData.depthAll]⟩
  | d :: xs, h => by
    obtain ⟨h1, h2, h3⟩ := h d (List.mem_cons_self ..)
    obtain ⟨k1, k2, k3⟩ := okL_aux xs fun e he => h e (List.mem_cons_of_mem _ he)
    refine ⟨by rw [D.datL, h1, k1]; rfl, by rw [D.pdL, PyData.canLayAll0, h2, k2]; rfl, by rw [D.pdL, PyData.depthAll]; exact Nat.max_le.mpr ⟨h3, k3⟩⟩
theorem ok_lst {n : Nat} {o : Bool} {xs : List D} (h : ∀ d ∈ xs, D.ok n d) : D.ok (n + 1) (.lst o xs) := by
  obtain ⟨k1, k2, k3⟩ := okL_aux xs h
  exact ⟨by rw [D.dat]; exact k1, by rw [D.pd, PyData.canLay0]; exact k2, by rw [D.pd, PyData.depth]; omega⟩
theorem ok_tup {n : Nat} {xs : List D} (h : ∀ d ∈ xs, D.ok n d) : D.ok (n + 1) (.tup xs) := by
  obtain ⟨k1, k2, k3⟩ := okL_aux xs h
  exact ⟨by rw [D.dat]; exact k1, by rw [D.pd, PyData.canLay0]; exact k2, by rw [D.pd, PyData.depth]; omega⟩
theorem ok_ints {n : Nat} {o : Bool} {ns : List Int} : D.ok (n + 1) (.lst o (ns.map D.int)) := ok_lst fun d hd => by
  obtain ⟨i, _, rfl⟩ := List.mem_map.mp hd
  exact ok_int
theorem ok_shaped {d : D} (h : D.ok 64 d) : SeqAt.shaped d.pd = true := by
  unfold SeqAt.shaped
  rw [h.2.1, decide_eq_true h.2.2]
  rfl
theorem gEq_data {d e : D} (hs : sEq d e = none) (h1 : D.ok 64 d) (h2 : D.ok 64 e) : gEq d e = some (.bl (PyData.eqv d.pd e.pd)) := by
  rw [vv_eqG hs, if_pos ⟨h1.1, h2.1, ok_shaped h1, ok_shaped h2⟩]
theorem gNe_data {d e : D} (hs : sEq d e = none) (h1 : D.ok 64 d) (h2 : D.ok 64 e) : gNe d e = some (.bl (!PyData.eqv d.pd e.pd)) := by
  rw [vv_neG hs, if_pos ⟨h1.1, h2.1, ok_shaped h1, ok_shaped h2⟩]
theorem gEq_same {o o' : Bool} {xs : List D} (h : D.ok 64 (.lst o xs)) : gEq (.lst o xs) (.lst o' xs) = some (.bl true) := by
  have h' : D.ok 64 (.lst o' xs) := by obtain ⟨a, b, c⟩ := h; rw [D.dat] at a; rw [D.pd] at b c; exact ⟨by rw [D.dat]; exact a, by rw [D.pd]; exact b, by rw [D.pd]; exact c⟩
  rw [gEq_data rfl h h']
  show some (D.bl (PyData.eqv (D.pd (.lst o xs)) (D.pd (.lst o' xs)))) = _
  rw [show D.pd (.lst o' xs) = D.pd (.lst o xs) by rw [D.pd, D.pd], SeqAt.eqv_refl _ h.2.1]
theorem gNe_same {o o' : Bool} {xs : List D} (h : D.ok 64 (.lst o xs)) : gNe (.lst o xs) (.lst o' xs) = some (.bl false) := by
  have h' : D.ok 64 (.lst o' xs) := by obtain ⟨a, b, c⟩ := h; rw [D.dat] at a; rw [D.pd] at b c; exact ⟨by rw [D.dat]; exact a, by rw [D.pd]; exact b, by rw [D.pd]; exact c⟩
  rw [gNe_data rfl h h']
  show some (D.bl (!PyData.eqv (D.pd (.lst o xs)) (D.pd (.lst o' xs)))) = _
  rw [show D.pd (.lst o' xs) = D.pd (.lst o xs) by rw [D.pd, D.pd], SeqAt.eqv_refl _ h.2.1]
  rfl
theorem gEq_nil {o o' : Bool} {xs : List D} (h : D.ok 64 (.lst o xs)) : gEq (.lst o xs) (.lst o' []) = some (.bl xs.isEmpty) := by
  rw [gEq_data rfl h (ok_lst (n := 63) (fun _ k => absurd k List.not_mem_nil))]
  cases xs with
  | nil => simp [D.pd, D.pdL, PyData.eqv, PyData.eqvAll]
  | cons d xs => simp [D.pd, D.pdL, PyData.eqv, PyData.eqvAll]
theorem gNe_nil {o o' : Bool} {xs : List D} (h : D.ok 64 (.lst o xs)) : gNe (.lst o xs) (.lst o' []) = some (.bl (!xs.isEmpty)) := by
  rw [gNe_data rfl h (ok_lst (n := 63) (fun _ k => absurd k List.not_mem_nil))]
  cases xs with
  | nil => simp [D.pd, D.pdL, PyData.eqv, PyData.eqvAll]
  | cons d xs => simp [D.pd, D.pdL, PyData.eqv, PyData.eqvAll]
/-! ### loops over a list that stays -/
theorem frz_at {xs : List D} {k : Nat} {d : D} (h : D.frzL xs = true) (e : xs[k]? = some d) : d.frz = true := by
  rw [D.frzL_all] at h
  exact List.all_eq_true.mp h d (List.mem_of_getElem? e)
theorem itD_at {xs : List D} (hz : D.frzL xs = true) (k : Nat) : (match xs[k]? with
    | some c => if c.frz = true then some (some c) else none
    | none => some none) = some xs[k]? := by
  cases e : xs[k]? with
  | none => rfl
  | some d => exact if_pos (frz_at hz e)
theorem itK_tup {ρ : Ev} {i : Nat} {xs : List D} (h : ρ.getD i .any = .tup xs) (hz : D.frzL xs = true) (k : Nat) : itK isT (.sl i) k ρ = some xs[k]? := by
  unfold itK
  show (if isT (ρ.getD i .any) = true then itD (ρ.getD i .any) k else none) = _
  rw [h, if_pos (show isT (.tup xs) = true from rfl)]
  exact itD_at hz k
theorem itK_tm {ρ : Ev} {o : Bool} {xs : List D} (hz : D.frzL xs = true) (k : Nat) : itK isL (.tm (.lst o xs)) k ρ = some xs[k]? := by
  unfold itK
  show (if isL (.lst o xs) = true then itD (.lst o xs) k else none) = _
  rw [if_pos (show isL (.lst o xs) = true from rfl)]
  exact itD_at hz k
theorem itK_lst {ρ : Ev} {i : Nat} {o : Bool} {xs : List D} (h : ρ.getD i .any = .lst o xs) (hz : D.frzL xs = true) (k : Nat) : itK isL (.sl i) k ρ = some xs[k]? := by
  unfold itK
  show (if isL (ρ.getD i .any) = true then itD (ρ.getD i .any) k else none) = _
  rw [h, if_pos (show isL (.lst o xs) = true from rfl)]
  exact itD_at hz k
theorem itK_tmT {ρ : Ev} {xs : List D} (hz : D.frzL xs = true) (k : Nat) : itK isT (.tm (.tup xs)) k ρ = some xs[k]? := by
  unfold itK
  show (if isT (.tup xs) = true then itD (.tup xs) k else none) = _
  rw [if_pos (show isT (.tup xs) = true from rfl)]
  exact itD_at hz k
end Mv
end
section
set_option Elab.async false
set_option linter.all false
set_option maxRecDepth 100000
/-! Reckoning: slices, enumerate, zip, reversed, range of three, chains, methods. -/
namespace Mv
open PySem PySem.Spec PyProof.Rows L2
section
variable {x0 : D} {ρ : Ev}
theorem W_pN {Q : Option Int × Ev → Prop} : W (pN (x0 :: ρ)) Q = Q (none, x0 :: ρ) := W_some
theorem W_pS {f : Ev → Option (Hd × Ev)} {Q : Option Int × Ev → Prop} : W (pS f (x0 :: ρ)) Q = W (f (x0 :: ρ)) fun p => W (match p.1.get p.2 with
  | .int i => some (some i, p.2)
  | _ => none) Q := W_bind
theorem W_eSl {fe : Ev → Option (Hd × Ev)} {fl fh : Ev → Option (Option Int × Ev)} {Q : D × Ev → Prop} : W (eSl fe fl fh (x0 :: ρ)) Q = W (fe (x0 :: ρ)) fun p => W (fl p.2) fun q => W (fh q.2) fun r => W (gSl (p.1.get r.2) q.1 r.1) fun d => Q (d, r.2) := by
  unfold eSl
  rw [W_bind]
  congr 1
  funext p
  rw [W_bind]
  congr 1
  funext q
  rw [W_bind]
  congr 1
  funext r
  rw [W_map]
theorem W_iEn {fa : Ev → Option (List Hd × Ev)} {Q : Src × Ev → Prop} : W (iEn fa (x0 :: ρ)) Q = W (fa (x0 :: ρ)) fun p => W (match p.1 with
  | [h] => if isL (h.get p.2) = true then some (itE h, p.2) else none
  | _ => none) Q := W_bind
theorem W_iZp {fa : Ev → Option (List Hd × Ev)} {Q : Src × Ev → Prop} : W (iZp fa (x0 :: ρ)) Q = W (fa (x0 :: ρ)) fun p => W (match p.1 with
  | [h, h'] => if isL (h.get p.2) = true ∧ isL (h'.get p.2) = true then some (itZ h h', p.2) else none
  | _ => none) Q := W_bind
theorem W_iRv {fa : Ev → Option (List Hd × Ev)} {Q : Src × Ev → Prop} : W (iRv fa (x0 :: ρ)) Q = W (fa (x0 :: ρ)) fun p => W (match p.1 with
  | [h] => if isL (h.get p.2) = true then some (itV (lenL (h.get p.2)) h, p.2) else none
  | _ => none) Q := W_bind
theorem W_iRg3 {fa : Ev → Option (List Hd × Ev)} {Q : Src × Ev → Prop} : W (iRg3 fa (x0 :: ρ)) Q = W (fa (x0 :: ρ)) fun p => W (match p.1.map (Hd.get p.2) with
  | [.int i, .int j, .int c] => if c ≠ 0 ∧ c.natAbs < 1073741824 ∧ Builtin.Range.small i j c = true then some (itR i c (Builtin.Range.rangeSize i j c).toNat, p.2) else none
  | _ => none) Q := W_bind
theorem W_iRgV {f : Ev → Option (Hd × Ev)} {Q : Src × Ev → Prop} : W (iRgV f (x0 :: ρ)) Q = W (f (x0 :: ρ)) fun p => W (match p.1.get p.2 with
  | .rng lo hi => if -(2 ^ 62) ≤ lo ∧ lo < 2 ^ 62 ∧ -(2 ^ 62) ≤ hi ∧ hi < 2 ^ 62 then some (itR lo 1 (hi - lo).toNat, p.2) else none
  | _ => none) Q := W_bind
def chIf (g' : D → D → Option D) (fc : Ev → Option (Hd × Ev)) (q : Hd × Ev) (d : D) : Option (D × Ev) := match d with
  | .bl b => if b = true then (fc q.2).bind fun r => (g' (q.1.get r.2) (r.1.get r.2)).map fun d => (d, r.2) else some (.bl false, q.2)
  | _ => none
theorem W_chIf {g' : D → D → Option D} {fc : Ev → Option (Hd × Ev)} {q : Hd × Ev} {b : Bool} {Q : D × Ev → Prop} : W (chIf g' fc q (.bl b)) Q = if b = true then W (fc q.2) fun r => W (g' (q.1.get r.2) (r.1.get r.2)) fun d => Q (d, r.2) else Q (.bl false, q.2) := by
  unfold chIf
  cases b with
  | true =>
    show W ((fc q.2).bind _) Q = W (fc q.2) _
    rw [W_bind]
    congr 1
    funext r
    rw [W_map]
  | false => exact W_some
theorem W_eCh {g g' : D → D → Option D} {fa fb fc : Ev → Option (Hd × Ev)} {Q : D × Ev → Prop} : W (eCh g g' fa fb fc (x0 :: ρ)) Q = W (fa (x0 :: ρ)) fun p => W (fb p.2) fun q => W (g (p.1.get q.2) (q.1.get q.2)) fun d => W (chIf g' fc q d) Q := by
  unfold eCh
  rw [W_bind]
  congr 1
  funext p
  rw [W_bind]
  congr 1
  funext q
  rw [W_bind]
  rfl
end
section
variable {x : Str} {xs ys : List D} {o o' : Bool} {i j k : Int} {lo hi : Option Int}
theorem vv_slL : gSl (.lst o xs) lo hi = if D.frzL xs = true then some (.lst true (cutD xs lo hi)) else none := rfl
theorem vv_slS : gSl (.str x) lo hi = if x.length ≤ 16777216 then some (.str (cutS x lo hi)) else none := rfl
theorem vv_slT : gSl (.tup xs) lo hi = if D.frzL xs = true ∧ ¬ (HT.sIx xs.length 0 lo = 0 ∧ HT.sIx xs.length xs.length hi = xs.length) then some (.tup (cutD xs lo hi)) else none := rfl
theorem vv_index : gIndex [.lst o xs, .int k] = (ints? xs).bind fun ns => if k ∈ ns then some (.int (ns.idxOf k : Nat)) else none := rfl
theorem vv_count : gCount [.lst o xs, .int k] = (ints? xs).map fun ns => .int (ns.count k : Nat) := rfl
theorem isL_l : isL (.lst o xs) = true := rfl
theorem isL_c : isL (.cst xs) = true := rfl
theorem lenL_l : lenL (.lst o xs) = xs.length := rfl
theorem lenL_c : lenL (.cst xs) = xs.length := rfl
theorem vv_range : gRange [.int i, .int j] = some (.rng i j) := rfl
theorem kindL : kindD "list" (.lst o xs) = true := rfl
/-- the places that are walked: those of a list that stays -/
theorem itE_at {h : Hd} {ρ : Ev} {xs : List D} (hk : ∀ k, itK isL h k ρ = some xs[k]?) (k : Nat) : itE h k ρ = some ((xs.mapIdx fun k c => D.tup [.int (k : Nat), c])[k]?) := by
  unfold itE
  rw [hk k, List.getElem?_mapIdx]
  rfl
theorem itZ_at {h h' : Hd} {ρ : Ev} {xs ys : List D} (hx : ∀ k, itK isL h k ρ = some xs[k]?) (hy : ∀ k, itK isL h' k ρ = some ys[k]?) (k : Nat) : itZ h h' k ρ = some ((List.zipWith (fun c c' => D.tup [c, c']) xs ys)[k]?) := by
  unfold itZ
  rw [hx k, hy k, List.getElem?_zipWith]
  show some _ = some _
  congr 1
  cases xs[k]? <;> cases ys[k]? <;> rfl
end
end Mv
end
section
set_option Elab.async false
set_option linter.all false
set_option maxRecDepth 100000
set_option maxHeartbeats 4000000
namespace Mv
open PySem
local macro_rules | `(tactic| walk_at "ev") => `(tactic| try simp only [↓W_bCons, ↓W_bNil, ↓W_bBrk, ↓W_bCnt, ↓W_bExp, ↓W_bRet, ↓W_bRetN, ↓W_bIf, ↓W_bAsg, ↓W_bPar, ↓W_bAug, ↓W_eC, ↓W_eV, ↓W_eM, ↓W_hV, ↓W_hE, ↓W_eFz, ↓W_e1, ↓W_e2, ↓W_aNil, ↓W_aCons, ↓W_eN, ↓W_eTup, ↓W_eLst, ↓W_eCall, ↓W_eMut, ↓W_eMt, ↓W_eIf, ↓W_eAn, ↓W_eOr, ↓W_eNo, ↓W_eJ0, ↓W_eJ1, ↓W_tT, ↓W_tB, ↓W_tNo, ↓W_tAn, ↓W_tOr, ↓W_tAll, ↓W_gNm, ↓W_gsNil, ↓W_gsCons, ↓W_gTp, ↓W_gIx, ↓W_bFor, ↓W_bWhile, ↓W_iRg1, ↓W_iRg2, ↓W_iSq, ↓W_eLc, ↓W_bind, ↓W_map, ↓W_some, ↓W_none,
  Hd.get, List.getElem?_cons_zero, List.getElem?_cons_succ, List.getD_cons_zero, List.getD_cons_succ, List.set_cons_zero, List.set_cons_succ, List.length_cons, List.length_nil, List.map_cons, List.map_nil, List.replicate, List.cons_append, List.nil_append, Nat.reduceAdd, Nat.reduceSub, Nat.reduceLeDiff, Nat.zero_add,
  D.frz, D.frzL, D.fz, D.fzL, tru_b, tru_i, tru_n, tru_l, tru_t, tru_c, tms, lend, unlend, keepL, Option.map_some, Option.bind_some, Bool.and_true, Bool.true_and, Bool.not_true, Bool.not_false, ↓reduceIte, if_true, if_false, Bool.false_eq_true, true_and, and_true, ite_b,
  vv_add, vv_sub, vv_mul, vv_div, vv_mod, vv_pow, vv_shl, vv_shr, vv_neg, vv_lt, vv_le, vv_gt, vv_ge, vv_int, vv_intS, vv_intb, vv_abs, vv_gcd, vv_max2, vv_min2, vv_lenL, vv_lenC, vv_lenT, vv_idxL, vv_idxC, vv_idxT, vv_eqI, vv_eqB, vv_neI, vv_list, vv_listT, vv_tuple, vv_tupleT, vv_sum, vv_maxL, vv_minL, vv_strI, vv_app, vv_isNN, vv_isIN, vv_isSN, vv_isBN, vv_isLN, vv_isTN, vv_isBB, vv_isNB, vv_isIB, vv_isSB, vv_isLB, vv_isTB, vv_inNN, vv_inIN, vv_inSN, vv_inBN, vv_inLN, vv_inTN, vv_inBB, atF0, atF1, atF2, atF3, atF4, atF5, okI, okB, okS, okN, okL, ix0, ix1, ix2, frzL_int, fzL_int, intsD_map, isiI_int, isiI_str, isiI_bool, isiI_list, isiI_tuple, isiS_int, isiS_str, isiS_bool, isiS_list, isiS_tuple, isiB_int, isiB_str, isiB_bool, isiB_list, isiB_tuple, isiL_int, isiL_str, isiL_bool, isiL_list, isiL_tuple, isiT_int, isiT_str, isiT_bool, isiT_list, isiT_tuple, isiN_int, isiN_str, isiN_bool, isiN_list, isiN_tuple])
namespace PreA
noncomputable def d_law_cell : Ev → Option Out := bCons (bIf (tB' (e2 gLt (hV 1) (hE (eN gLen (aCons (hV 0) aNil))))) (bRet (e2 gIdx (hV 0) (hV 1))) (bNil)) (bRet (eC (.int 0)))
noncomputable def F_law_cell : List D → Option (D × List D) := fnD [true, true] 2 d_law_cell
noncomputable def d_law_digits : Ev → Option Out := bCons (bAsg (eLst (aNil)) (gNm 3)) (bCons (bFor (iRg2 (aCons (hV 1) (aCons (hV 2) aNil))) (gNm 4) (bCons (bAsg (eCall 2 F_law_cell (aCons (hV 0) (aCons (hV 4) aNil))) (gNm 5)) (bCons (bIf (tB' (e2 gLt (hV 5) (hE (eC (.int 0))))) (bAsg (e2 gSubt (hE (eC (.int 1))) (hE (e2 gMul (hE (eC (.int 2))) (hV 5)))) (gNm 5)) (bNil)) (bIf (tB' (e2 gGe (hV 5) (hE (e2 gPow (hE (eC (.int 10))) (hE (eC (.int 18))))))) (bFor (iRg1 (aCons (hE (eC (.int 60))) aNil)) (gNm 6) (bIf (tB' (e2 gGt (hV 5) (hE (eC (.int 0))))) (bCons (bExp (eMut 3 gApp (aCons (hE (e2 gMod (hE (eN gInt (aCons (hV 5) aNil))) (hE (eC (.int 1000))))) aNil))) (bAsg (e2 gDiv (hV 5) (hE (eC (.int 1000)))) (gNm 5))) (bNil))) (bCons (bAsg (e2 gMod (hE (eN gInt (aCons (hE (e2 gAdd (hE (e2 gAdd (hE (e2 gMul (hV 5) (hE (eC (.int 48271))))) (hE (e2 gMul (hV 4) (hE (eC (.int 69621))))))) (hE (eC (.int 11))))) aNil))) (hE (eC (.int 2147483647)))) (gNm 7)) (bFor (iRg1 (aCons (hE (eC (.int 12))) aNil)) (gNm 6) (bCons (bAsg (e2 gMod (hE (eN gInt (aCons (hE (e2 gAdd (hE (e2 gAdd (hE (e2 gMul (hV 7) (hE (eC (.int 16807))))) (hE (e2 gMul (hE (eC (.int 7))) (hV 6))))) (hE (eC (.int 1))))) aNil))) (hE (eC (.int 2147483647)))) (gNm 7)) (bExp (eMut 3 gApp (aCons (hE (e2 gMod (hE (eN gInt (aCons (hE (e2 gDiv (hV 7) (hE (eC (.int 997))))) aNil))) (hE (eC (.int 1000))))) aNil)))))))))) (bRet (eM 3)))
noncomputable def F_law_digits : List D → Option (D × List D) := fnD [true, true, true] 8 d_law_digits
noncomputable def d_law_draw : Ev → Option Out := bCons (bAsg (e2 gAdd (hE (e2 gIdx (hV 0) (hE (eC (.int 1))))) (hE (eC (.int 1)))) (gIx 0 (hE (eC (.int 1))))) (bCons (bIf (tB' (e2 gGt (hE (e2 gIdx (hV 0) (hE (eC (.int 1))))) (hE (eN gLen (aCons (hE (e2 gIdx (hV 0) (hE (eC (.int 0))))) aNil))))) (bRet (e2 gMod (hE (eN gInt (aCons (hE (e2 gAdd (hE (e2 gMul (hE (e2 gIdx (hV 0) (hE (eC (.int 1))))) (hE (eC (.int 7))))) (hE (eC (.int 3))))) aNil))) (hV 1))) (bNil)) (bRet (e2 gMod (hE (eN gInt (aCons (hE (e2 gIdx (hE (e2 gIdx (hV 0) (hE (eC (.int 0))))) (hE (e2 gSubt (hE (e2 gIdx (hV 0) (hE (eC (.int 1))))) (hE (eC (.int 1))))))) aNil))) (hV 1))))
noncomputable def F_law_draw : List D → Option (D × List D) := fnD [true, true] 2 d_law_draw
noncomputable def d_law_pick : Ev → Option Out := bRet (e2 gIdx (hV 1) (hE (e2 gMod (hE (eN gInt (aCons (hE (eCall 2 F_law_draw (aCons (hV 0) (aCons (hE (eC (.int 1000))) aNil)))) aNil))) (hE (eN gLen (aCons (hV 1) aNil))))))
noncomputable def F_law_pick : List D → Option (D × List D) := fnD [true, true] 2 d_law_pick
noncomputable def d_law_same (F0 : List D → Option (D × List D)) : Ev → Option Out := bCons (bIf (tB' (e2 (gIsB false) (hV 1) (hE (eC .non)))) (bRet (e2 (gIsB false) (hV 0) (hE (eC .non)))) (bNil)) (bCons (bIf (tB' (e2 (gIsB false) (hV 1) (hE (eC (.bl true))))) (bRet (e2 (gIsB false) (hV 0) (hE (eC (.bl true))))) (bNil)) (bCons (bIf (tB' (e2 (gIsB false) (hV 1) (hE (eC (.bl false))))) (bRet (e2 (gIsB false) (hV 0) (hE (eC (.bl false))))) (bNil)) (bCons (bIf (tT (hE (eN gIsi (aCons (hV 1) (aCons (hE (eC (.ty "str"))) aNil))))) (bRet (eAn (eN gIsi (aCons (hV 0) (aCons (hE (eC (.ty "str"))) aNil))) (e2 gEq (hE (eN gRepr (aCons (hV 0) aNil))) (hE (eN gRepr (aCons (hV 1) aNil)))))) (bNil)) (bCons (bIf (tT (hE (eN gIsi (aCons (hV 1) (aCons (hE (eC (.ty "int"))) aNil))))) (bRet (eAn (eN gIsi (aCons (hV 0) (aCons (hE (eC (.ty "int"))) aNil))) (eAn (eNo (eN gIsi (aCons (hV 0) (aCons (hE (eC (.ty "bool"))) aNil)))) (e2 gEq (hE (eN gRepr (aCons (hV 0) aNil))) (hE (eN gRepr (aCons (hV 1) aNil))))))) (bNil)) (bCons (bIf (tOr' (tAn (tT (hE (eN gIsi (aCons (hV 1) (aCons (hE (eC (.ty "tuple"))) aNil))))) (tNo (tT (hE (eN gIsi (aCons (hV 0) (aCons (hE (eC (.ty "tuple"))) aNil))))))) (tAn (tT (hE (eN gIsi (aCons (hV 1) (aCons (hE (eC (.ty "list"))) aNil))))) (tNo (tT (hE (eN gIsi (aCons (hV 0) (aCons (hE (eC (.ty "list"))) aNil)))))))) (bRet (eC (.bl false))) (bNil)) (bCons (bIf (tB' (e2 gNe (hE (eN gLen (aCons (hV 0) aNil))) (hE (eN gLen (aCons (hV 1) aNil))))) (bRet (eC (.bl false))) (bNil)) (bCons (bFor (iRg1 (aCons (hE (eN gLen (aCons (hV 1) aNil))) aNil)) (gNm 2) (bIf (tNo (tT (hE (eCall 2 F0 (aCons (hE (e2 gIdx (hV 0) (hV 2))) (aCons (hE (e2 gIdx (hV 1) (hV 2))) aNil)))))) (bRet (eC (.bl false))) (bNil))) (bRet (eC (.bl true))))))))))
noncomputable def S_law_same (F0 : List D → Option (D × List D)) : List D → Option (D × List D) := fnD [true, true] 3 (d_law_same F0)
noncomputable def R_law_same : Nat → List D → Option (D × List D)
  | 0 => fun _ => none
  | n + 1 => S_law_same (R_law_same n)
noncomputable def F_law_same : List D → Option (D × List D) := R_law_same 8
end PreA
namespace PreA
def cellV (ns : List Int) (k : Int) : Int := if k < ns.length then ns.getD k.toNat 0 else 0
theorem cell_ok {ns : List Int} {k : Int} (hk : 0 ≤ k) : F_law_cell [.cst (ns.map D.int), .int k] = some (.int (cellV ns k), [.cst (ns.map D.int), .int k]) := by
  apply of_W
  unfold F_law_cell
  rw [W_fnD rfl]
  unfold d_law_cell
  walk_at "ev"
  rw [List.length_map]
  split
  · rename_i h
    obtain ⟨n, rfl⟩ := Int.eq_ofNat_of_zero_le hk
    have hn : n < ns.length := by omega
    rw [atF_nat, List.getElem?_map, List.getElem?_eq_getElem hn]
    show W (okD (.int ns[n])) _
    rw [okI, W_some]
    unfold cellV
    rw [if_pos h]
    simp [hn]
  · rename_i h
    unfold cellV
    rw [if_neg h]
/-- the box behind n draws -/
abbrev bx (ds : List Int) (n : Int) : D := .lst true [.lst false (ds.map D.int), .int n]
def drw (ds : List Int) (n m : Int) : Int := if (ds.length : Int) < n + 1 then ((n + 1) * 7 + 3) % m else ds.getD n.toNat 0 % m
theorem drw_nn {ds : List Int} {n m : Int} (hm : 0 < m) : 0 ≤ drw ds n m := by
  unfold drw
  split <;> exact Int.emod_nonneg _ (by omega)
theorem drw_lt {ds : List Int} {n m : Int} (hm : 0 < m) : drw ds n m < m := by
  unfold drw
  split <;> exact Int.emod_lt_of_pos _ hm
theorem draw_ok {ds : List Int} {n m : Int} (hn : 0 ≤ n) (hm : 0 < m) : F_law_draw [bx ds n, .int m] = some (.int (drw ds n m), [bx ds (n + 1), .int m]) := by
  apply of_W
  unfold F_law_draw bx
  rw [W_fnD rfl]
  unfold d_law_draw
  walk_at "ev"
  rw [List.length_map]
  unfold drw
  split
  · rename_i h
    rw [W_ok (MulOk.right (by decide))]
    walk_at "ev"
    rw [W_ok hm]
  · rename_i h
    obtain ⟨k, rfl⟩ := Int.eq_ofNat_of_zero_le hn
    have hk : k < ds.length := by omega
    rw [Int.add_sub_cancel, atF_nat, List.getElem?_map, List.getElem?_eq_getElem hk]
    show W (okD (.int ds[k])) _
    rw [okI, W_some]
    walk_at "ev"
    rw [W_ok hm]
    simp [hk]
theorem pick_ok {ds : List Int} {n : Int} {o : Bool} {xs : List D} (hn : 0 ≤ n) (hx : xs ≠ []) : ∃ j, ∃ h : j < xs.length, F_law_pick [bx ds n, .lst o xs] = (okD xs[j]).map fun x => (x, [bx ds (n + 1), .lst o xs]) := by
  have hl : (0 : Int) < xs.length := by
    cases xs with
    | nil => exact absurd rfl hx
    | cons _ _ => simp
  obtain ⟨j, hj⟩ := Int.eq_ofNat_of_zero_le (show 0 ≤ drw ds n 1000 % (xs.length : Int) from Int.emod_nonneg _ (by omega))
  have hj2 : j < xs.length := by
    have := Int.emod_lt_of_pos (drw ds n 1000) hl
    omega
  refine ⟨j, hj2, ?_⟩
  have key : ∀ (Q : D × List D → Prop), W (F_law_pick [bx ds n, .lst o xs]) Q = W (okD xs[j]) fun x => Q (x, [bx ds (n + 1), .lst o xs]) := fun Q => by
    unfold F_law_pick
    rw [W_fnD rfl]
    unfold d_law_pick
    walk_at "ev"
    have e := draw_ok (ds := ds) (n := n) (m := 1000) hn (by decide)
    unfold bx at e ⊢
    walk_at "ev"
    rw [W_eq e]
    cases o <;> (walk_at "ev"; rw [W_ok hl]; walk_at "ev"; rw [hj, atF_nat, List.getElem?_eq_getElem hj2]; rfl)
  cases h : okD xs[j] with
  | some x =>
    apply of_W
    rw [key, h, W_some]
  | none =>
    cases h2 : F_law_pick [bx ds n, .lst o xs] with
    | none => rfl
    | some r =>
      have := key fun _ => True
      rw [h, h2, W_some, W_none] at this
      exact absurd trivial (by rw [this]; exact fun z => z)
noncomputable def digRest : Ev → Option Out := bIf (tB' (e2 gGe (hV 5) (hE (e2 gPow (hE (eC (D.int 10))) (hE (eC (D.int 18)))))))
                (bFor (iRg1 (aCons (hE (eC (D.int 60))) aNil)) (gNm 6)
                  (bIf (tB' (e2 gGt (hV 5) (hE (eC (D.int 0)))))
                    (bCons (bExp (eMut 3 gApp (aCons (hE (e2 gMod (hE (eN gInt (aCons (hV 5) aNil))) (hE (eC (D.int 1000))))) aNil)))
                      (bAsg (e2 gDiv (hV 5) (hE (eC (D.int 1000)))) (gNm 5))) bNil))
                (bCons (bAsg (e2 gMod (hE (eN gInt (aCons (hE (e2 gAdd (hE (e2 gAdd (hE (e2 gMul (hV 5) (hE (eC (D.int 48271)))))
                                    (hE (e2 gMul (hV 4) (hE (eC (D.int 69621))))))) (hE (eC (D.int 11))))) aNil))) (hE (eC (D.int 2147483647)))) (gNm 7))
                  (bFor (iRg1 (aCons (hE (eC (D.int 12))) aNil)) (gNm 6)
                    (bCons (bAsg (e2 gMod (hE (eN gInt (aCons (hE (e2 gAdd (hE (e2 gAdd (hE (e2 gMul (hV 7) (hE (eC (D.int 16807)))))
                                        (hE (e2 gMul (hE (eC (D.int 7))) (hV 6))))) (hE (eC (D.int 1))))) aNil))) (hE (eC (D.int 2147483647)))) (gNm 7))
                      (bExp (eMut 3 gApp (aCons (hE (e2 gMod (hE (eN gInt (aCons (hE (e2 gDiv (hV 7) (hE (eC (D.int 997))))) aNil))) (hE (eC (D.int 1000))))) aNil))))))
theorem digRest_ok {ns ds : List Int} {a b c : Int} {k : Nat} {x6 x7 : D} (hk : k ≤ 64) (hlen : ds.length ≤ 60 * k) (hds : ∀ d ∈ ds, 0 ≤ d ∧ d < 1000) (hc : 0 ≤ c) : W (digRest [.cst (ns.map D.int), .int a, .int b, .lst true (ds.map D.int), .int (a + k), .int c, x6, x7]) fun o => match o with
            | .nx ρ2 => ∃ (ds : List Int) (x4 x5 x6 x7 : D), ρ2 = [.cst (ns.map D.int), .int a, .int b, .lst true (ds.map D.int), x4, x5, x6, x7] ∧ ds.length ≤ 60 * (k + 1) ∧ (∀ d ∈ ds, 0 ≤ d ∧ d < 1000) ∧ (0 < k + 1 → ds ≠ [])
            | _ => False := by
  unfold digRest
  walk_at "ev"
  rw [W_ok (by decide)]
  walk_at "ev"
  split
  · rename_i hbig
    rw [W_ok (by decide)]
    walk_at "ev"
    refine W_range (lo := 0) (n := 60) (fun j ρ => ∃ (es : List Int) (c' : Int) (x6 x7 : D), ρ = [.cst (ns.map D.int), .int a, .int b, .lst true (es.map D.int), .int (a + k), .int c', x6, x7] ∧ 0 ≤ c' ∧ (j = 0 → c' = c) ∧ es.length ≤ 60 * k + j ∧ (∀ d ∈ es, 0 ≤ d ∧ d < 1000) ∧ (0 < j → es ≠ [])) ⟨ds, c, _, _, rfl, hc, fun _ => rfl, hlen, hds, by simp⟩ ?_ ?_
    · rintro j ρ hj ⟨es, c', y6, y7, rfl, hc', h0, hl', hes, hne⟩
      walk_at "ev"
      split
      · rw [W_ok (by decide)]
        walk_at "ev"
        rw [List.length_map, W_ok (by have : j < 60 := hj; omega)]
        walk_at "ev"
        rw [W_ok (by decide)]
        refine ⟨es ++ [c' % 1000], c' / 1000, _, _, by rw [List.map_append]; rfl, by omega, by omega, by simp; omega, ?_, by simp⟩
        intro d hd
        rcases List.mem_append.mp hd with hd | hd
        · exact hes d hd
        · rw [List.mem_singleton] at hd
          omega
      · rename_i hpos
        refine ⟨es, c', _, _, rfl, hc', by omega, by omega, hes, fun _ => ?_⟩
        by_cases hj0 : j = 0
        · have := h0 hj0
          have hb2 : (10 : Int) ^ (18 : Int).toNat ≤ c := hbig
          have h18 : (10 : Int) ^ (18 : Int).toNat = 1000000000000000000 := by decide
          omega
        · exact hne (by omega)
    · rintro ρ ⟨es, c', y6, y7, rfl, hc', h0, hl', hes, hne⟩
      exact ⟨es, _, _, _, _, rfl, by omega, hes, fun _ => hne (by decide)⟩
  · rename_i hsmall
    rw [W_ok (MulOk.right (by decide))]
    walk_at "ev"
    rw [W_ok (MulOk.right (by decide))]
    walk_at "ev"
    rw [W_ok (by decide)]
    walk_at "ev"
    rw [W_ok (by decide)]
    walk_at "ev"
    refine W_range (lo := 0) (n := 12) (fun j ρ => ∃ (es : List Int) (s : Int) (x6 : D), ρ = [.cst (ns.map D.int), .int a, .int b, .lst true (es.map D.int), .int (a + k), .int c, x6, .int s] ∧ es.length ≤ 60 * k + j ∧ (∀ d ∈ es, 0 ≤ d ∧ d < 1000) ∧ (0 < j → es ≠ [])) ⟨ds, _, _, rfl, hlen, hds, by simp⟩ ?_ ?_
    · rintro j ρ hj ⟨es, s', y6, rfl, hl', hes, hne⟩
      walk_at "ev"
      rw [W_ok (MulOk.right (by decide))]
      walk_at "ev"
      rw [W_ok (MulOk.left (by decide))]
      walk_at "ev"
      rw [W_ok (by decide)]
      walk_at "ev"
      rw [W_ok (by decide)]
      walk_at "ev"
      rw [W_ok (by decide)]
      walk_at "ev"
      rw [List.length_map, W_ok (by have : j < 12 := hj; omega)]
      refine ⟨es ++ [_], _, _, by rw [List.map_append]; rfl, by simp; omega, ?_, by simp⟩
      intro d hd
      rcases List.mem_append.mp hd with hd | hd
      · exact hes d hd
      · rw [List.mem_singleton] at hd
        omega
    · rintro ρ ⟨es, s', y6, rfl, hl', hes, hne⟩
      exact ⟨es, _, _, _, _, rfl, by omega, hes, fun _ => hne (by decide)⟩
  
theorem digits_ok {ns : List Int} {a b : Int} (hn : ns.length ≤ 63) (ha : 0 ≤ a) (hab : a < b) (hb : b ≤ 64) : ∃ ds : List Int, ds ≠ [] ∧ (∀ d ∈ ds, 0 ≤ d ∧ d < 1000) ∧ F_law_digits [.cst (ns.map D.int), .int a, .int b] = some (.lst true (ds.map D.int), [.cst (ns.map D.int), .int a, .int b]) := by
  have key : W (F_law_digits [.cst (ns.map D.int), .int a, .int b]) fun r => ∃ ds : List Int, ds ≠ [] ∧ (∀ d ∈ ds, 0 ≤ d ∧ d < 1000) ∧ r = (.lst true (ds.map D.int), [.cst (ns.map D.int), .int a, .int b]) := by
    unfold F_law_digits
    rw [W_fnD rfl]
    unfold d_law_digits
    change W (bCons _ (bCons (bFor _ _ (bCons _ (bCons _ digRest))) _) _) _
    walk_at "ev"
    rw [W_ok (by omega)]
    walk_at "ev"
    refine W_range (lo := a) (n := (b - a).toNat) (fun k ρ => ∃ (ds : List Int) (x4 x5 x6 x7 : D), ρ = [.cst (ns.map D.int), .int a, .int b, .lst true (ds.map D.int), x4, x5, x6, x7] ∧ ds.length ≤ 60 * k ∧ (∀ d ∈ ds, 0 ≤ d ∧ d < 1000) ∧ (0 < k → ds ≠ [])) ⟨[], _, _, _, _, rfl, by simp, by simp, by simp⟩ ?_ ?_
    · rintro k ρ hk ⟨ds, x4, x5, x6, x7, rfl, hlen, hds, _⟩
      walk_at "ev"
      rw [W_eq (cell_ok (by omega))]
      walk_at "ev"
      generalize cellV ns (a + k) = c
      -- below 0
      by_cases hneg : c < 0
      · rw [if_pos hneg, W_ok (MulOk.left (by decide))]
        walk_at "ev"
        refine W_mono (digRest_ok (c := 1 - 2 * c) (by omega) hlen hds (by omega)) fun o ho => ?_
        cases o with
        | nx ρ2 => exact ho
        | _ => exact ho.elim
      · rw [if_neg hneg]
        refine W_mono (digRest_ok (by omega) hlen hds (by omega)) fun o ho => ?_
        cases o with
        | nx ρ2 => exact ho
        | _ => exact ho.elim
    · rintro ρ ⟨ds, x4, x5, x6, x7, rfl, hlen, hds, hne⟩
      walk_at "ev"
      exact ⟨ds, hne (by omega), hds, rfl⟩
  obtain ⟨r, e, ds, h1, h2, h3⟩ := key
  exact ⟨ds, h1, h2, by rw [e, h3]⟩
/-- alike, of nesting below n, all of a size that can be told -/
def Sm : Nat → D → D → Prop
  | 0, _, _ => False
  | n + 1, d, e => match d, e with
    | .non, .non => True
    | .bl a, .bl b => a = b
    | .int a, .int b => a = b ∧ a.natAbs < 2 ^ 1900
    | .str a, .str b => a = b ∧ (reprText a).length ≤ 16777216
    | .lst _ xs, .lst _ ys => xs.length = ys.length ∧ ys.length < 2 ^ 62 ∧ ∀ (k : Nat) (a b : D), xs[k]? = some a → ys[k]? = some b → Sm n a b ∧ a.frz = true ∧ b.frz = true
    | .tup xs, .tup ys => xs.length = ys.length ∧ ys.length < 2 ^ 62 ∧ ∀ (k : Nat) (a b : D), xs[k]? = some a → ys[k]? = some b → Sm n a b ∧ a.frz = true ∧ b.frz = true
    | _, _ => False
theorem loopL {F0 : List D → Option (D × List D)} {xs ys : List D} {q q' : Bool} (hl : xs.length = ys.length)
    (hF : ∀ (k : Nat) (a b : D), xs[k]? = some a → ys[k]? = some b → F0 [a, b] = some (.bl true, [a, b]) ∧ a.frz = true ∧ b.frz = true) {x2 : D} :
    W (lrun (fStep (itR 0 1 ys.length) (gNm 2) (bIf (tNo (tT (hE (eCall 2 F0 (aCons (hE (e2 gIdx (hV 0) (hV 2))) (aCons (hE (e2 gIdx (hV 1) (hV 2))) aNil)))))) (bRet (eC (.bl false))) (bNil))) [.lst q xs, .lst q' ys, x2]) fun o => match o with
      | .nx ρ => ∃ x2, ρ = [.lst q xs, .lst q' ys, x2]
      | _ => False := by
  refine W_range (fun k ρ => ∃ x2, ρ = [.lst q xs, .lst q' ys, x2]) ⟨_, rfl⟩ ?_ ?_
  · rintro k ρ hk ⟨x2, rfl⟩
    have h1 : k < xs.length := by omega
    obtain ⟨e1, e2, e3⟩ := hF k xs[k] ys[k] (List.getElem?_eq_getElem h1) (List.getElem?_eq_getElem hk)
    walk_at "ev"
    rw [Int.zero_add, atF_nat, List.getElem?_eq_getElem h1]
    show W (okD xs[k]) _
    rw [okD_of e2, W_some]
    walk_at "ev"
    rw [atF_nat, List.getElem?_eq_getElem hk]
    show W (okD ys[k]) _
    rw [okD_of e3, W_some]
    walk_at "ev"
    rw [W_eq e1]
    walk_at "ev"
    exact ⟨_, rfl⟩
  · rintro ρ ⟨x2, rfl⟩
    exact ⟨_, rfl⟩
theorem loopT {F0 : List D → Option (D × List D)} {xs ys : List D}  (hl : xs.length = ys.length)
    (hF : ∀ (k : Nat) (a b : D), xs[k]? = some a → ys[k]? = some b → F0 [a, b] = some (.bl true, [a, b]) ∧ a.frz = true ∧ b.frz = true) {x2 : D} :
    W (lrun (fStep (itR 0 1 ys.length) (gNm 2) (bIf (tNo (tT (hE (eCall 2 F0 (aCons (hE (e2 gIdx (hV 0) (hV 2))) (aCons (hE (e2 gIdx (hV 1) (hV 2))) aNil)))))) (bRet (eC (.bl false))) (bNil))) [.tup xs, .tup ys, x2]) fun o => match o with
      | .nx ρ => ∃ x2, ρ = [.tup xs, .tup ys, x2]
      | _ => False := by
  refine W_range (fun k ρ => ∃ x2, ρ = [.tup xs, .tup ys, x2]) ⟨_, rfl⟩ ?_ ?_
  · rintro k ρ hk ⟨x2, rfl⟩
    have h1 : k < xs.length := by omega
    obtain ⟨e1, e2, e3⟩ := hF k xs[k] ys[k] (List.getElem?_eq_getElem h1) (List.getElem?_eq_getElem hk)
    walk_at "ev"
    rw [Int.zero_add, atF_nat, List.getElem?_eq_getElem h1]
    show W (okD xs[k]) _
    rw [okD_of e2, W_some]
    walk_at "ev"
    rw [atF_nat, List.getElem?_eq_getElem hk]
    show W (okD ys[k]) _
    rw [okD_of e3, W_some]
    walk_at "ev"
    rw [W_eq e1]
    walk_at "ev"
    exact ⟨_, rfl⟩
  · rintro ρ ⟨x2, rfl⟩
    exact ⟨_, rfl⟩
theorem same_ok : ∀ (n : Nat) (d e : D), Sm n d e → R_law_same n [d, e] = some (.bl true, [d, e])
  | 0, _, _, h => h.elim
  | n + 1, d, e, h => by
    apply of_W
    show W (S_law_same (R_law_same n) [d, e]) _
    unfold S_law_same
    rw [W_fnD rfl]
    unfold d_law_same
    unfold Sm at h
    split at h
    · walk_at "ev"
    · subst h
      rename_i a
      cases a <;> (walk_at "ev"; rfl)
    · obtain ⟨rfl, hz⟩ := h
      rename_i a
      have r : gRepr [.int a] = some (.str (toString a)) := if_pos hz
      walk_at "ev"
      simp only [r, vv_eqS, decide_true]
      walk_at "ev"
      simp only [r, vv_eqS, decide_true]
      walk_at "ev"
      done
    · obtain ⟨rfl, hz⟩ := h
      rename_i a
      have r : gRepr [.str a] = some (.str (reprText a)) := if_pos hz
      walk_at "ev"
      simp only [r, vv_eqS, decide_true]
      walk_at "ev"
      simp only [r, vv_eqS, decide_true]
      walk_at "ev"
      done
    · obtain ⟨hl, hz, hk⟩ := h
      rename_i o xs o' ys
      walk_at "ev"
      rw [hl]
      simp only [decide_true, Bool.not_true, if_false, Bool.false_eq_true]
      walk_at "ev"
      rw [W_ok (by omega)]
      walk_at "ev"
      rw [Int.toNat_natCast]
      refine W_mono (loopL hl fun k a b ha hb => ?_) fun o ho => ?_
      · obtain ⟨h1, h2, h3⟩ := hk k a b ha hb
        exact ⟨same_ok n a b h1, h2, h3⟩
      · cases o with
        | nx ρ =>
          obtain ⟨x2, rfl⟩ := ho
          walk_at "ev"
        | _ => exact ho.elim
    · obtain ⟨hl, hz, hk⟩ := h
      rename_i xs ys
      walk_at "ev"
      rw [hl]
      simp only [decide_true, Bool.not_true, if_false, Bool.false_eq_true]
      walk_at "ev"
      rw [W_ok (by omega)]
      walk_at "ev"
      rw [Int.toNat_natCast]
      refine W_mono (loopT hl fun k a b ha hb => ?_) fun o ho => ?_
      · obtain ⟨h1, h2, h3⟩ := hk k a b ha hb
        exact ⟨same_ok n a b h1, h2, h3⟩
      · cases o with
        | nx ρ =>
          obtain ⟨x2, rfl⟩ := ho
          walk_at "ev"
        | _ => exact ho.elim
    · exact h.elim
theorem pick_int {ds : List Int} {n : Int} {o : Bool} (ks : List Int) (hn : 0 ≤ n) (hk : ks ≠ []) : ∃ k ∈ ks, F_law_pick [bx ds n, .lst o (ks.map D.int)] = some (.int k, [bx ds (n + 1), .lst o (ks.map D.int)]) := by
  obtain ⟨j, hj, e⟩ := pick_ok (ds := ds) (n := n) (o := o) (xs := ks.map D.int) hn (by simpa using hk)
  have hj2 : j < ks.length := by simpa using hj
  refine ⟨ks[j], List.getElem_mem hj2, ?_⟩
  rw [e, List.getElem_map]
  rfl
theorem frz_bx {ds : List Int} {n : Int} : (bx ds n).frz = false := rfl
end PreA
end Mv
end
section
/-! more operations: x += y on numbers and texts -/
namespace Mv
open PySem PySem.Spec PyProof.Rows L2
def gAug : D → D → Option D := fun a b => match a, b with
  | .int i, .int j => some (.int (i + j))
  | .str x, .str y => if x.length + y.length ≤ 16777216 then some (.str (x ++ y)) else none
  | _, _ => none
def rAug : R2 := rOr (rI0 fun i j => .int (i + j)) (fun x y H Q => ∃ i j, x = .str i ∧ y = .str j ∧ i.length + j.length ≤ sizeLine ∧ Q (.str (i ++ j)) H)
theorem ip_addA {X : Cx} : PIp X .Add rAug := OpR.or iop_add iop_add_str
theorem o2_ipAdd {K : Frg} : Op2 K rAug gAug := by
  intro x y H dx dy l Q d hi mx my hg q
  unfold gAug at hg
  split at hg
  · rename_i i j
    cases hg
    exact .inl ⟨i, j, hi.view mx, hi.view my, q _ H (hi.add rfl fun _ _ => rfl)⟩
  · rename_i a b
    split at hg
    · rename_i c
      cases hg
      exact .inr ⟨a, b, hi.view mx, hi.view my, by rw [sizeLine_eq]; exact c, q _ H (hi.add rfl fun _ _ => rfl)⟩
    · cases hg
  · cases hg
theorem ip_subA {X : Cx} : PIp X .Sub (rI0 fun i j => .int (i - j)) := iop_sub
variable {i j : Int} {x y : Str}
theorem vv_augI : gAug (.int i) (.int j) = some (.int (i + j)) := rfl
theorem vv_augS : gAug (.str x) (.str y) = if x.length + y.length ≤ 16777216 then some (.str (x ++ y)) else none := rfl
end Mv
end
section
set_option Elab.async false
set_option linter.all false
set_option maxRecDepth 100000
/-! more operations: in, not in, pop, reverse, extend, count -/
namespace Mv
open PySem PySem.Spec PyProof.Rows L2
/-! ### in -/
def inD (a : D) (xs : List D) : Bool := (D.pdL xs).any fun z => PyData.eqv z a.pd
def gIn (neg : Bool) : D → D → Option D := fun a b => match b with
  | .lst _ xs => if a.dat = true ∧ D.datL xs = true ∧ SeqAt.shaped a.pd = true ∧ SeqAt.shaped (.list (D.pdL xs)) = true then some (.bl (if neg = true then !inD a xs else inD a xs)) else none
  | _ => none
theorem op_inA {X : Cx} (hu : X.A.units + 65 < cLine) : OpR X (compareOp .In) (rInD X.K) := op_inD hu
theorem op_notInA {X : Cx} (hu : X.A.units + 65 < cLine) : OpR X (compareOp .NotIn) (rNotInD X.K) := op_notInD hu
theorem o2_in {K : Frg} : Op2 K (rInD K) (gIn false) := by
  intro x y H dx dy l Q d hi mx my hg q
  unfold gIn at hg
  split at hg
  · rename_i o xs
    split at hg
    · rename_i c
      cases hg
      have hy := Fz.dp (.lst o xs) _ (by rw [D.dat]; exact c.2.1) (hi.view my)
      rw [D.pd] at hy
      exact ⟨_, _, Fz.dp _ _ c.1 (hi.view mx), hy, c.2.2.1, c.2.2.2, q _ H (hi.add rfl fun _ _ => rfl)⟩
    · cases hg
  · cases hg
theorem o2_notIn {K : Frg} : Op2 K (rNotInD K) (gIn true) := by
  intro x y H dx dy l Q d hi mx my hg q
  unfold gIn at hg
  split at hg
  · rename_i o xs
    split at hg
    · rename_i c
      cases hg
      have hy := Fz.dp (.lst o xs) _ (by rw [D.dat]; exact c.2.1) (hi.view my)
      rw [D.pd] at hy
      exact ⟨_, _, Fz.dp _ _ c.1 (hi.view mx), hy, c.2.2.1, c.2.2.2, q _ H (hi.add rfl fun _ _ => rfl)⟩
    · cases hg
  · cases hg
/-! ### list.count over data -/
section
variable {X : Cx}
def rCntD (K : Frg) : V → List V → Hp → VK → Prop := fun x xs H Q => ∃ (a : Addr) (y : V) (d : PyData) (ds : List PyData), x = V.ref a ∧ xs = [y] ∧ Dp K H (V.ref a) (.list ds) ∧ Dp K H y d ∧
  SeqAt.shaped (.list ds) = true ∧ SeqAt.shaped d = true ∧ Q (.int ((ds.countP fun z => PyData.eqv z d : Nat) : Int)) H
theorem mt_countD (hu : X.A.units + 65 < cLine) : MtR X "list.count" (rCntD X.K) := by
  intro pins s σ H x xs v us Q I rx rxs h
  obtain ⟨a, y, d, ds, rfl, rfl, hl, hy, sl, sd, q⟩ := h
  cases rx
  cases rxs with
  | cons ry rt =>
    rename_i uy ut
    cases rt
    obtain ⟨bs, r1⟩ := Dp.reads I d y uy hy ry
    have hxs : PyData.canLayAll0 ds = true := SeqAt.canLay_of_shaped sl
    have hroom : X.A.units + 1 + min (PyData.depthAll ds) d.depth < cLine := room_in_shaped sd hu
    cases hl with
    | lst hs ha =>
      obtain ⟨its, rv, ⟨⟨cls, dd, data, sls⟩, n, ho, hc, hdn, hdt⟩, hlen⟩ := I.list hs
      simp only at hc hdt
      subst hc hdt
      obtain ⟨as, h4⟩ := Dp.readsAll I ds _ its ha rv
      have hmap : its.map (SeqAt.readOf s.heap) = ds := SeqAt.readsAll_map ds its as hxs h4
      refine call_meets PySem.F.slot_list_count ⟨_, ho, rfl⟩ PySem.F.entry_list_count (PySem.F.args_list_count_2 _ _)
        (SeqAt.list_countAt a its.toArray n dd sls uy (fun u => PyData.eqv (SeqAt.readOf s.heap u) d)) ⟨ho, SeqAt.items_eqAt (vs := its.toArray) (show ReadsAll s.heap its.toArray.toList ds as from h4) r1 hxs (SeqAt.canLay_of_shaped sd) hroom, ?_⟩
      have ec : its.toArray.toList.countP (fun u => PyData.eqv (SeqAt.readOf s.heap u) d) = ds.countP fun z => PyData.eqv z d := by
        rw [← hmap, List.countP_map]; rfl
      refine ⟨.int ((ds.countP fun z => PyData.eqv z d : Nat) : Int), H, I.tok _, ⟨s.toks, ?_⟩, q⟩
      show Value.int ((its.toArray.toList.countP (fun u => PyData.eqv (SeqAt.readOf s.heap u) d) : Nat) : Int) s.toks = _
      rw [ec]
end
def gCntD : List D → Option D := fun ds => match ds with
  | [.lst _ xs, a] => if a.dat = true ∧ D.datL xs = true ∧ SeqAt.shaped a.pd = true ∧ SeqAt.shaped (.list (D.pdL xs)) = true then some (.int (((D.pdL xs).countP fun z => PyData.eqv z a.pd : Nat) : Int)) else none
  | _ => none
theorem on_countD {K : Frg} : OpN K (fun xs H Q => ∃ x r', xs = x :: r' ∧ rCntD K x r' H Q) gCntD := by
  intro xs H ds l Q d hi hm hg q
  unfold gCntD at hg
  split at hg
  · rename_i o ys a
    split at hg
    · rename_i c
      cases hg
      cases hm with
      | cons m1 mr =>
        cases mr with
        | cons m2 mr =>
          cases mr
          rename_i x y
          obtain ⟨p, us, rfl, hs, hl, hz, _⟩ := hi.list m1
          have hy := Fz.dp (.lst o ys) _ (by rw [D.dat]; exact c.2.1) (hi.view m1)
          rw [D.pd] at hy
          exact ⟨_, _, rfl, p, y, _, _, rfl, rfl, hy, Fz.dp _ _ c.1 (hi.view m2), c.2.2.2, c.2.2.1, q _ H (hi.add rfl fun _ _ => rfl)⟩
    · cases hg
  · cases hg
/-! ### pop, reverse, extend -/
theorem prs_erase : ∀ {us : List V} {xs : List D} {k : Nat} {v : V} {d : D}, us.length = xs.length → us[k]? = some v → xs[k]? = some d → (prs us xs).Perm ((some v, d) :: prs (us.eraseIdx k) (xs.eraseIdx k))
  | [], _, _, _, _, _, h, _ => by cases h
  | u :: us, [], _, _, _, h, _, _ => by cases h
  | u :: us, x :: xs, 0, v, d, _, h1, h2 => by
    cases h1; cases h2
    exact List.Perm.refl _
  | u :: us, x :: xs, k + 1, v, d, hl, h1, h2 => by
    have i := prs_erase (us := us) (xs := xs) (k := k) (by simpa using hl) h1 h2
    show ((some u, x) :: prs us xs).Perm ((some v, d) :: (some u, x) :: prs (us.eraseIdx k) (xs.eraseIdx k))
    exact (List.Perm.cons _ i).trans (List.Perm.swap _ _ _)
def gPopAt : List D → List D → Option (D × List D) := fun xs ds => match ds with
  | [.int i] => if -(2 ^ 63) ≤ i ∧ i < 2 ^ 63 then (seqIndex? i xs.length).bind fun k => xs[k]?.map fun d => (d, xs.eraseIdx k) else none
  | _ => none
theorem mo_popAt {K : Frg} : MutOp K rPopAt gPopAt := by
  intro a vs H ds xs l Q d ys hlen hi hg q
  unfold gPopAt at hg
  split at hg
  · rename_i i
    split at hg
    · rename_i c
      obtain ⟨k, e1, hg⟩ := Option.bind_eq_some_iff.mp hg
      obtain ⟨d', e2, hg⟩ := Option.map_eq_some_iff.mp hg
      cases hg
      match vs, hlen with
      | [v], _ =>
        have hv : v = .int i := hi.view (List.mem_cons_of_mem _ List.mem_cons_self)
        subst hv
        obtain ⟨us, hs, hl, hop⟩ := hi.open
        have hk : k < us.length := by
          rw [hl]
          exact (List.getElem?_eq_some_iff.mp e2).1
        refine ⟨a, us, i, k, us[k], rfl, rfl, hs, c.1, c.2, by rw [hl]; exact e1, List.getElem?_eq_getElem hk, q _ _ ?_⟩
        have hp := prs_erase hl (List.getElem?_eq_getElem hk) e2
        have hcl : Items K [a] H (prs (us.eraseIdx k) (xs.eraseIdx k) ++ ((some us[k], d) :: l)) := by
          refine hop.sub ⟨prs [.int i] [.int i], ?_⟩
          refine (List.Perm.append hp (List.Perm.refl _)).trans ?_
          show ((some us[k], d) :: (prs (us.eraseIdx k) (xs.eraseIdx k) ++ ((some (.int i), .int i) :: l))).Perm ((some (.int i), .int i) :: (prs (us.eraseIdx k) (xs.eraseIdx k) ++ ((some us[k], d) :: l)))
          exact ((List.Perm.cons _ List.perm_middle).trans (List.Perm.swap _ _ _)).trans (List.Perm.cons _ List.perm_middle.symm)
        have hfin := Items.close hs (by rw [List.length_eraseIdx, List.length_eraseIdx, hl]) hcl
        exact hfin.perm (List.Perm.swap _ _ _)
    · cases hg
  · cases hg
def gPop : List D → List D → Option (D × List D) := fun xs ds => match ds with
  | [] => xs[xs.length - 1]?.map fun d => (d, xs.dropLast)
  | _ => none
theorem erase_last {α : Type} (l : List α) : l.eraseIdx (l.length - 1) = l.dropLast := by
  rw [List.dropLast_eq_take]
  by_cases h : l = []
  · subst h; rfl
  · have : 0 < l.length := List.length_pos_iff.mpr h
    rw [List.eraseIdx_eq_take_drop_succ, Nat.sub_add_cancel this, List.drop_length, List.append_nil]
theorem mo_pop {K : Frg} : MutOp K rPop gPop := by
  intro a vs H ds xs l Q d ys hlen hi hg q
  unfold gPop at hg
  split at hg
  · obtain ⟨d', e2, hg⟩ := Option.map_eq_some_iff.mp hg
    cases hg
    match vs, hlen with
    | [], _ =>
      obtain ⟨us, hs, hl, hop⟩ := hi.open
      have hk : us.length - 1 < us.length := by
        have := (List.getElem?_eq_some_iff.mp e2).1
        omega
      refine ⟨a, us, us[us.length - 1], rfl, rfl, hs, List.getElem?_eq_getElem hk, q _ _ ?_⟩
      have e2' : xs[us.length - 1]? = some d := by rw [hl]; exact e2
      have hp := prs_erase hl (List.getElem?_eq_getElem hk) e2'
      have ex : xs.eraseIdx (us.length - 1) = xs.dropLast := by rw [hl]; exact erase_last _
      rw [erase_last, ex] at hp
      have hcl : Items K [a] H (prs us.dropLast xs.dropLast ++ ((some (us[us.length - 1]'hk), d) :: l)) := by
        refine hop.perm ?_
        refine (List.Perm.append hp (List.Perm.refl _)).trans ?_
        exact List.perm_middle.symm
      have hfin := Items.close hs (by rw [List.length_dropLast, List.length_dropLast, hl]) hcl
      exact hfin.perm (List.Perm.swap _ _ _)
  · cases hg
def gRev : List D → List D → Option (D × List D) := fun xs ds => match ds with
  | [] => some (.non, xs.reverse)
  | _ => none
theorem prs_rev : ∀ {us : List V} {xs : List D}, us.length = xs.length → prs us.reverse xs.reverse = (prs us xs).reverse
  | [], [], _ => rfl
  | [], _ :: _, h => by simp at h
  | _ :: _, [], h => by simp at h
  | u :: us, x :: xs, h => by
    have hh : us.length = xs.length := by simpa using h
    rw [List.reverse_cons, List.reverse_cons, prs_app (by simp [hh]), prs_rev hh]
    show _ = ((some u, x) :: prs us xs).reverse
    rw [List.reverse_cons]
    rfl
theorem mo_rev {K : Frg} : MutOp K rReverse gRev := by
  intro a vs H ds xs l Q d ys hlen hi hg q
  unfold gRev at hg
  split at hg
  · cases hg
    match vs, hlen with
    | [], _ =>
      obtain ⟨us, hs, hl, hop⟩ := hi.open
      refine ⟨a, us, rfl, rfl, hs, q _ _ ?_⟩
      have hcl : Items K [a] H (prs us.reverse xs.reverse ++ l) := by
        rw [prs_rev hl]
        exact hop.perm (List.Perm.append (List.reverse_perm _).symm (List.Perm.refl _))
      exact (Items.close hs (by simp [hl]) hcl).add (d := .non) rfl fun _ _ => rfl
  · cases hg
def gExt : List D → List D → Option (D × List D) := fun xs ds => match ds with
  | [.lst _ zs] => if D.frzL zs = true ∧ xs.length + zs.length ≤ 16777216 then some (.non, xs ++ zs) else none
  | _ => none
theorem mo_ext {K : Frg} : MutOp K rExtend gExt := by
  intro a vs H ds xs l Q d ys hlen hi hg q
  unfold gExt at hg
  split at hg
  · rename_i o zs
    split at hg
    · rename_i c
      cases hg
      match vs, hlen with
      | [v], _ =>
        obtain ⟨b, ws, rfl, hb, lb, i2⟩ := hi.listAll (v := v) (b := o) (ds := zs) (List.mem_cons_of_mem _ List.mem_cons_self) c.1
        have i3 : Items K [] H ((some (.ref a), .lst true xs) :: (prs ws zs ++ (prs [.ref b] [.lst o zs] ++ l))) := i2.perm List.perm_middle
        obtain ⟨us, hs, hl, hop⟩ := i3.open
        refine ⟨a, b, us, ws, rfl, rfl, hs, hb, by rw [sizeLine_eq, hl, lb]; exact c.2, q _ _ ?_⟩
        have hcl : Items K [a] H (prs (us ++ ws) (xs ++ zs) ++ l) := by
          rw [prs_app hl, List.append_assoc]
          refine hop.sub ⟨prs [.ref b] [.lst o zs], ?_⟩
          exact (List.Perm.append_left _ List.perm_middle).trans List.perm_middle
        exact (Items.close hs (by simp [hl, lb]) hcl).add (d := .non) rfl fun _ _ => rfl
    · cases hg
  · cases hg
/-! ### of things told by an embedding -/
structure Emb {α : Type} [DecidableEq α] (f : α → D) : Prop where
  ok : ∀ x, D.ok 60 (f x)
  eq : ∀ x y, PyData.eqv (f x).pd (f y).pd = decide (x = y)
theorem emb_int : Emb D.int := ⟨fun _ => ok_int, fun x y => by
  rw [D.pd, D.pd]
  simp only [PyData.eqv]
  rfl⟩
section
variable {α : Type} [DecidableEq α] {f : α → D} (E : Emb f) {o o' : Bool}
include E
theorem emb_lok (l : List α) : D.ok 61 (.lst o (l.map f)) := ok_lst fun d hd => by
  obtain ⟨x, _, rfl⟩ := List.mem_map.mp hd
  exact E.ok x
theorem emb_shaped (l : List α) : D.datL (l.map f) = true ∧ SeqAt.shaped (.list (D.pdL (l.map f))) = true := by
  have h := ok_mono (emb_lok E (o := true) l) (show 61 ≤ 64 by decide)
  have h2 := ok_shaped h
  obtain ⟨h1, _, _⟩ := h
  rw [D.dat] at h1
  rw [D.pd] at h2
  exact ⟨h1, h2⟩
theorem pdL_map : ∀ l : List α, D.pdL (l.map f) = l.map fun x => (f x).pd
  | [] => by simp [D.pdL]
  | x :: l => by rw [List.map_cons, D.pdL, pdL_map l, List.map_cons]
theorem inD_map (x : α) (l : List α) : inD (f x) (l.map f) = decide (x ∈ l) := by
  unfold inD
  rw [pdL_map E]
  induction l with
  | nil => simp
  | cons y l ih =>
    rw [List.map_cons, List.any_cons, ih, E.eq]
    by_cases h : y = x
    · subst h; simp
    · have : ¬ x = y := fun z => h z.symm
      simp [h, this]
theorem gIn_map {neg : Bool} (x : α) (l : List α) : gIn neg (f x) (.lst o (l.map f)) = some (.bl (if neg = true then !decide (x ∈ l) else decide (x ∈ l))) := by
  have h1 := ok_mono (E.ok x) (show 60 ≤ 64 by decide)
  obtain ⟨h2, h3⟩ := emb_shaped E l
  unfold gIn
  show (if _ then _ else _) = _
  rw [inD_map E]
  exact if_pos ⟨h1.1, h2, ok_shaped h1, h3⟩
theorem gCnt_map (x : α) (l : List α) : gCntD [.lst o (l.map f), f x] = some (.int (l.count x : Nat)) := by
  have h1 := ok_mono (E.ok x) (show 60 ≤ 64 by decide)
  obtain ⟨h2, h3⟩ := emb_shaped E l
  unfold gCntD
  have e : ((D.pdL (l.map f)).countP fun z => PyData.eqv z (f x).pd) = l.count x := by
    rw [pdL_map E, List.countP_map, List.count]
    refine congrArg (fun p => List.countP p l) (funext fun y => ?_)
    show PyData.eqv (f y).pd (f x).pd = (y == x)
    rw [E.eq]
    rfl
  show (if _ then _ else _) = _
  rw [if_pos ⟨h1.1, h2, ok_shaped h1, h3⟩, e]
end
theorem gPopAt_nat {xs : List D} {k : Nat} (h : k < xs.length) (h2 : k < 2 ^ 62) : gPopAt xs [.int (k : Nat)] = some (xs[k], xs.eraseIdx k) := by
  unfold gPopAt
  show (if -(2 ^ 63) ≤ ((k : Nat) : Int) ∧ ((k : Nat) : Int) < 2 ^ 63 then _ else _) = _
  rw [if_pos (by omega)]
  have e : seqIndex? (k : Int) xs.length = some k := by
    unfold seqIndex?
    have h1 : ¬ ((k : Int) < 0) := by omega
    simp only [if_neg h1]
    have h3 : (0 ≤ (k : Int) && decide ((k : Int) < (xs.length : Int))) = true := by simp; omega
    simp [h]
  rw [e, Option.bind_some, List.getElem?_eq_getElem h]
  rfl
theorem vv_rev {xs : List D} : gRev xs [] = some (.non, xs.reverse) := rfl
theorem vv_ext {xs zs : List D} {o : Bool} : gExt xs [.lst o zs] = if D.frzL zs = true ∧ xs.length + zs.length ≤ 16777216 then some (.non, xs ++ zs) else none := rfl
end Mv
end
section
set_option Elab.async false
set_option linter.all false
set_option maxRecDepth 100000
set_option exponentiation.threshold 5000
/-! Helpers for the laws' mathematics. -/
namespace Mv
open PySem Mv.PreA
theorem big1 {i : Int} (h : i.natAbs < 2 ^ 64) : i.natAbs < 2 ^ 1900 := Nat.lt_of_lt_of_le h (by decide +kernel)
theorem big4 {i : Int} (h : i.natAbs < 2 ^ 64) : i.natAbs < 2 ^ 4000 := Nat.lt_of_lt_of_le h (by decide +kernel)
theorem divok {j : Int} (h : 0 < j) (h2 : j.natAbs < 2 ^ 64) : DivOk j := ⟨h, big4 h2⟩
theorem mul_lt {a b : Int} {A B : Nat} (ha : a.natAbs < A) (hb : b.natAbs < B) : (a * b).natAbs < A * B := by
  rw [Int.natAbs_mul]
  exact Nat.mul_lt_mul_of_lt_of_lt ha hb
theorem sm_int {n : Nat} {a : Int} (h : a.natAbs < 2 ^ 64) : Sm (n + 1) (.int a) (.int a) := ⟨rfl, big1 h⟩
theorem sm_bl {n : Nat} {a b : Bool} (h : a = b) : Sm (n + 1) (.bl a) (.bl b) := h
theorem sm_non {n : Nat} : Sm (n + 1) .non .non := trivial
theorem sm_str {n : Nat} {a : Str} (h : (reprText a).length ≤ 16777216) : Sm (n + 1) (.str a) (.str a) := ⟨rfl, h⟩
/-- lists of things that are alike, and frozen -/
theorem sm_lst {n : Nat} {o o' : Bool} {α : Type} (l : List α) (f : α → D) (hl : l.length < 2 ^ 62) (h : ∀ x ∈ l, Sm n (f x) (f x) ∧ (f x).frz = true) : Sm (n + 1) (.lst o (l.map f)) (.lst o' (l.map f)) := by
  refine ⟨rfl, by rw [List.length_map]; exact hl, ?_⟩
  intro k a b ha hb
  rw [List.getElem?_map] at ha hb
  obtain ⟨x, hx, rfl⟩ := Option.map_eq_some_iff.mp ha
  rw [hx] at hb
  cases hb
  obtain ⟨h1, h2⟩ := h x (List.mem_of_getElem? hx)
  exact ⟨h1, h2, h2⟩
theorem sm_tup {n : Nat} {α : Type} (l : List α) (f : α → D) (hl : l.length < 2 ^ 62) (h : ∀ x ∈ l, Sm n (f x) (f x) ∧ (f x).frz = true) : Sm (n + 1) (.tup (l.map f)) (.tup (l.map f)) := by
  refine ⟨rfl, by rw [List.length_map]; exact hl, ?_⟩
  intro k a b ha hb
  rw [List.getElem?_map] at ha hb
  obtain ⟨x, hx, rfl⟩ := Option.map_eq_some_iff.mp ha
  rw [hx] at hb
  cases hb
  obtain ⟨h1, h2⟩ := h x (List.mem_of_getElem? hx)
  exact ⟨h1, h2, h2⟩
theorem sm_ints {n : Nat} {o o' : Bool} {l : List Int} (hl : l.length < 2 ^ 62) (h : ∀ x ∈ l, x.natAbs < 2 ^ 64) : Sm (n + 2) (.lst o (l.map D.int)) (.lst o' (l.map D.int)) :=
  sm_lst l D.int hl fun x hx => ⟨sm_int (h x hx), rfl⟩
theorem sm_t2 {n : Nat} {a b c d : D} (h1 : Sm n a c) (h2 : Sm n b d) (z1 : a.frz = true ∧ c.frz = true) (z2 : b.frz = true ∧ d.frz = true) : Sm (n + 1) (.tup [a, b]) (.tup [c, d]) := by
  refine ⟨rfl, by show 2 < _; decide, ?_⟩
  intro k x y hx hy
  match k with
  | 0 => cases hx; cases hy; exact ⟨h1, z1⟩
  | 1 => cases hx; cases hy; exact ⟨h2, z2⟩
  | k + 2 => cases hx
/-! comprehensions over what is written as a list of α -/
theorem W_compM {α : Type} {vs : List Nat} {it : Src} {g : D → Ev → Option Ev} {test : Ev → Option (Bool × Ev)} {elt : Ev → Option (D × Ev)} {ρ : Ev} {Q : D × Ev → Prop} (emb : α → D) (l : List α) (p : α → Bool) (f : α → D) (hn : l.length ≤ 16777216)
    (hi : ∀ k, it k ρ = some (l.map emb)[k]?)
    (hs : ∀ x ∈ l, W (g (emb x) (wipeD ρ vs)) fun ρ1 => W (test ρ1) fun q => q.1 = p x ∧ (if p x = true then W (elt q.2) fun r => r.1 = f x ∧ unw ρ vs r.2 = ρ else unw ρ vs q.2 = ρ))
    (hd : Q (.lst true ((l.filter p).map f), ρ)) : W (lrun (cStep vs it g test elt) ([], ρ)) Q := by
  refine W_compL (ds := l.map emb) (fun k acc ρ' => ρ' = ρ ∧ acc = ((l.take k).filter p).map f) ⟨rfl, by simp⟩ ?_ ?_ ?_
  · rintro k acc ρ' ⟨rfl, rfl⟩
    exact hi k
  · rintro k d acc ρ' hk ⟨rfl, rfl⟩
    rw [List.getElem?_map] at hk
    obtain ⟨x, hx, rfl⟩ := Option.map_eq_some_iff.mp hk
    have hlt : k < l.length := (List.getElem?_eq_some_iff.mp hx).1
    refine W_mono (hs x (List.mem_of_getElem? hx)) fun ρ1 h1 => W_mono h1 fun q ⟨h2, h3⟩ => ?_
    rw [h2]
    have hl : (((l.take k).filter p).map f).length ≤ k := by
      rw [List.length_map]
      exact Nat.le_trans (List.length_filter_le _ _) (by rw [List.length_take]; exact Nat.min_le_left _ _)
    have ht : l.take (k + 1) = l.take k ++ [x] := by rw [List.take_add_one, hx]; rfl
    cases hp : p x
    · rw [hp] at h3
      rw [if_neg (by decide)] at h3
      rw [if_neg (by decide)]
      refine ⟨h3, ?_⟩
      rw [ht, List.filter_append, List.filter_cons_of_neg (by rw [hp]; decide)]
      simp
    · rw [hp, if_pos rfl] at h3
      rw [if_pos rfl]
      refine W_mono h3 fun r ⟨h4, h5⟩ => ⟨by omega, h5, ?_⟩
      rw [ht, List.filter_append, List.filter_cons_of_pos hp, List.map_append, h4]
      rfl
  · rintro acc ρ' ⟨rfl, rfl⟩
    rw [List.length_map, List.take_length]
    exact hd
theorem enum_map {α : Type} (g : α → D) (l : List α) : ((l.map g).mapIdx fun k c => D.tup [.int (k : Nat), c]) = l.zipIdx.map fun e => D.tup [.int (e.2 : Nat), g e.1] := by
  apply List.ext_getElem?
  intro i
  rw [List.getElem?_mapIdx, List.getElem?_map, List.getElem?_map, List.getElem?_zipIdx]
  cases l[i]? <;> simp
theorem zip_map {α β : Type} (g : α → D) (h : β → D) (l : List α) (m : List β) : List.zipWith (fun c c' => D.tup [c, c']) (l.map g) (m.map h) = (l.zip m).map fun e => D.tup [g e.1, h e.2] := by
  apply List.ext_getElem?
  intro i
  show _ = ((List.zipWith Prod.mk l m).map _)[i]?
  rw [List.getElem?_zipWith, List.getElem?_map, List.getElem?_map, List.getElem?_map, List.getElem?_zipWith]
  cases l[i]? <;> cases m[i]? <;> simp
/-- for .. in range: what holds before turn k -/
theorem W_rangeC {lo c : Int} {n : Nat} {g : D → Ev → Option Ev} {body : Ev → Option Out} {ρ : Ev} {Q : Out → Prop} (P : Nat → Ev → Prop) (h0 : P 0 ρ)
    (hs : ∀ k ρ, k < n → P k ρ → W (g (.int (lo + (k : Int) * c)) ρ) fun ρ1 => W (body ρ1) fun o => match o with
      | .nx ρ2 => P (k + 1) ρ2
      | .ct ρ2 => P (k + 1) ρ2
      | .bk ρ2 => Q (.nx ρ2)
      | .rt d ρ2 => Q (.rt d ρ2))
    (hd : ∀ ρ, P n ρ → Q (.nx ρ)) : W (lrun (fStep (itR lo c n) g body) ρ) Q := by
  refine W_lrun (fun k ρ => k ≤ n ∧ P k ρ) (fun k _ => n - k) ⟨Nat.zero_le _, h0⟩ ?_
  rintro k ρ ⟨hk, hp⟩
  unfold fStep
  rw [W_bind]
  unfold itR
  by_cases h : k < n
  · rw [if_pos h, W_some]
    rw [W_bind]
    refine W_mono (hs k ρ h hp) fun ρ1 h1 => ?_
    rw [W_map]
    refine W_mono h1 fun o ho => ?_
    cases o with
    | nx ρ2 => exact ⟨⟨h, ho⟩, by show n - (k + 1) < n - k; omega⟩
    | ct ρ2 => exact ⟨⟨h, ho⟩, by show n - (k + 1) < n - k; omega⟩
    | bk ρ2 => exact ho
    | rt d ρ2 => exact ho
  · rw [if_neg h, W_some]
    have : k = n := by omega
    subst this
    rw [W_some]
    exact hd ρ hp
theorem small_any {a b c : Int} (h : Builtin.Range.small a b c = true) : Builtin.Range.small a b c = true := h
theorem rg_down {a b : Int} (ha : -(2 ^ 62) ≤ a) (ha' : a < 2 ^ 62) (hb : -(2 ^ 62) ≤ b) (hb' : b < 2 ^ 62) : (-1 : Int) ≠ 0 ∧ (-1 : Int).natAbs < 1073741824 ∧ Builtin.Range.small a b (-1) = true := ⟨by decide, by decide, PySem.W.small_down ha ha' hb hb'⟩
theorem rg_size {a b : Int} : (Builtin.Range.rangeSize a b (-1)).toNat = (a - b).toNat := by rw [PySem.W.rangeSize_downNat]; rfl
/-! slices of what is written as a list of α -/
theorem cut_map {α : Type} (f : α → D) (l : List α) (lo hi : Option Int) : cutD (l.map f) lo hi = ((l.drop (HT.sIx l.length 0 lo)).take (HT.sIx l.length l.length hi - HT.sIx l.length 0 lo)).map f := by
  unfold cutD
  rw [List.length_map, List.map_take, List.map_drop]
theorem cut_to {α : Type} (f : α → D) (l : List α) {k : Nat} : cutD (l.map f) none (some (k : Int)) = (l.take k).map f := by
  rw [cut_map, HT.sIx_nat, HT.sIx_none, List.drop_zero, Nat.sub_zero]
  congr 1
  rw [List.take_eq_take_iff]
  omega
theorem cut_from {α : Type} (f : α → D) (l : List α) {k : Nat} : cutD (l.map f) (some (k : Int)) none = (l.drop k).map f := by
  rw [cut_map, HT.sIx_nat, HT.sIx_none]
  congr 1
  by_cases h : k ≤ l.length
  · rw [Nat.min_eq_left h, List.take_of_length_le (by rw [List.length_drop]; omega)]
  · rw [Nat.min_eq_right (by omega), List.drop_eq_nil_of_le (Nat.le_refl _), List.drop_eq_nil_of_le (by omega), List.take_nil]
end Mv
end
section
set_option Elab.async false
set_option linter.all false
set_option maxRecDepth 100000
set_option maxHeartbeats 4000000
set_option exponentiation.threshold 5000
open PySem Mv Mv.PreA
local macro_rules | `(tactic| walk_at "ev") => `(tactic| try simp only [↓W_bCons, ↓W_bNil, ↓W_bBrk, ↓W_bCnt, ↓W_bExp, ↓W_bRet, ↓W_bRetN, ↓W_bIf, ↓W_bAsg, ↓W_bPar, ↓W_bAug, ↓W_eC, ↓W_eV, ↓W_eM, ↓W_hV, ↓W_hE, ↓W_eFz, ↓W_e1, ↓W_e2, ↓W_aNil, ↓W_aCons, ↓W_eN, ↓W_eTup, ↓W_eLst, ↓W_eCall, ↓W_eMut, ↓W_eMt, ↓W_eIf, ↓W_eAn, ↓W_eOr, ↓W_eNo, ↓W_eJ0, ↓W_eJ1, ↓W_tT, ↓W_tB, ↓W_tNo, ↓W_tAn, ↓W_tOr, ↓W_tAll, ↓W_gNm, ↓W_gsNil, ↓W_gsCons, ↓W_gTp, ↓W_gIx, ↓W_bFor, ↓W_bWhile, ↓W_iRg1, ↓W_iRg2, ↓W_iSq, ↓W_eLc, ↓W_eSl, ↓W_pN, ↓W_pS, ↓W_iEn, ↓W_iZp, ↓W_iRv, ↓W_iRg3, ↓W_eCh, ↓W_chIf, ↓W_bind, ↓W_map, ↓W_some, ↓W_none,
  Hd.get, List.getElem?_cons_zero, List.getElem?_cons_succ, List.getD_cons_zero, List.getD_cons_succ, List.set_cons_zero, List.set_cons_succ, List.length_cons, List.length_nil, List.map_cons, List.map_nil, List.replicate, List.cons_append, List.nil_append, Nat.reduceAdd, Nat.reduceSub, Nat.reduceLeDiff, Nat.zero_add,
  D.frz, D.frzL, D.fz, D.fzL, tru_b, tru_i, tru_n, tru_l, tru_t, tru_c, tms, wipeD, unw, lend, unlend, keepL, Option.map_some, Option.bind_some, Bool.and_true, Bool.true_and, Bool.not_true, Bool.not_false, ↓reduceIte, if_true, if_false, Bool.false_eq_true, true_and, and_true, ite_b, ite_nb, vv_fmtI, vv_fmtS, vv_reprI, vv_reprS, vv_addS, vv_lenS, vv_eqS, vv_neS, vv_addL, vv_addT,
  vv_add, vv_sub, vv_mul, vv_div, vv_mod, vv_pow, vv_shl, vv_shr, vv_neg, vv_lt, vv_le, vv_gt, vv_ge, vv_int, vv_intS, vv_intb, vv_abs, vv_gcd, vv_max2, vv_min2, vv_lenL, vv_lenC, vv_lenT, vv_idxL, vv_idxC, vv_idxT, vv_eqI, vv_eqB, vv_neI, vv_list, vv_listT, vv_tuple, vv_tupleT, vv_sum, vv_slL, vv_slS, vv_slT, vv_index, vv_count, isL_l, isL_c, lenL_l, lenL_c, kindL, vv_maxL, vv_minL, vv_strI, vv_app, vv_isNN, vv_isIN, vv_isSN, vv_isBN, vv_isLN, vv_isTN, vv_isBB, vv_isNB, vv_isIB, vv_isSB, vv_isLB, vv_isTB, vv_inNN, vv_inIN, vv_inSN, vv_inBN, vv_inLN, vv_inTN, vv_inBB, atF0, atF1, atF2, atF3, atF4, atF5, okI, okB, okS, okN, okL, ix0, ix1, ix2, frzL_int, fzL_int, intsD_map, isiI_int, isiI_str, isiI_bool, isiI_list, isiI_tuple, isiS_int, isiS_str, isiS_bool, isiS_list, isiS_tuple, isiB_int, isiB_str, isiB_bool, isiB_list, isiB_tuple, isiL_int, isiL_str, isiL_bool, isiL_list, isiL_tuple, isiT_int, isiT_str, isiT_bool, isiT_list, isiT_tuple, isiN_int, isiN_str, isiN_bool, isiN_list, isiN_tuple])

namespace Mv
/-! plain laws of fractions -/
abbrev pr (a b : Int) : D := .tup [.int a, .int b]
theorem pr_frz {a b : Int} : (pr a b).frz = true := rfl
def lowP (t b : Int) : Int := if b < 0 then -t / gd t b else t / gd t b
def lowQ (t b : Int) : Int := if b < 0 then -b / gd t b else b / gd t b
def Red (p q : Int) : Prop := 0 < q ∧ Nat.gcd p.natAbs q.natAbs = 1
theorem gd_pos {t b : Int} (h : b ≠ 0) : 0 < gd t b := by
  unfold gd
  have : 0 < Nat.gcd t.natAbs b.natAbs := Nat.gcd_pos_of_pos_right _ (by omega)
  omega
theorem gd_left {t b : Int} : gd t b ∣ t := Int.ofNat_dvd_left.mpr (Nat.gcd_dvd_left _ _)
theorem gd_right {t b : Int} : gd t b ∣ b := Int.ofNat_dvd_left.mpr (Nat.gcd_dvd_right _ _)
theorem gd_abs {t b : Int} (h : b ≠ 0) : (gd t b).natAbs ≤ b.natAbs := by
  unfold gd
  rw [Int.natAbs_natCast]
  exact Nat.gcd_le_right _ (by omega)
theorem low_red {t b : Int} (h : b ≠ 0) : Red (lowP t b) (lowQ t b) := by
  have hg := gd_pos (t := t) h
  obtain ⟨u, hu⟩ := gd_left (t := t) (b := b)
  obtain ⟨v, hv⟩ := gd_right (t := t) (b := b)
  have e1 : t / gd t b = u := by rw [Int.ediv_eq_iff_eq_mul_right (by omega) gd_left]; exact hu
  have e2 : b / gd t b = v := by rw [Int.ediv_eq_iff_eq_mul_right (by omega) gd_right]; exact hv
  have e3 : -t / gd t b = -u := by rw [Int.neg_ediv_of_dvd gd_left, e1]
  have e4 : -b / gd t b = -v := by rw [Int.neg_ediv_of_dvd gd_right, e2]
  have hc : Nat.gcd u.natAbs v.natAbs = 1 := by
    have h1 : t.natAbs = Nat.gcd t.natAbs b.natAbs * u.natAbs := by
      conv => lhs; rw [hu, Int.natAbs_mul]
      unfold gd; rw [Int.natAbs_natCast]
    have h2 : b.natAbs = Nat.gcd t.natAbs b.natAbs * v.natAbs := by
      conv => lhs; rw [hv, Int.natAbs_mul]
      unfold gd; rw [Int.natAbs_natCast]
    have h3 : 0 < Nat.gcd t.natAbs b.natAbs := Nat.gcd_pos_of_pos_right _ (by omega)
    have h4 : Nat.gcd t.natAbs b.natAbs * Nat.gcd u.natAbs v.natAbs = Nat.gcd t.natAbs b.natAbs * 1 := by rw [← Nat.gcd_mul_left, ← h1, ← h2, Nat.mul_one]
    exact Nat.eq_of_mul_eq_mul_left h3 h4
  unfold lowP lowQ
  have hs1 : 0 < b → 0 < v := fun k => by
    rw [hv] at k
    exact Int.pos_of_mul_pos_right k hg
  have hs2 : b < 0 → v < 0 := fun k => by
    rw [hv] at k
    have k2 : 0 < gd t b * -v := by rw [Int.mul_neg]; omega
    have := Int.pos_of_mul_pos_right k2 hg
    omega
  by_cases hb : b < 0
  · rw [if_pos hb, if_pos hb, e3, e4]
    exact ⟨by have := hs2 hb; omega, by rw [Int.natAbs_neg, Int.natAbs_neg]; exact hc⟩
  · rw [if_neg hb, if_neg hb, e1, e2]
    exact ⟨hs1 (by omega), hc⟩
theorem lowP_le {t b : Int} (h : b ≠ 0) : (lowP t b).natAbs ≤ t.natAbs := by
  have hg := gd_pos (t := t) h
  unfold lowP
  split
  · rw [← Int.natAbs_neg t]; exact Int.natAbs_ediv_le_natAbs _ _
  · exact Int.natAbs_ediv_le_natAbs _ _
theorem lowQ_le {t b : Int} (h : b ≠ 0) : (lowQ t b).natAbs ≤ b.natAbs := by
  unfold lowQ
  split
  · rw [← Int.natAbs_neg b]; exact Int.natAbs_ediv_le_natAbs _ _
  · exact Int.natAbs_ediv_le_natAbs _ _
theorem low_mul {p q k : Int} (h : Red p q) (hk : k ≠ 0) : lowP (p * k) (q * k) = p ∧ lowQ (p * k) (q * k) = q := by
  obtain ⟨hq, hc⟩ := h
  have hg : gd (p * k) (q * k) = (k.natAbs : Int) := by
    unfold gd
    rw [Int.natAbs_mul, Int.natAbs_mul, Nat.gcd_mul_right, hc, Nat.one_mul]
  unfold lowP lowQ
  rw [hg]
  rcases Int.lt_or_gt_of_ne hk with h0 | h0
  · have : q * k < 0 := Int.mul_neg_of_pos_of_neg hq h0
    rw [if_pos this, if_pos this]
    have e : (k.natAbs : Int) = -k := by omega
    rw [e, ← Int.mul_neg, ← Int.mul_neg, Int.mul_ediv_cancel _ (by omega), Int.mul_ediv_cancel _ (by omega)]
    exact ⟨rfl, rfl⟩
  · have : 0 < q * k := Int.mul_pos hq h0
    rw [if_neg (by omega), if_neg (by omega)]
    have e : (k.natAbs : Int) = k := by omega
    rw [e, Int.mul_ediv_cancel _ (by omega), Int.mul_ediv_cancel _ (by omega)]
    exact ⟨rfl, rfl⟩
theorem low_self {p q : Int} (h : Red p q) : lowP p q = p ∧ lowQ p q = q := by
  have := low_mul h (k := 1) (by decide)
  rwa [Int.mul_one, Int.mul_one] at this
theorem fdiv_neg {t g : Int} (hg : 0 < g) (h : g ∣ t) : t.fdiv (-g) = -t / g := by
  obtain ⟨u, rfl⟩ := h
  have e : g * u = -u * -g := by rw [Int.neg_mul_neg, Int.mul_comm]
  rw [Int.neg_ediv_of_dvd ⟨u, rfl⟩, Int.mul_ediv_cancel_left _ (by omega), e, Int.mul_fdiv_cancel _ (by omega)]

end Mv
namespace Mv.Sums
noncomputable def d_fraction : Ev → Option Out := bCons (bAsg (eN gGcd (aCons (hV 0) (aCons (hV 1) aNil))) (gNm 2)) (bCons (bIf (tB' (e2 gLt (hV 1) (hE (eC (.int 0))))) (bAsg (e1 gNeg (hV 2)) (gNm 2)) (bNil)) (bRet (eTup (aCons (hE (e2 gDiv (hV 0) (hV 2))) (aCons (hE (e2 gDiv (hV 1) (hV 2))) aNil)))))
noncomputable def F_fraction : List D → Option (D × List D) := fnD [true, true] 3 d_fraction
noncomputable def d_is_less : Ev → Option Out := bRet (e2 gLt (hE (e2 gMul (hE (e2 gIdx (hV 0) (hE (eC (.int 0))))) (hE (e2 gIdx (hV 1) (hE (eC (.int 1))))))) (hE (e2 gMul (hE (e2 gIdx (hV 1) (hE (eC (.int 0))))) (hE (e2 gIdx (hV 0) (hE (eC (.int 1))))))))
noncomputable def F_is_less : List D → Option (D × List D) := fnD [true, true] 2 d_is_less
noncomputable def d_plus : Ev → Option Out := bRet (eCall 2 F_fraction (aCons (hE (e2 gAdd (hE (e2 gMul (hE (e2 gIdx (hV 0) (hE (eC (.int 0))))) (hE (e2 gIdx (hV 1) (hE (eC (.int 1))))))) (hE (e2 gMul (hE (e2 gIdx (hV 1) (hE (eC (.int 0))))) (hE (e2 gIdx (hV 0) (hE (eC (.int 1))))))))) (aCons (hE (e2 gMul (hE (e2 gIdx (hV 0) (hE (eC (.int 1))))) (hE (e2 gIdx (hV 1) (hE (eC (.int 1))))))) aNil)))
noncomputable def F_plus : List D → Option (D × List D) := fnD [true, true] 2 d_plus
noncomputable def d_minus : Ev → Option Out := bRet (eCall 2 F_fraction (aCons (hE (e2 gSubt (hE (e2 gMul (hE (e2 gIdx (hV 0) (hE (eC (.int 0))))) (hE (e2 gIdx (hV 1) (hE (eC (.int 1))))))) (hE (e2 gMul (hE (e2 gIdx (hV 1) (hE (eC (.int 0))))) (hE (e2 gIdx (hV 0) (hE (eC (.int 1))))))))) (aCons (hE (e2 gMul (hE (e2 gIdx (hV 0) (hE (eC (.int 1))))) (hE (e2 gIdx (hV 1) (hE (eC (.int 1))))))) aNil)))
noncomputable def F_minus : List D → Option (D × List D) := fnD [true, true] 2 d_minus
noncomputable def d_times : Ev → Option Out := bRet (eCall 2 F_fraction (aCons (hE (e2 gMul (hE (e2 gIdx (hV 0) (hE (eC (.int 0))))) (hE (e2 gIdx (hV 1) (hE (eC (.int 0))))))) (aCons (hE (e2 gMul (hE (e2 gIdx (hV 0) (hE (eC (.int 1))))) (hE (e2 gIdx (hV 1) (hE (eC (.int 1))))))) aNil)))
noncomputable def F_times : List D → Option (D × List D) := fnD [true, true] 2 d_times
noncomputable def d_over : Ev → Option Out := bRet (eCall 2 F_fraction (aCons (hE (e2 gMul (hE (e2 gIdx (hV 0) (hE (eC (.int 0))))) (hE (e2 gIdx (hV 1) (hE (eC (.int 1))))))) (aCons (hE (e2 gMul (hE (e2 gIdx (hV 0) (hE (eC (.int 1))))) (hE (e2 gIdx (hV 1) (hE (eC (.int 0))))))) aNil)))
noncomputable def F_over : List D → Option (D × List D) := fnD [true, true] 2 d_over
theorem dok {j : Int} (h : 0 < j) (h2 : j.natAbs < 2 ^ 4000) : DivOk j := ⟨h, h2⟩
theorem ndok {g : Int} (h : 0 < g) : ¬ DivOk (-g) := fun k => by have := k.1; omega
theorem dno {j : Int} (h : j < 0) (h2 : j.natAbs < 2 ^ 4000) : DivNo j := ⟨h, h2⟩
theorem fraction_ok {t b : Int} (hb : b ≠ 0) (hs : b.natAbs < 2 ^ 4000) : F_fraction [.int t, .int b] = some (pr (lowP t b) (lowQ t b), [.int t, .int b]) := by
  have hg := gd_pos (t := t) hb
  have hl := gd_abs (t := t) hb
  have hl2 := Nat.lt_of_le_of_lt hl hs
  apply of_W
  unfold F_fraction
  rw [W_fnD rfl]
  unfold d_fraction
  walk_at "ev"
  split
  · rename_i hb0
    rw [W_no (ndok hg), W_ok (dno (by omega) (by rw [Int.natAbs_neg]; exact hl2)), W_no (ndok hg), W_ok (dno (by omega) (by rw [Int.natAbs_neg]; exact hl2))]
    rw [fdiv_neg hg gd_left, fdiv_neg hg gd_right]
    unfold lowP lowQ
    rw [if_pos hb0, if_pos hb0]
  · rename_i hb0
    rw [W_ok (dok hg hl2), W_ok (dok hg hl2)]
    unfold lowP lowQ
    rw [if_neg hb0, if_neg hb0]
theorem bd_ok {b d : Int} (hb : b.natAbs < 2 ^ 1000) (hd : d.natAbs < 2 ^ 64) (h1 : b ≠ 0) (h2 : d ≠ 0) : b * d ≠ 0 ∧ (b * d).natAbs < 2 ^ 4000 :=
  ⟨Int.mul_ne_zero h1 h2, Nat.lt_of_lt_of_le (mul_lt hb hd) (by rw [← Nat.pow_add]; exact Nat.pow_le_pow_right (by decide) (by decide))⟩
section
variable {a b c d : Int} (hc : c.natAbs < 2 ^ 64) (hd : d.natAbs < 2 ^ 64) (hb : b.natAbs < 2 ^ 1000) (hd0 : d ≠ 0) (hb0 : b ≠ 0)
include hc hd hb hd0 hb0
theorem plus_ok : F_plus [pr a b, pr c d] = some (pr (lowP (a * d + c * b) (b * d)) (lowQ (a * d + c * b) (b * d)), [pr a b, pr c d]) := by
  obtain ⟨e1, e2⟩ := bd_ok hb hd hb0 hd0
  apply of_W
  unfold F_plus
  rw [W_fnD rfl]
  unfold d_plus
  walk_at "ev"
  rw [W_ok (MulOk.right hd)]
  rw [W_ok (MulOk.left hc)]
  walk_at "ev"
  rw [W_ok (MulOk.right hd), W_eq (fraction_ok e1 e2)]
  walk_at "ev"
theorem minus_ok : F_minus [pr a b, pr c d] = some (pr (lowP (a * d - c * b) (b * d)) (lowQ (a * d - c * b) (b * d)), [pr a b, pr c d]) := by
  obtain ⟨e1, e2⟩ := bd_ok hb hd hb0 hd0
  apply of_W
  unfold F_minus
  rw [W_fnD rfl]
  unfold d_minus
  walk_at "ev"
  rw [W_ok (MulOk.right hd)]
  rw [W_ok (MulOk.left hc)]
  walk_at "ev"
  rw [W_ok (MulOk.right hd), W_eq (fraction_ok e1 e2)]
  walk_at "ev"
theorem times_ok : F_times [pr a b, pr c d] = some (pr (lowP (a * c) (b * d)) (lowQ (a * c) (b * d)), [pr a b, pr c d]) := by
  obtain ⟨e1, e2⟩ := bd_ok hb hd hb0 hd0
  apply of_W
  unfold F_times
  rw [W_fnD rfl]
  unfold d_times
  walk_at "ev"
  rw [W_ok (MulOk.right hc)]
  rw [W_ok (MulOk.right hd), W_eq (fraction_ok e1 e2)]
  walk_at "ev"
theorem over_ok (hc0 : c ≠ 0) : F_over [pr a b, pr c d] = some (pr (lowP (a * d) (b * c)) (lowQ (a * d) (b * c)), [pr a b, pr c d]) := by
  obtain ⟨e1, e2⟩ := bd_ok hb hc hb0 hc0
  apply of_W
  unfold F_over
  rw [W_fnD rfl]
  unfold d_over
  walk_at "ev"
  rw [W_ok (MulOk.right hd)]
  rw [W_ok (MulOk.right hc), W_eq (fraction_ok e1 e2)]
  walk_at "ev"
theorem less_ok : F_is_less [pr a b, pr c d] = some (.bl (decide (a * d < c * b)), [pr a b, pr c d]) := by
  apply of_W
  unfold F_is_less
  rw [W_fnD rfl]
  unfold d_is_less
  walk_at "ev"
  rw [W_ok (MulOk.right hd)]
  rw [W_ok (MulOk.left hc)]
  walk_at "ev"
end
end Mv.Sums
namespace Mv
theorem euclid {a b : Int} (ha : 0 ≤ a) (hb : 0 < b) : Nat.gcd b.natAbs (a % b).natAbs = Nat.gcd a.natAbs b.natAbs := by
  have h1 : (a % b).natAbs = a.natAbs % b.natAbs := by
    have e : a = (a.natAbs : Int) := by omega
    have e2 : b = (b.natAbs : Int) := by omega
    conv => lhs; rw [e, e2]
    rw [← Int.natCast_emod, Int.natAbs_natCast]
  rw [h1, Nat.gcd_comm a.natAbs, Nat.gcd_rec b.natAbs a.natAbs, Nat.gcd_comm]
theorem halve {a b : Int} (hb : 0 < b) (h : b < a) : 2 * (b * (a % b)) < a * b := by
  have h1 := Int.emod_nonneg a (b := b) (by omega)
  have h2 := Int.emod_lt_of_pos a hb
  have h3 := Int.mul_ediv_add_emod a b
  have h4 : 1 ≤ a / b := by
    rw [Int.le_ediv_iff_mul_le hb]; omega
  have h5 : b ≤ b * (a / b) := by
    have := Int.mul_le_mul_of_nonneg_left h4 (by omega : 0 ≤ b)
    omega
  have h6 : 2 * (a % b) < a := by omega
  have h7 := Int.mul_lt_mul_of_pos_left h6 hb
  rw [Int.mul_left_comm, Int.mul_comm a b]
  exact h7
theorem gd_zero {a : Int} (h : 0 ≤ a) : gd a 0 = a := by
  unfold gd
  rw [Int.natAbs_zero, Nat.gcd_zero_right]; omega
end Mv
end
section
set_option Elab.async false
set_option linter.all false
set_option maxRecDepth 100000
set_option maxHeartbeats 4000000
set_option exponentiation.threshold 5000
open PySem Mv Mv.PreA
local macro_rules | `(tactic| walk_at "ev") => `(tactic| try simp only [↓W_bCons, ↓W_bNil, ↓W_bBrk, ↓W_bCnt, ↓W_bExp, ↓W_bRet, ↓W_bRetN, ↓W_bIf, ↓W_bAsg, ↓W_bPar, ↓W_bAug, ↓W_eC, ↓W_eV, ↓W_eM, ↓W_hV, ↓W_hE, ↓W_eFz, ↓W_e1, ↓W_e2, ↓W_aNil, ↓W_aCons, ↓W_eN, ↓W_eTup, ↓W_eLst, ↓W_eCall, ↓W_eMut, ↓W_eMt, ↓W_eIf, ↓W_eAn, ↓W_eOr, ↓W_eNo, ↓W_eJ0, ↓W_eJ1, ↓W_tT, ↓W_tB, ↓W_tNo, ↓W_tAn, ↓W_tOr, ↓W_tAll, ↓W_gNm, ↓W_gsNil, ↓W_gsCons, ↓W_gTp, ↓W_gIx, ↓W_bFor, ↓W_bWhile, ↓W_iRg1, ↓W_iRg2, ↓W_iSq, ↓W_eLc, ↓W_eSl, ↓W_pN, ↓W_pS, ↓W_iEn, ↓W_iZp, ↓W_iRv, ↓W_iRg3, ↓W_iRgV, ↓W_eCh, ↓W_chIf, ↓W_bind, ↓W_map, ↓W_some, ↓W_none,
  Hd.get, List.getElem?_cons_zero, List.getElem?_cons_succ, List.getD_cons_zero, List.getD_cons_succ, List.set_cons_zero, List.set_cons_succ, List.length_cons, List.length_nil, List.map_cons, List.map_nil, List.replicate, List.cons_append, List.nil_append, Nat.reduceAdd, Nat.reduceSub, Nat.reduceLeDiff, Nat.zero_add,
  D.frz, D.frzL, D.fz, D.fzL, tru_b, tru_i, tru_n, tru_l, tru_t, tru_c, tms, wipeD, unw, lend, unlend, keepL, Option.map_some, Option.bind_some, Bool.and_true, Bool.true_and, Bool.not_true, Bool.not_false, ↓reduceIte, if_true, if_false, Bool.false_eq_true, true_and, and_true, ite_b, ite_nb, vv_fmtI, vv_fmtS, vv_reprI, vv_reprS, vv_addS, vv_lenS, vv_eqS, vv_neS, vv_addL, vv_addT,
  vv_add, vv_sub, vv_mul, vv_div, vv_mod, vv_pow, vv_shl, vv_shr, vv_neg, vv_lt, vv_le, vv_gt, vv_ge, vv_int, vv_intS, vv_intb, vv_abs, vv_gcd, vv_max2, vv_min2, vv_lenL, vv_lenC, vv_lenT, vv_idxL, vv_idxC, vv_idxT, vv_eqI, vv_eqB, vv_neI, vv_list, vv_listT, vv_tuple, vv_tupleT, vv_sum, vv_slL, vv_slS, vv_slT, vv_range, vv_index, vv_count, isL_l, isL_c, lenL_l, lenL_c, kindL, vv_maxL, vv_minL, vv_strI, vv_app, vv_isNN, vv_isIN, vv_isSN, vv_isBN, vv_isLN, vv_isTN, vv_isBB, vv_isNB, vv_isIB, vv_isSB, vv_isLB, vv_isTB, vv_inNN, vv_inIN, vv_inSN, vv_inBN, vv_inLN, vv_inTN, vv_inBB, atF0, atF1, atF2, atF3, atF4, atF5, okI, okB, okS, okN, okL, ix0, ix1, ix2, frzL_int, fzL_int, intsD_map, isiI_int, isiI_str, isiI_bool, isiI_list, isiI_tuple, isiS_int, isiS_str, isiS_bool, isiS_list, isiS_tuple, isiB_int, isiB_str, isiB_bool, isiB_list, isiB_tuple, isiL_int, isiL_str, isiL_bool, isiL_list, isiL_tuple, isiT_int, isiT_str, isiT_bool, isiT_list, isiT_tuple, isiN_int, isiN_str, isiN_bool, isiN_list, isiN_tuple])
local macro_rules | `(tactic| walk_at "mu") => `(tactic| repeat (first | (rw [W_ok (MulOk.right (by omega))]; walk_at "ev") | (rw [W_ok (MulOk.left (by omega))]; walk_at "ev") | (rw [W_ok (divok (by omega) (by omega))]; walk_at "ev") | (rw [W_ok (by omega)]; walk_at "ev")))
namespace Mv
/-! fractions in lowest terms, told by any top and bottom -/
abbrev fr (t b : Int) : D := pr (lowP t b) (lowQ t b)
theorem fr_frz {t b : Int} : (fr t b).frz = true := rfl
theorem fr_fz {t b : Int} : (fr t b).fz = fr t b := rfl
theorem low_id {t b : Int} (h : b ≠ 0) : lowP t b * b = t * lowQ t b ∧ 0 < lowQ t b := by
  refine ⟨?_, (low_red h).1⟩
  have hg := gd_pos (t := t) h
  obtain ⟨u, hu⟩ := gd_left (t := t) (b := b)
  obtain ⟨v, hv⟩ := gd_right (t := t) (b := b)
  have e1 : t / gd t b = u := by rw [Int.ediv_eq_iff_eq_mul_right (by omega) gd_left]; exact hu
  have e2 : b / gd t b = v := by rw [Int.ediv_eq_iff_eq_mul_right (by omega) gd_right]; exact hv
  have e3 : -t / gd t b = -u := by rw [Int.neg_ediv_of_dvd gd_left, e1]
  have e4 : -b / gd t b = -v := by rw [Int.neg_ediv_of_dvd gd_right, e2]
  unfold lowP lowQ
  rw [e1, e2, e3, e4]
  generalize gd t b = g at *
  subst hu
  split
  · rw [hv]; grind
  · rw [hv]; grind
theorem low_cross {t b t' b' : Int} (h : b ≠ 0) (h' : b' ≠ 0) (e : t * b' = t' * b) : lowP t b = lowP t' b' ∧ lowQ t b = lowQ t' b' := by
  obtain ⟨i1, i2⟩ := low_id (t := t) h
  have hr := low_red (t := t) h
  generalize lowP t b = p at *
  generalize lowQ t b = q at *
  have e1 : p * b' = q * t' := by
    have : b * (p * b') = b * (q * t') := by grind
    exact Int.eq_of_mul_eq_mul_left h this
  have hd : q.natAbs ∣ p.natAbs * b'.natAbs := by
    rw [← Int.natAbs_mul, e1, Int.natAbs_mul]; exact Nat.dvd_mul_right _ _
  have hd2 : q.natAbs ∣ b'.natAbs := Nat.Coprime.dvd_of_dvd_mul_left (Nat.Coprime.symm hr.2) hd
  obtain ⟨k, hk⟩ := Int.natAbs_dvd_natAbs.mp hd2
  have e2 : t' = p * k := by
    have : q * t' = q * (p * k) := by rw [← e1, hk]; grind
    exact Int.eq_of_mul_eq_mul_left (by omega) this
  have hk0 : k ≠ 0 := fun z => h' (by rw [hk, z, Int.mul_zero])
  obtain ⟨m1, m2⟩ := low_mul hr hk0
  rw [e2, hk, m1, m2]
  exact ⟨rfl, rfl⟩
theorem fr_cross {t b t' b' : Int} (h : b ≠ 0) (h' : b' ≠ 0) (e : t * b' = t' * b) : fr t b = fr t' b' := by
  obtain ⟨e1, e2⟩ := low_cross h h' e
  unfold fr
  rw [e1, e2]
theorem fr_zero {b : Int} (h : b ≠ 0) : fr 0 b = pr 0 1 := by
  rw [fr_cross h (t' := 0) (b' := 1) (by decide) (by omega)]
  rfl
theorem fr_one {a : Int} : fr a 1 = pr a 1 := by
  have h : Red a 1 := ⟨by decide, Nat.gcd_one_right _⟩
  unfold fr
  rw [(low_self h).1, (low_self h).2]
theorem low_le {t b : Int} (h : b ≠ 0) : (lowP t b).natAbs ≤ t.natAbs ∧ (lowQ t b).natAbs ≤ b.natAbs := ⟨lowP_le h, lowQ_le h⟩
theorem sm_fr {n : Nat} {t b : Int} (h : b ≠ 0) (h1 : t.natAbs < 2 ^ 64) (h2 : b.natAbs < 2 ^ 64) : Sm (n + 2) (fr t b) (fr t b) := by
  have := low_le (t := t) h
  exact sm_t2 (sm_int (by omega)) (sm_int (by omega)) ⟨rfl, rfl⟩ ⟨rfl, rfl⟩
section
variable {a b c d : Int} (hc : c.natAbs < 2 ^ 64) (hd : d.natAbs < 2 ^ 64) (hb : b.natAbs < 2 ^ 1000) (hd0 : d ≠ 0) (hb0 : b ≠ 0)
include hc hd hb hd0 hb0
theorem plusF : Sums.F_plus [fr a b, fr c d] = some (fr (a * d + c * b) (b * d), [fr a b, fr c d]) := by
  have l1 := low_le (t := a) hb0
  have l2 := low_le (t := c) hd0
  obtain ⟨i1, i2⟩ := low_id (t := a) hb0
  obtain ⟨j1, j2⟩ := low_id (t := c) hd0
  have := Sums.plus_ok (a := lowP a b) (b := lowQ a b) (c := lowP c d) (d := lowQ c d) (by omega) (by omega) (by omega) (by omega) (by omega)
  unfold fr
  rw [this]
  have e := low_cross (t := lowP a b * lowQ c d + lowP c d * lowQ a b) (b := lowQ a b * lowQ c d) (t' := a * d + c * b) (b' := b * d) (Int.mul_ne_zero (by omega) (by omega)) (Int.mul_ne_zero hb0 hd0) (by grind)
  rw [e.1, e.2]
theorem minusF : Sums.F_minus [fr a b, fr c d] = some (fr (a * d - c * b) (b * d), [fr a b, fr c d]) := by
  have l1 := low_le (t := a) hb0
  have l2 := low_le (t := c) hd0
  obtain ⟨i1, i2⟩ := low_id (t := a) hb0
  obtain ⟨j1, j2⟩ := low_id (t := c) hd0
  have := Sums.minus_ok (a := lowP a b) (b := lowQ a b) (c := lowP c d) (d := lowQ c d) (by omega) (by omega) (by omega) (by omega) (by omega)
  unfold fr
  rw [this]
  have e := low_cross (t := lowP a b * lowQ c d - lowP c d * lowQ a b) (b := lowQ a b * lowQ c d) (t' := a * d - c * b) (b' := b * d) (Int.mul_ne_zero (by omega) (by omega)) (Int.mul_ne_zero hb0 hd0) (by grind)
  rw [e.1, e.2]
theorem timesF : Sums.F_times [fr a b, fr c d] = some (fr (a * c) (b * d), [fr a b, fr c d]) := by
  have l1 := low_le (t := a) hb0
  have l2 := low_le (t := c) hd0
  obtain ⟨i1, i2⟩ := low_id (t := a) hb0
  obtain ⟨j1, j2⟩ := low_id (t := c) hd0
  have := Sums.times_ok (a := lowP a b) (b := lowQ a b) (c := lowP c d) (d := lowQ c d) (by omega) (by omega) (by omega) (by omega) (by omega)
  unfold fr
  rw [this]
  have e := low_cross (t := lowP a b * lowP c d) (b := lowQ a b * lowQ c d) (t' := a * c) (b' := b * d) (Int.mul_ne_zero (by omega) (by omega)) (Int.mul_ne_zero hb0 hd0) (by grind)
  rw [e.1, e.2]
theorem overF (hc0 : c ≠ 0) : Sums.F_over [fr a b, fr c d] = some (fr (a * d) (b * c), [fr a b, fr c d]) := by
  have l1 := low_le (t := a) hb0
  have l2 := low_le (t := c) hd0
  obtain ⟨i1, i2⟩ := low_id (t := a) hb0
  obtain ⟨j1, j2⟩ := low_id (t := c) hd0
  have hp : lowP c d ≠ 0 := fun z => by
    rw [z, Int.zero_mul] at j1
    rcases Int.mul_eq_zero.mp j1.symm with h | h
    · exact hc0 h
    · omega
  have := Sums.over_ok (a := lowP a b) (b := lowQ a b) (c := lowP c d) (d := lowQ c d) (by omega) (by omega) (by omega) (by omega) (by omega) hp
  unfold fr
  rw [this]
  have e := low_cross (t := lowP a b * lowQ c d) (b := lowQ a b * lowP c d) (t' := a * d) (b' := b * c) (Int.mul_ne_zero (by omega) hp) (Int.mul_ne_zero hb0 hc0) (by grind)
  rw [e.1, e.2]
theorem lessF (hbp : 0 < b) (hdp : 0 < d) : Sums.F_is_less [fr a b, fr c d] = some (.bl (decide (a * d < c * b)), [fr a b, fr c d]) := by
  have l1 := low_le (t := a) hb0
  have l2 := low_le (t := c) hd0
  obtain ⟨i1, i2⟩ := low_id (t := a) hb0
  obtain ⟨j1, j2⟩ := low_id (t := c) hd0
  have := Sums.less_ok (a := lowP a b) (b := lowQ a b) (c := lowP c d) (d := lowQ c d) (by omega) (by omega) (by omega) (by omega) (by omega)
  unfold fr
  rw [this]
  have e : (lowP a b * lowQ c d < lowP c d * lowQ a b) ↔ (a * d < c * b) := by
    have h1 : 0 < b * d := Int.mul_pos hbp hdp
    have h2 : 0 < lowQ a b * lowQ c d := Int.mul_pos i2 j2
    rw [← Int.mul_lt_mul_right h1, show lowP a b * lowQ c d * (b * d) = (a * d) * (lowQ a b * lowQ c d) by grind, show lowP c d * lowQ a b * (b * d) = (c * b) * (lowQ a b * lowQ c d) by grind, Int.mul_lt_mul_right h2]
  rw [decide_eq_decide.mpr e]
end
theorem fractionF {t b : Int} (hb : b ≠ 0) (hs : b.natAbs < 2 ^ 4000) : Sums.F_fraction [.int t, .int b] = some (fr t b, [.int t, .int b]) := Sums.fraction_ok hb hs
end Mv
end
section
set_option Elab.async false
set_option linter.all false
set_option maxRecDepth 100000
set_option maxHeartbeats 4000000
set_option exponentiation.threshold 5000
open PySem Mv Mv.PreA
local macro_rules | `(tactic| walk_at "ev") => `(tactic| try simp only [↓W_bCons, ↓W_bNil, ↓W_bBrk, ↓W_bCnt, ↓W_bExp, ↓W_bRet, ↓W_bRetN, ↓W_bIf, ↓W_bAsg, ↓W_bPar, ↓W_bAug, ↓W_eC, ↓W_eV, ↓W_eM, ↓W_hV, ↓W_hE, ↓W_eFz, ↓W_e1, ↓W_e2, ↓W_aNil, ↓W_aCons, ↓W_eN, ↓W_eTup, ↓W_eLst, ↓W_eCall, ↓W_eMut, ↓W_eMt, ↓W_eIf, ↓W_eAn, ↓W_eOr, ↓W_eNo, ↓W_eJ0, ↓W_eJ1, ↓W_tT, ↓W_tB, ↓W_tNo, ↓W_tAn, ↓W_tOr, ↓W_tAll, ↓W_gNm, ↓W_gsNil, ↓W_gsCons, ↓W_gTp, ↓W_gIx, ↓W_bFor, ↓W_bWhile, ↓W_iRg1, ↓W_iRg2, ↓W_iSq, ↓W_eLc, ↓W_eSl, ↓W_pN, ↓W_pS, ↓W_iEn, ↓W_iZp, ↓W_iRv, ↓W_iRg3, ↓W_iRgV, ↓W_eCh, ↓W_chIf, ↓W_bind, ↓W_map, ↓W_some, ↓W_none,
  Hd.get, List.getElem?_cons_zero, List.getElem?_cons_succ, List.getD_cons_zero, List.getD_cons_succ, List.set_cons_zero, List.set_cons_succ, List.length_cons, List.length_nil, List.map_cons, List.map_nil, List.replicate, List.cons_append, List.nil_append, Nat.reduceAdd, Nat.reduceSub, Nat.reduceLeDiff, Nat.zero_add,
  D.frz, D.frzL, D.fz, D.fzL, tru_b, tru_i, tru_n, tru_l, tru_t, tru_c, tms, wipeD, unw, lend, unlend, keepL, Option.map_some, Option.bind_some, Bool.and_true, Bool.true_and, Bool.not_true, Bool.not_false, ↓reduceIte, if_true, if_false, Bool.false_eq_true, true_and, and_true, ite_b, ite_nb, vv_fmtI, vv_fmtS, vv_reprI, vv_reprS, vv_addS, vv_lenS, vv_eqS, vv_neS, vv_addL, vv_addT,
  vv_add, vv_sub, vv_mul, vv_div, vv_mod, vv_pow, vv_shl, vv_shr, vv_neg, vv_lt, vv_le, vv_gt, vv_ge, vv_int, vv_intS, vv_intb, vv_abs, vv_gcd, vv_max2, vv_min2, vv_lenL, vv_lenC, vv_lenT, vv_idxL, vv_idxC, vv_idxT, vv_eqI, vv_eqB, vv_neI, vv_list, vv_listT, vv_tuple, vv_tupleT, vv_sum, vv_slL, vv_slS, vv_slT, vv_range, vv_index, vv_count, isL_l, isL_c, lenL_l, lenL_c, kindL, vv_maxL, vv_minL, vv_strI, vv_app, vv_isNN, vv_isIN, vv_isSN, vv_isBN, vv_isLN, vv_isTN, vv_isBB, vv_isNB, vv_isIB, vv_isSB, vv_isLB, vv_isTB, vv_inNN, vv_inIN, vv_inSN, vv_inBN, vv_inLN, vv_inTN, vv_inBB, atF0, atF1, atF2, atF3, atF4, atF5, okI, okB, okS, okN, okL, ix0, ix1, ix2, frzL_int, fzL_int, intsD_map, isiI_int, isiI_str, isiI_bool, isiI_list, isiI_tuple, isiS_int, isiS_str, isiS_bool, isiS_list, isiS_tuple, isiB_int, isiB_str, isiB_bool, isiB_list, isiB_tuple, isiL_int, isiL_str, isiL_bool, isiL_list, isiL_tuple, isiT_int, isiT_str, isiT_bool, isiT_list, isiT_tuple, isiN_int, isiN_str, isiN_bool, isiN_list, isiN_tuple])
local macro_rules | `(tactic| walk_at "mu") => `(tactic| repeat (first | (rw [W_ok (MulOk.right (by omega))]; walk_at "ev") | (rw [W_ok (MulOk.left (by omega))]; walk_at "ev") | (rw [W_ok (divok (by omega) (by omega))]; walk_at "ev") | (rw [W_ok (by omega)]; walk_at "ev")))
namespace Mv.PreB
noncomputable def d_law_draw : Ev → Option Out := bCons (bAsg (e2 gAdd (hE (e2 gIdx (hV 0) (hE (eC (.int 1))))) (hE (eC (.int 1)))) (gIx 0 (hE (eC (.int 1))))) (bCons (bIf (tB' (e2 gGt (hE (e2 gIdx (hV 0) (hE (eC (.int 1))))) (hE (eN gLen (aCons (hE (e2 gIdx (hV 0) (hE (eC (.int 0))))) aNil))))) (bRet (e2 gMod (hE (eN gInt (aCons (hE (e2 gAdd (hE (e2 gAdd (hE (e2 gIdx (hE (e2 gIdx (hV 0) (hE (eC (.int 0))))) (hE (e2 gMod (hE (eN gInt (aCons (hE (e2 gMul (hE (e2 gIdx (hV 0) (hE (eC (.int 1))))) (hE (eC (.int 31))))) aNil))) (hE (eN gLen (aCons (hE (e2 gIdx (hV 0) (hE (eC (.int 0))))) aNil))))))) (hE (e2 gMul (hE (e2 gIdx (hV 0) (hE (eC (.int 1))))) (hE (eC (.int 7))))))) (hE (eC (.int 3))))) aNil))) (hV 1))) (bNil)) (bRet (e2 gMod (hE (eN gInt (aCons (hE (e2 gIdx (hE (e2 gIdx (hV 0) (hE (eC (.int 0))))) (hE (e2 gSubt (hE (e2 gIdx (hV 0) (hE (eC (.int 1))))) (hE (eC (.int 1))))))) aNil))) (hV 1))))
noncomputable def F_law_draw : List D → Option (D × List D) := fnD [true, true] 2 d_law_draw
noncomputable def d_law_pick : Ev → Option Out := bRet (e2 gIdx (hV 1) (hE (eCall 2 F_law_draw (aCons (hV 0) (aCons (hE (eN gLen (aCons (hV 1) aNil))) aNil)))))
noncomputable def F_law_pick : List D → Option (D × List D) := fnD [true, true] 2 d_law_pick
def drw (ds : List Int) (n m : Int) : Int := if (ds.length : Int) < n + 1 then (ds.getD (((n + 1) * 31) % (ds.length : Int)).toNat 0 + (n + 1) * 7 + 3) % m else ds.getD n.toNat 0 % m
theorem drw_nn {ds : List Int} {n m : Int} (hm : 0 < m) : 0 ≤ drw ds n m := by
  unfold drw
  split <;> exact Int.emod_nonneg _ (by omega)
theorem drw_lt {ds : List Int} {n m : Int} (hm : 0 < m) : drw ds n m < m := by
  unfold drw
  split <;> exact Int.emod_lt_of_pos _ hm
theorem draw_ok {ds : List Int} {n m : Int} (h0 : ds ≠ []) (hn : 0 ≤ n) (hm : 0 < m) : F_law_draw [bx ds n, .int m] = some (.int (drw ds n m), [bx ds (n + 1), .int m]) := by
  have hl : (0 : Int) < ds.length := by
    cases ds with
    | nil => exact absurd rfl h0
    | cons _ _ => simp
  apply of_W
  unfold F_law_draw bx
  rw [W_fnD rfl]
  unfold d_law_draw
  walk_at "ev"
  rw [List.length_map]
  unfold drw
  split
  · rename_i h
    rw [W_ok (MulOk.right (by decide))]
    walk_at "ev"
    rw [W_ok hl]
    walk_at "ev"
    obtain ⟨k, hk⟩ := Int.eq_ofNat_of_zero_le (show 0 ≤ (n + 1) * 31 % (ds.length : Int) from Int.emod_nonneg _ (by omega))
    have hk2 : k < ds.length := by
      have := Int.emod_lt_of_pos ((n + 1) * 31) hl
      omega
    rw [hk, atF_nat, List.getElem?_map, List.getElem?_eq_getElem hk2]
    show W (okD (.int ds[k])) _
    rw [okI, W_some]
    walk_at "ev"
    rw [W_ok (MulOk.right (by decide))]
    walk_at "ev"
    rw [W_ok hm]
    simp [hk2]
  · rename_i h
    obtain ⟨k, rfl⟩ := Int.eq_ofNat_of_zero_le hn
    have hk : k < ds.length := by omega
    rw [Int.add_sub_cancel, atF_nat, List.getElem?_map, List.getElem?_eq_getElem hk]
    show W (okD (.int ds[k])) _
    rw [okI, W_some]
    walk_at "ev"
    rw [W_ok hm]
    simp [hk]
theorem pick_ok {ds : List Int} {n : Int} {o : Bool} {xs : List D} (h0 : ds ≠ []) (hn : 0 ≤ n) (hx : xs ≠ []) : ∃ j, ∃ h : j < xs.length, F_law_pick [bx ds n, .lst o xs] = (okD xs[j]).map fun x => (x, [bx ds (n + 1), .lst o xs]) := by
  have hl : (0 : Int) < xs.length := by
    cases xs with
    | nil => exact absurd rfl hx
    | cons _ _ => simp
  obtain ⟨j, hj⟩ := Int.eq_ofNat_of_zero_le (drw_nn (ds := ds) (n := n) hl)
  have hj2 : j < xs.length := by
    have := drw_lt (ds := ds) (n := n) hl
    omega
  refine ⟨j, hj2, ?_⟩
  have key : ∀ (Q : D × List D → Prop), W (F_law_pick [bx ds n, .lst o xs]) Q = W (okD xs[j]) fun x => Q (x, [bx ds (n + 1), .lst o xs]) := fun Q => by
    unfold F_law_pick
    rw [W_fnD rfl]
    unfold d_law_pick
    walk_at "ev"
    have e := draw_ok (ds := ds) (n := n) (m := (xs.length : Int)) h0 hn hl
    unfold bx at e ⊢
    walk_at "ev"
    rw [W_eq e]
    cases o <;> (walk_at "ev"; rw [hj, atF_nat, List.getElem?_eq_getElem hj2]; rfl)
  cases h : okD xs[j] with
  | some x =>
    apply of_W
    rw [key, h, W_some]
  | none =>
    cases h2 : F_law_pick [bx ds n, .lst o xs] with
    | none => rfl
    | some r =>
      have := key fun _ => True
      rw [h, h2, W_some, W_none] at this
      exact absurd (this ▸ trivial : False) (by simp)
theorem pick_int {ds : List Int} {n : Int} {o : Bool} (ks : List Int) (h0 : ds ≠ []) (hn : 0 ≤ n) (hk : ks ≠ []) : ∃ k ∈ ks, F_law_pick [bx ds n, .lst o (ks.map D.int)] = some (.int k, [bx ds (n + 1), .lst o (ks.map D.int)]) := by
  obtain ⟨j, hj, e⟩ := pick_ok (ds := ds) (n := n) (o := o) (xs := ks.map D.int) h0 hn (by simpa using hk)
  have hj2 : j < ks.length := by simpa using hj
  refine ⟨ks[j], List.getElem_mem hj2, ?_⟩
  rw [e, List.getElem_map]
  rfl
end Mv.PreB
end
section
set_option Elab.async false
set_option linter.all false
set_option maxRecDepth 100000
set_option maxHeartbeats 4000000
set_option exponentiation.threshold 5000
open PySem Mv Mv.PreA
local macro_rules | `(tactic| walk_at "ev") => `(tactic| try simp only [↓W_bCons, ↓W_bNil, ↓W_bBrk, ↓W_bCnt, ↓W_bExp, ↓W_bRet, ↓W_bRetN, ↓W_bIf, ↓W_bAsg, ↓W_bPar, ↓W_bAug, ↓W_eC, ↓W_eV, ↓W_eM, ↓W_hV, ↓W_hE, ↓W_eFz, ↓W_e1, ↓W_e2, ↓W_aNil, ↓W_aCons, ↓W_eN, ↓W_eTup, ↓W_eLst, ↓W_eCall, ↓W_eMut, ↓W_eMt, ↓W_eIf, ↓W_eAn, ↓W_eOr, ↓W_eNo, ↓W_eJ0, ↓W_eJ1, ↓W_tT, ↓W_tB, ↓W_tNo, ↓W_tAn, ↓W_tOr, ↓W_tAll, ↓W_gNm, ↓W_gsNil, ↓W_gsCons, ↓W_gTp, ↓W_gIx, ↓W_bFor, ↓W_bWhile, ↓W_iRg1, ↓W_iRg2, ↓W_iSq, ↓W_eLc, ↓W_eSl, ↓W_pN, ↓W_pS, ↓W_iEn, ↓W_iZp, ↓W_iRv, ↓W_iRg3, ↓W_iRgV, ↓W_eCh, ↓W_chIf, ↓W_bind, ↓W_map, ↓W_some, ↓W_none,
  Hd.get, List.getElem?_cons_zero, List.getElem?_cons_succ, List.getD_cons_zero, List.getD_cons_succ, List.set_cons_zero, List.set_cons_succ, List.length_cons, List.length_nil, List.map_cons, List.map_nil, List.replicate, List.cons_append, List.nil_append, Nat.reduceAdd, Nat.reduceSub, Nat.reduceLeDiff, Nat.zero_add,
  D.frz, D.frzL, D.fz, D.fzL, tru_b, tru_i, tru_n, tru_l, tru_t, tru_c, tms, wipeD, unw, lend, unlend, keepL, Option.map_some, Option.bind_some, Bool.and_true, Bool.true_and, Bool.not_true, Bool.not_false, ↓reduceIte, if_true, if_false, Bool.false_eq_true, true_and, and_true, ite_b, ite_nb, vv_fmtI, vv_fmtS, vv_reprI, vv_reprS, vv_addS, vv_augI, vv_augS, vv_lenS, vv_eqS, vv_neS, vv_addL, vv_addT,
  vv_add, vv_sub, vv_mul, vv_div, vv_mod, vv_pow, vv_shl, vv_shr, vv_neg, vv_lt, vv_le, vv_gt, vv_ge, vv_int, vv_intS, vv_intb, vv_abs, vv_gcd, vv_max2, vv_min2, vv_lenL, vv_lenC, vv_lenT, vv_idxL, vv_idxC, vv_idxT, vv_eqI, vv_eqB, vv_neI, vv_list, vv_listT, vv_tuple, vv_tupleT, vv_sum, vv_slL, vv_slS, vv_slT, vv_range, vv_index, vv_count, isL_l, isL_c, lenL_l, lenL_c, kindL, vv_maxL, vv_minL, vv_strI, vv_app, vv_isNN, vv_isIN, vv_isSN, vv_isBN, vv_isLN, vv_isTN, vv_isBB, vv_isNB, vv_isIB, vv_isSB, vv_isLB, vv_isTB, vv_inNN, vv_inIN, vv_inSN, vv_inBN, vv_inLN, vv_inTN, vv_inBB, atF0, atF1, atF2, atF3, atF4, atF5, okI, okB, okS, okN, okL, ix0, ix1, ix2, frzL_int, fzL_int, intsD_map, isiI_int, isiI_str, isiI_bool, isiI_list, isiI_tuple, isiS_int, isiS_str, isiS_bool, isiS_list, isiS_tuple, isiB_int, isiB_str, isiB_bool, isiB_list, isiB_tuple, isiL_int, isiL_str, isiL_bool, isiL_list, isiL_tuple, isiT_int, isiT_str, isiT_bool, isiT_list, isiT_tuple, isiN_int, isiN_str, isiN_bool, isiN_list, isiN_tuple])
local macro_rules | `(tactic| walk_at "mu") => `(tactic| repeat (first | (rw [W_ok (MulOk.right (by omega))]; walk_at "ev") | (rw [W_ok (MulOk.left (by omega))]; walk_at "ev") | (rw [W_ok (divok (by omega) (by omega))]; walk_at "ev") | (rw [W_ok (by omega)]; walk_at "ev")))
namespace Mv
/-! fractions as rational numbers -/
abbrev rt (r : Rat) : D := pr r.num (r.den : Int)
theorem rt_red (r : Rat) : Red r.num (r.den : Int) := ⟨by have := r.den_pos; omega, by rw [Int.natAbs_natCast]; exact r.reduced⟩
theorem rat_nd (r : Rat) : r = (r.num : Rat) / ((r.den : Int) : Rat) := by rw [← Rat.divInt_eq_div, Rat.num_divInt_den]
theorem den_ne (r : Rat) : (r.den : Int) ≠ 0 := by have := r.den_pos; omega
theorem cast_ne {b : Int} (h : b ≠ 0) : (b : Rat) ≠ 0 := fun k => h (Rat.intCast_eq_zero_iff.mp k)
theorem num_low {t b : Int} (hb : b ≠ 0) : lowP t b = ((t : Rat) / (b : Rat)).num ∧ lowQ t b = (((t : Rat) / (b : Rat)).den : Int) := by
  generalize hr : (t : Rat) / (b : Rat) = r
  have h1 := rat_nd r
  have h2 := cast_ne hb
  have h3 := cast_ne (den_ne r)
  have e : t * (r.den : Int) = r.num * b := by
    have : ((t * (r.den : Int) : Int) : Rat) = ((r.num * b : Int) : Rat) := by
      rw [Rat.intCast_mul, Rat.intCast_mul]
      generalize ((r.den : Int) : Rat) = d at *
      generalize (r.num : Rat) = n at *
      grind
    exact Rat.intCast_inj.mp this
  obtain ⟨c1, c2⟩ := low_cross (t := t) (b := b) (t' := r.num) (b' := (r.den : Int)) hb (den_ne r) e
  obtain ⟨s1, s2⟩ := low_self (rt_red r)
  rw [c1, c2]
  exact ⟨s1, s2⟩
theorem fr_rt {t b : Int} (hb : b ≠ 0) : fr t b = rt ((t : Rat) / (b : Rat)) := by
  obtain ⟨e1, e2⟩ := num_low (t := t) hb
  show pr _ _ = pr _ _
  rw [e1, e2]
theorem rt_int (n : Int) : rt (n : Rat) = pr n 1 := by
  show pr _ _ = pr _ _
  rw [Rat.num_intCast, Rat.den_intCast]; rfl
/-- top and bottom are below 2 ^ n -/
def Sz (n : Nat) (r : Rat) : Prop := r.num.natAbs < 2 ^ n ∧ r.den < 2 ^ n
theorem Sz.mono {m n : Nat} {r : Rat} (h : Sz m r) (k : m ≤ n) : Sz n r := ⟨Nat.lt_of_lt_of_le h.1 (Nat.pow_le_pow_right (by decide) k), Nat.lt_of_lt_of_le h.2 (Nat.pow_le_pow_right (by decide) k)⟩
theorem sz_of {t b : Int} {n : Nat} (hb : b ≠ 0) (h1 : t.natAbs < 2 ^ n) (h2 : b.natAbs < 2 ^ n) : Sz n ((t : Rat) / (b : Rat)) := by
  obtain ⟨e1, e2⟩ := num_low (t := t) hb
  obtain ⟨l1, l2⟩ := low_le (t := t) hb
  refine ⟨by rw [← e1]; omega, ?_⟩
  have : (((t : Rat) / (b : Rat)).den : Int).natAbs = ((t : Rat) / (b : Rat)).den := Int.natAbs_natCast _
  rw [← this, ← e2]; omega
theorem Sz.den {n : Nat} {r : Rat} (h : Sz n r) : (r.den : Int).natAbs < 2 ^ n := by rw [Int.natAbs_natCast]; exact h.2
theorem rat_mul (r s : Rat) : r * s = ((r.num * s.num : Int) : Rat) / (((r.den : Int) * (s.den : Int) : Int) : Rat) := by
  have h1 := rat_nd r
  have h2 := rat_nd s
  have h3 := cast_ne (den_ne r)
  have h4 := cast_ne (den_ne s)
  rw [Rat.intCast_mul, Rat.intCast_mul]
  generalize ((r.den : Int) : Rat) = d at *
  generalize (r.num : Rat) = n at *
  generalize ((s.den : Int) : Rat) = d' at *
  generalize (s.num : Rat) = n' at *
  grind
theorem rat_add (r s : Rat) : r + s = ((r.num * (s.den : Int) + s.num * (r.den : Int) : Int) : Rat) / (((r.den : Int) * (s.den : Int) : Int) : Rat) := by
  have h1 := rat_nd r
  have h2 := rat_nd s
  have h3 := cast_ne (den_ne r)
  have h4 := cast_ne (den_ne s)
  rw [Rat.intCast_add, Rat.intCast_mul, Rat.intCast_mul, Rat.intCast_mul]
  generalize ((r.den : Int) : Rat) = d at *
  generalize (r.num : Rat) = n at *
  generalize ((s.den : Int) : Rat) = d' at *
  generalize (s.num : Rat) = n' at *
  grind
theorem rat_sub (r s : Rat) : r - s = ((r.num * (s.den : Int) - s.num * (r.den : Int) : Int) : Rat) / (((r.den : Int) * (s.den : Int) : Int) : Rat) := by
  have h1 := rat_nd r
  have h2 := rat_nd s
  have h3 := cast_ne (den_ne r)
  have h4 := cast_ne (den_ne s)
  rw [Rat.intCast_sub, Rat.intCast_mul, Rat.intCast_mul, Rat.intCast_mul]
  generalize ((r.den : Int) : Rat) = d at *
  generalize (r.num : Rat) = n at *
  generalize ((s.den : Int) : Rat) = d' at *
  generalize (s.num : Rat) = n' at *
  grind
theorem num_ne {s : Rat} (h : s ≠ 0) : s.num ≠ 0 := fun k => h (Rat.num_eq_zero.mp k)
theorem rat_div (r : Rat) {s : Rat} (hs : s ≠ 0) : r / s = ((r.num * (s.den : Int) : Int) : Rat) / (((r.den : Int) * s.num : Int) : Rat) := by
  have h1 := rat_nd r
  have h2 := rat_nd s
  have h3 := cast_ne (den_ne r)
  have h4 := cast_ne (den_ne s)
  have h5 := cast_ne (num_ne hs)
  rw [Rat.intCast_mul, Rat.intCast_mul]
  generalize ((r.den : Int) : Rat) = d at *
  generalize (r.num : Rat) = n at *
  generalize ((s.den : Int) : Rat) = d' at *
  generalize (s.num : Rat) = n' at *
  grind
theorem pow_pos' {n : Nat} : 0 < 2 ^ n := Nat.pow_pos (by decide)
theorem mul_sz {a b : Int} {m n : Nat} (h1 : a.natAbs < 2 ^ m) (h2 : b.natAbs < 2 ^ n) : (a * b).natAbs < 2 ^ (m + n) := by
  rw [Int.natAbs_mul, Nat.pow_add]
  exact Nat.mul_lt_mul'' h1 h2
theorem add_sz {a b : Int} {m : Nat} (h1 : a.natAbs < 2 ^ m) (h2 : b.natAbs < 2 ^ m) : (a + b).natAbs < 2 ^ (m + 1) := by
  rw [Nat.pow_succ]; omega
theorem sub_sz {a b : Int} {m : Nat} (h1 : a.natAbs < 2 ^ m) (h2 : b.natAbs < 2 ^ m) : (a - b).natAbs < 2 ^ (m + 1) := by
  rw [Nat.pow_succ]; omega
theorem up_sz {a : Nat} {m n : Nat} (h : a < 2 ^ m) (k : m ≤ n) : a < 2 ^ n := Nat.lt_of_lt_of_le h (Nat.pow_le_pow_right (by decide) k)
theorem Sz.mul {m n : Nat} {r s : Rat} (h1 : Sz m r) (h2 : Sz n s) : Sz (m + n) (r * s) := by
  rw [rat_mul]
  exact sz_of (Int.mul_ne_zero (den_ne r) (den_ne s)) (mul_sz h1.1 h2.1) (mul_sz h1.den h2.den)
theorem Sz.add {m n : Nat} {r s : Rat} (h1 : Sz m r) (h2 : Sz n s) : Sz (m + n + 1) (r + s) := by
  rw [rat_add]
  refine sz_of (Int.mul_ne_zero (den_ne r) (den_ne s)) (add_sz (mul_sz h1.1 h2.den) ?_) (up_sz (mul_sz h1.den h2.den) (by omega))
  rw [Nat.add_comm]
  exact mul_sz h2.1 h1.den
theorem Sz.sub {m n : Nat} {r s : Rat} (h1 : Sz m r) (h2 : Sz n s) : Sz (m + n + 1) (r - s) := by
  rw [rat_sub]
  refine sz_of (Int.mul_ne_zero (den_ne r) (den_ne s)) (sub_sz (mul_sz h1.1 h2.den) ?_) (up_sz (mul_sz h1.den h2.den) (by omega))
  rw [Nat.add_comm]
  exact mul_sz h2.1 h1.den
theorem Sz.div {m n : Nat} {r s : Rat} (h1 : Sz m r) (h2 : Sz n s) (hs : s ≠ 0) : Sz (m + n) (r / s) := by
  rw [rat_div r hs]
  exact sz_of (Int.mul_ne_zero (den_ne r) (num_ne hs)) (mul_sz h1.1 h2.den) (mul_sz h1.den h2.1)
theorem MulOk.both {i j : Int} (h : i.natAbs < 2 ^ 4000) (k : j.natAbs < 2 ^ 4000) : MulOk i j := .inr (.inr ⟨h, k⟩)
section
variable {m n : Nat} {r s : Rat} (hr : Sz m r) (hs : Sz n s) (hm : m ≤ 1500) (hn : n ≤ 1500)
include hr hs hm hn
theorem plusR : Sums.F_plus [rt r, rt s] = some (rt (r + s), [rt r, rt s]) := by
  have a1 := up_sz hr.1 (show m ≤ 4000 by omega)
  have a2 := up_sz hr.den (show m ≤ 4000 by omega)
  have b1 := up_sz hs.1 (show n ≤ 4000 by omega)
  have b2 := up_sz hs.den (show n ≤ 4000 by omega)
  have e1 := Int.mul_ne_zero (den_ne r) (den_ne s)
  have e2 := up_sz (mul_sz hr.den hs.den) (show m + n ≤ 4000 by omega)
  apply of_W
  unfold Sums.F_plus
  rw [W_fnD rfl]
  unfold Sums.d_plus
  walk_at "ev"
  rw [W_ok (MulOk.both a1 b2)]
  rw [W_ok (MulOk.both b1 a2)]
  walk_at "ev"
  rw [W_ok (MulOk.both a2 b2), W_eq (fractionF e1 e2)]
  rw [fr_rt e1, ← rat_add]
  walk_at "ev"
theorem minusR : Sums.F_minus [rt r, rt s] = some (rt (r - s), [rt r, rt s]) := by
  have a1 := up_sz hr.1 (show m ≤ 4000 by omega)
  have a2 := up_sz hr.den (show m ≤ 4000 by omega)
  have b1 := up_sz hs.1 (show n ≤ 4000 by omega)
  have b2 := up_sz hs.den (show n ≤ 4000 by omega)
  have e1 := Int.mul_ne_zero (den_ne r) (den_ne s)
  have e2 := up_sz (mul_sz hr.den hs.den) (show m + n ≤ 4000 by omega)
  apply of_W
  unfold Sums.F_minus
  rw [W_fnD rfl]
  unfold Sums.d_minus
  walk_at "ev"
  rw [W_ok (MulOk.both a1 b2)]
  rw [W_ok (MulOk.both b1 a2)]
  walk_at "ev"
  rw [W_ok (MulOk.both a2 b2), W_eq (fractionF e1 e2)]
  rw [fr_rt e1, ← rat_sub]
  walk_at "ev"
theorem timesR : Sums.F_times [rt r, rt s] = some (rt (r * s), [rt r, rt s]) := by
  have a1 := up_sz hr.1 (show m ≤ 4000 by omega)
  have a2 := up_sz hr.den (show m ≤ 4000 by omega)
  have b1 := up_sz hs.1 (show n ≤ 4000 by omega)
  have b2 := up_sz hs.den (show n ≤ 4000 by omega)
  have e1 := Int.mul_ne_zero (den_ne r) (den_ne s)
  have e2 := up_sz (mul_sz hr.den hs.den) (show m + n ≤ 4000 by omega)
  apply of_W
  unfold Sums.F_times
  rw [W_fnD rfl]
  unfold Sums.d_times
  walk_at "ev"
  rw [W_ok (MulOk.both a1 b1)]
  walk_at "ev"
  rw [W_ok (MulOk.both a2 b2), W_eq (fractionF e1 e2)]
  rw [fr_rt e1, ← rat_mul]
  walk_at "ev"
theorem overR (h0 : s ≠ 0) : Sums.F_over [rt r, rt s] = some (rt (r / s), [rt r, rt s]) := by
  have a1 := up_sz hr.1 (show m ≤ 4000 by omega)
  have a2 := up_sz hr.den (show m ≤ 4000 by omega)
  have b1 := up_sz hs.1 (show n ≤ 4000 by omega)
  have b2 := up_sz hs.den (show n ≤ 4000 by omega)
  have e1 := Int.mul_ne_zero (den_ne r) (num_ne h0)
  have e2 := up_sz (mul_sz hr.den hs.1) (show m + n ≤ 4000 by omega)
  apply of_W
  unfold Sums.F_over
  rw [W_fnD rfl]
  unfold Sums.d_over
  walk_at "ev"
  rw [W_ok (MulOk.both a1 b2)]
  walk_at "ev"
  rw [W_ok (MulOk.both a2 b1), W_eq (fractionF e1 e2)]
  rw [fr_rt e1, ← rat_div r h0]
  walk_at "ev"
theorem lessR : Sums.F_is_less [rt r, rt s] = some (.bl (decide (r < s)), [rt r, rt s]) := by
  have a1 := up_sz hr.1 (show m ≤ 4000 by omega)
  have a2 := up_sz hr.den (show m ≤ 4000 by omega)
  have b1 := up_sz hs.1 (show n ≤ 4000 by omega)
  have b2 := up_sz hs.den (show n ≤ 4000 by omega)
  apply of_W
  unfold Sums.F_is_less
  rw [W_fnD rfl]
  unfold Sums.d_is_less
  walk_at "ev"
  rw [W_ok (MulOk.both a1 b2)]
  rw [W_ok (MulOk.both b1 a2)]
  walk_at "ev"
  rw [decide_eq_decide.mpr (Rat.lt_iff r s).symm]
end
theorem sm_rt {n m : Nat} {r : Rat} (h : Sz m r) (k : m ≤ 64) : Sm (n + 2) (rt r) (rt r) := by
  have a1 := up_sz h.1 k
  have a2 := up_sz h.den k
  exact sm_t2 (sm_int a1) (sm_int a2) ⟨rfl, rfl⟩ ⟨rfl, rfl⟩
theorem rt_inj {r s : Rat} (h : rt r = rt s) : r = s := by
  have h1 : r.num = s.num ∧ (r.den : Int) = (s.den : Int) := by
    injection h with h
    injection h with h1 h2
    injection h2 with h2 _
    injection h1 with h1
    injection h2 with h2
    exact ⟨h1, h2⟩
  rw [rat_nd r, rat_nd s, h1.1, h1.2]
end Mv
namespace Mv.PreB
noncomputable def d_law_part : Ev → Option Out := bCons (bPar 2 3 (aCons (hE (eN gAbs (aCons (hV 0) aNil))) (aCons (hE (eN gAbs (aCons (hV 1) aNil))) aNil))) (bCons (bWhile (tB' (e2 gGt (hV 3) (hE (eC (.int 0))))) (bPar 2 3 (aCons (hE (eV 3)) (aCons (hE (e2 gMod (hE (eN gInt (aCons (hV 2) aNil))) (hV 3))) aNil)))) (bCons (bIf (tB' (e2 gLt (hV 1) (hE (eC (.int 0))))) (bAsg (e1 gNeg (hV 2)) (gNm 2)) (bNil)) (bRet (eTup (aCons (hE (e2 gDiv (hV 0) (hV 2))) (aCons (hE (e2 gDiv (hV 1) (hV 2))) aNil))))))
noncomputable def F_law_part : List D → Option (D × List D) := fnD [true, true] 4 d_law_part
def partC : Ev → Option (Bool × Ev) := tB' (e2 gGt (hV 3) (hE (eC (.int 0))))
def partB : Ev → Option Out := bPar 2 3 (aCons (hE (eV 3)) (aCons (hE (e2 gMod (hE (eN gInt (aCons (hV 2) aNil))) (hV 3))) aNil))
theorem part_fr {t b : Int} (hb : b ≠ 0) (hs : b.natAbs < 2 ^ 4000) : F_law_part [.int t, .int b] = some (fr t b, [.int t, .int b]) := by
  have hg := gd_pos (t := t) hb
  have hl := gd_abs (t := t) hb
  have hl2 := Nat.lt_of_le_of_lt hl hs
  apply of_W
  unfold F_law_part
  rw [W_fnD rfl]
  unfold d_law_part
  change W (bCons _ (bCons (bWhile partC partB) _) _) _
  walk_at "ev"
  refine W_while (fun ρ => ∃ one rest : Int, ρ = [.int t, .int b, .int one, .int rest] ∧ 0 ≤ one ∧ 0 ≤ rest ∧ gd one rest = gd t b) (fun ρ => match ρ.getD 3 .any with | .int r => r.toNat | _ => 0) ?_ ?_
  · refine ⟨_, _, rfl, by split <;> omega, by split <;> omega, ?_⟩
    unfold gd
    congr 2
    · split <;> omega
    · split <;> omega
  · rintro ρ ⟨one, rest, rfl, h1, h2, h3⟩
    unfold partC partB
    walk_at "ev"
    split
    · rename_i h
      have h4 := Int.emod_nonneg one (show rest ≠ 0 by omega)
      have h5 := Int.emod_lt_of_pos one h
      rw [W_some]
      refine ⟨⟨rest, one % rest, rfl, by omega, h4, ?_⟩, ?_⟩
      · rw [← h3]
        unfold gd
        rw [euclid h1 h]
      · simp only [List.getD_cons_succ, List.getD_cons_zero]
        omega
    · rename_i h
      have h0 : rest = 0 := by omega
      subst h0
      rw [gd_zero h1] at h3
      subst h3
      walk_at "ev"
      split
      · rename_i hb0
        rw [W_no (Sums.ndok hg), W_ok (Sums.dno (by omega) (by rw [Int.natAbs_neg]; exact hl2)), W_no (Sums.ndok hg), W_ok (Sums.dno (by omega) (by rw [Int.natAbs_neg]; exact hl2))]
        rw [fdiv_neg hg gd_left, fdiv_neg hg gd_right]
        unfold fr lowP lowQ
        rw [if_pos hb0, if_pos hb0]
      · rename_i hb0
        rw [W_ok (Sums.dok hg hl2), W_ok (Sums.dok hg hl2)]
        unfold fr lowP lowQ
        rw [if_neg hb0, if_neg hb0]
theorem part_rt {t b : Int} (hb : b ≠ 0) (hs : b.natAbs < 2 ^ 4000) : F_law_part [.int t, .int b] = some (rt ((t : Rat) / (b : Rat)), [.int t, .int b]) := by
  rw [part_fr hb hs, fr_rt hb]
end Mv.PreB
end
section
set_option Elab.async false
set_option linter.all false
set_option maxRecDepth 100000
set_option maxHeartbeats 4000000
namespace Lk62
open PySem PySem.Spec PyProof.Rows L2 Mv
def topS (i : Nat) : Stmt := PySem.Challenge.pw_museumlands_k62_whole_views_and_lengths.main.body.getD i (.Pass ⟨0, 0, 0, 0⟩)
abbrev s_fraction : Stmt := topS 2
theorem sc_fraction : FnScope ["top", "bottom", "share"] ["top", "bottom"] (defScope s_fraction) := ⟨rfl, rfl, rfl, by decide +kernel, rfl, by decide +kernel, by decide +kernel⟩
abbrev s_plus : Stmt := topS 3
theorem sc_plus : FnScope ["one", "other"] ["one", "other"] (defScope s_plus) := ⟨rfl, rfl, rfl, by decide +kernel, rfl, by decide +kernel, by decide +kernel⟩
abbrev s_minus : Stmt := topS 4
theorem sc_minus : FnScope ["one", "other"] ["one", "other"] (defScope s_minus) := ⟨rfl, rfl, rfl, by decide +kernel, rfl, by decide +kernel, by decide +kernel⟩
abbrev s_times : Stmt := topS 5
theorem sc_times : FnScope ["one", "other"] ["one", "other"] (defScope s_times) := ⟨rfl, rfl, rfl, by decide +kernel, rfl, by decide +kernel, by decide +kernel⟩
abbrev s_over : Stmt := topS 6
theorem sc_over : FnScope ["one", "other"] ["one", "other"] (defScope s_over) := ⟨rfl, rfl, rfl, by decide +kernel, rfl, by decide +kernel, by decide +kernel⟩
abbrev s_is_less : Stmt := topS 7
theorem sc_is_less : FnScope ["one", "other"] ["one", "other"] (defScope s_is_less) := ⟨rfl, rfl, rfl, by decide +kernel, rfl, by decide +kernel, by decide +kernel⟩
abbrev s_whole : Stmt := topS 8
theorem sc_whole : FnScope ["number"] ["number"] (defScope s_whole) := ⟨rfl, rfl, rfl, by decide +kernel, rfl, by decide +kernel, by decide +kernel⟩
abbrev s_by_scale : Stmt := topS 10
theorem sc_by_scale : FnScope ["length", "bar", "known"] ["length", "bar", "known"] (defScope s_by_scale) := ⟨rfl, rfl, rfl, by decide +kernel, rfl, by decide +kernel, by decide +kernel⟩
abbrev s_cross_ratio : Stmt := topS 11
theorem sc_cross_ratio : FnScope ["one", "other", "third", "far", "near"] ["one", "other", "third", "far"] (defScope s_cross_ratio) := ⟨rfl, rfl, rfl, by decide +kernel, rfl, by decide +kernel, by decide +kernel⟩
abbrev s_same_line : Stmt := topS 12
theorem sc_same_line : FnScope ["ground", "picture", "one", "other", "third", "far", "first"] ["ground", "picture"] (defScope s_same_line) := ⟨rfl, rfl, rfl, by decide +kernel, rfl, by decide +kernel, by decide +kernel⟩
abbrev s_view_of : Stmt := topS 13
theorem sc_view_of : FnScope ["ground", "picture", "rows", "x", "y"] ["ground", "picture"] (defScope s_view_of) := ⟨rfl, rfl, rfl, by decide +kernel, rfl, by decide +kernel, by decide +kernel⟩
abbrev s_null_row : Stmt := topS 14
theorem sc_null_row : FnScope ["rows", "found", "col", "rest", "row", "at", "part", "size"] ["rows"] (defScope s_null_row) := ⟨rfl, rfl, rfl, by decide +kernel, rfl, by decide +kernel, by decide +kernel⟩
abbrev s_box_of : Stmt := topS 15
theorem sc_box_of : FnScope ["rows", "a", "b", "c", "d", "e", "f", "g", "h", "i", "first", "second"] ["rows"] (defScope s_box_of) := ⟨rfl, rfl, rfl, by decide +kernel, rfl, by decide +kernel, by decide +kernel⟩
abbrev s_scaled : Stmt := topS 16
theorem sc_scaled : FnScope ["row", "head", "part"] ["row"] (defScope s_scaled) := ⟨rfl, rfl, rfl, by decide +kernel, rfl, by decide +kernel, by decide +kernel⟩
abbrev s_seen_at : Stmt := topS 17
theorem sc_seen_at : FnScope ["view", "place", "a", "b", "c", "d", "bottom"] ["view", "place"] (defScope s_seen_at) := ⟨rfl, rfl, rfl, by decide +kernel, rfl, by decide +kernel, by decide +kernel⟩
abbrev s_ground_of : Stmt := topS 18
theorem sc_ground_of : FnScope ["view", "place", "a", "b", "c", "d", "bottom"] ["view", "place"] (defScope s_ground_of) := ⟨rfl, rfl, rfl, by decide +kernel, rfl, by decide +kernel, by decide +kernel⟩
abbrev s_horizon : Stmt := topS 19
theorem sc_horizon : FnScope ["view"] ["view"] (defScope s_horizon) := ⟨rfl, rfl, rfl, by decide +kernel, rfl, by decide +kernel, by decide +kernel⟩
abbrev s_depth_of : Stmt := topS 20
theorem sc_depth_of : FnScope ["base", "focus", "shift"] ["base", "focus", "shift"] (defScope s_depth_of) := ⟨rfl, rfl, rfl, by decide +kernel, rfl, by decide +kernel, by decide +kernel⟩
abbrev s_shadow_height : Stmt := topS 21
theorem sc_shadow_height : FnScope ["shadow", "stick", "length"] ["shadow", "stick", "length"] (defScope s_shadow_height) := ⟨rfl, rfl, rfl, by decide +kernel, rfl, by decide +kernel, by decide +kernel⟩
abbrev s_mean_scale : Stmt := topS 22
theorem sc_mean_scale : FnScope ["bars", "length", "known"] ["bars"] (defScope s_mean_scale) := ⟨rfl, rfl, rfl, by decide +kernel, rfl, by decide +kernel, by decide +kernel⟩
abbrev s_worst_bar : Stmt := topS 23
theorem sc_worst_bar : FnScope ["bars", "mean", "best", "place", "length", "known", "gap"] ["bars"] (defScope s_worst_bar) := ⟨rfl, rfl, rfl, by decide +kernel, rfl, by decide +kernel, by decide +kernel⟩
abbrev s_middle_of : Stmt := topS 24
theorem sc_middle_of : FnScope ["view", "one", "other"] ["view", "one", "other"] (defScope s_middle_of) := ⟨rfl, rfl, rfl, by decide +kernel, rfl, by decide +kernel, by decide +kernel⟩
abbrev s_steps_seen : Stmt := topS 25
theorem sc_steps_seen : FnScope ["view", "start", "step", "many", "turn"] ["view", "start", "step", "many"] (defScope s_steps_seen) := ⟨rfl, rfl, rfl, by decide +kernel, rfl, by decide +kernel, by decide +kernel⟩
abbrev s_law_cell : Stmt := topS 27
theorem sc_law_cell : FnScope ["script", "k"] ["script", "k"] (defScope s_law_cell) := ⟨rfl, rfl, rfl, by decide +kernel, rfl, by decide +kernel, by decide +kernel⟩
abbrev s_law_digits : Stmt := topS 28
theorem sc_law_digits : FnScope ["script", "first", "last", "digits", "k", "cell", "lap", "seed"] ["script", "first", "last"] (defScope s_law_digits) := ⟨rfl, rfl, rfl, by decide +kernel, rfl, by decide +kernel, by decide +kernel⟩
abbrev s_law_draw : Stmt := topS 29
theorem sc_law_draw : FnScope ["box", "many"] ["box", "many"] (defScope s_law_draw) := ⟨rfl, rfl, rfl, by decide +kernel, rfl, by decide +kernel, by decide +kernel⟩
abbrev s_law_same : Stmt := topS 31
theorem sc_law_same : FnScope ["told", "due", "k"] ["told", "due"] (defScope s_law_same) := ⟨rfl, rfl, rfl, by decide +kernel, rfl, by decide +kernel, by decide +kernel⟩
abbrev s_law_mixed : Stmt := topS 32
theorem sc_law_mixed : FnScope ["box", "lot", "left", "found", "lap"] ["box", "lot"] (defScope s_law_mixed) := ⟨rfl, rfl, rfl, by decide +kernel, rfl, by decide +kernel, by decide +kernel⟩
abbrev s_law_part : Stmt := topS 33
theorem sc_law_part : FnScope ["top", "bottom", "one", "other"] ["top", "bottom"] (defScope s_law_part) := ⟨rfl, rfl, rfl, by decide +kernel, rfl, by decide +kernel, by decide +kernel⟩
abbrev s_law_fraction : Stmt := topS 34
theorem sc_law_fraction : FnScope ["box", "size"] ["box", "size"] (defScope s_law_fraction) := ⟨rfl, rfl, rfl, by decide +kernel, rfl, by decide +kernel, by decide +kernel⟩
abbrev s_law_view : Stmt := topS 35
theorem sc_law_view : FnScope ["box", "lap", "a", "b", "c", "d", "k"] ["box"] (defScope s_law_view) := ⟨rfl, rfl, rfl, by decide +kernel, rfl, by decide +kernel, by decide +kernel⟩
abbrev s_law_seen : Stmt := topS 36
theorem sc_law_seen : FnScope ["numbers_there", "place", "a", "b", "c", "d", "bottom"] ["numbers_there", "place"] (defScope s_law_seen) := ⟨rfl, rfl, rfl, by decide +kernel, rfl, by decide +kernel, by decide +kernel⟩
abbrev s_law_ground : Stmt := topS 37
theorem sc_law_ground : FnScope ["numbers_there", "place", "a", "b", "c", "d", "bottom"] ["numbers_there", "place"] (defScope s_law_ground) := ⟨rfl, rfl, rfl, by decide +kernel, rfl, by decide +kernel, by decide +kernel⟩
abbrev s_law_places : Stmt := topS 38
theorem sc_law_places : FnScope ["box", "view", "many", "found", "lap", "place", "k"] ["box", "view", "many"] (defScope s_law_places) := ⟨rfl, rfl, rfl, by decide +kernel, rfl, by decide +kernel, by decide +kernel⟩
abbrev s_law_cross : Stmt := topS 39
theorem sc_law_cross : FnScope ["one", "other", "third", "far", "top", "bottom"] ["one", "other", "third", "far"] (defScope s_law_cross) := ⟨rfl, rfl, rfl, by decide +kernel, rfl, by decide +kernel, by decide +kernel⟩
abbrev s_law_looks : Stmt := topS 40
theorem sc_law_looks : FnScope ["box", "view", "told", "a", "b", "c", "d", "places", "k", "place", "one", "step", "other", "middle", "due"] ["box", "view", "told"] (defScope s_law_looks) := ⟨rfl, rfl, rfl, by decide +kernel, rfl, by decide +kernel, by decide +kernel⟩
abbrev s_law_lengths : Stmt := topS 41
theorem sc_law_lengths : FnScope ["box", "length", "known_length", "bar", "bars", "k", "handed", "pictured", "ground", "one", "other", "gaps", "worst"] ["box"] (defScope s_law_lengths) := ⟨rfl, rfl, rfl, by decide +kernel, rfl, by decide +kernel, by decide +kernel⟩
abbrev s_law : Stmt := topS 42
theorem sc_law : FnScope ["script", "box", "lap", "view", "ground", "picture", "place", "head", "part", "due", "ground_handed", "picture_handed", "one", "other", "third", "far", "at", "moved", "turned_round", "k", "paper", "alike", "flat"] ["script"] (defScope s_law) := ⟨rfl, rfl, rfl, by decide +kernel, rfl, by decide +kernel, by decide +kernel⟩
structure Top (K : Frg) (mg : Str → Option Value) : Prop where
  abs_ : mg "abs" = none
  bool_ : mg "bool" = none
  enumerate_ : mg "enumerate" = none
  int_ : mg "int" = none
  isinstance_ : mg "isinstance" = none
  len_ : mg "len" = none
  list_ : mg "list" = none
  range_ : mg "range" = none
  repr_ : mg "repr" = none
  str_ : mg "str" = none
  sum_ : mg "sum" = none
  tuple_ : mg "tuple" = none
  zip_ : mg "zip" = none
  gcd_ : mg "gcd" = some (.builtin "math.gcd")
  f_fraction : ∃ f fd, Fun K "fraction" "fraction" s_fraction f fd ∧ Binds K fd ["top", "bottom"] [] ∧ mg "fraction" = some (.ref f)
  f_plus : ∃ f fd, Fun K "plus" "plus" s_plus f fd ∧ Binds K fd ["one", "other"] [] ∧ mg "plus" = some (.ref f)
  f_minus : ∃ f fd, Fun K "minus" "minus" s_minus f fd ∧ Binds K fd ["one", "other"] [] ∧ mg "minus" = some (.ref f)
  f_times : ∃ f fd, Fun K "times" "times" s_times f fd ∧ Binds K fd ["one", "other"] [] ∧ mg "times" = some (.ref f)
  f_over : ∃ f fd, Fun K "over" "over" s_over f fd ∧ Binds K fd ["one", "other"] [] ∧ mg "over" = some (.ref f)
  f_is_less : ∃ f fd, Fun K "is_less" "is_less" s_is_less f fd ∧ Binds K fd ["one", "other"] [] ∧ mg "is_less" = some (.ref f)
  f_whole : ∃ f fd, Fun K "whole" "whole" s_whole f fd ∧ Binds K fd ["number"] [] ∧ mg "whole" = some (.ref f)
  f_by_scale : ∃ f fd, Fun K "by_scale" "by_scale" s_by_scale f fd ∧ Binds K fd ["length", "bar", "known"] [] ∧ mg "by_scale" = some (.ref f)
  f_cross_ratio : ∃ f fd, Fun K "cross_ratio" "cross_ratio" s_cross_ratio f fd ∧ Binds K fd ["one", "other", "third", "far"] [] ∧ mg "cross_ratio" = some (.ref f)
  f_same_line : ∃ f fd, Fun K "same_line" "same_line" s_same_line f fd ∧ Binds K fd ["ground", "picture"] [] ∧ mg "same_line" = some (.ref f)
  f_view_of : ∃ f fd, Fun K "view_of" "view_of" s_view_of f fd ∧ Binds K fd ["ground", "picture"] [] ∧ mg "view_of" = some (.ref f)
  f_null_row : ∃ f fd, Fun K "null_row" "null_row" s_null_row f fd ∧ Binds K fd ["rows"] [] ∧ mg "null_row" = some (.ref f)
  f_box_of : ∃ f fd, Fun K "box_of" "box_of" s_box_of f fd ∧ Binds K fd ["rows"] [] ∧ mg "box_of" = some (.ref f)
  f_scaled : ∃ f fd, Fun K "scaled" "scaled" s_scaled f fd ∧ Binds K fd ["row"] [] ∧ mg "scaled" = some (.ref f)
  f_seen_at : ∃ f fd, Fun K "seen_at" "seen_at" s_seen_at f fd ∧ Binds K fd ["view", "place"] [] ∧ mg "seen_at" = some (.ref f)
  f_ground_of : ∃ f fd, Fun K "ground_of" "ground_of" s_ground_of f fd ∧ Binds K fd ["view", "place"] [] ∧ mg "ground_of" = some (.ref f)
  f_horizon : ∃ f fd, Fun K "horizon" "horizon" s_horizon f fd ∧ Binds K fd ["view"] [] ∧ mg "horizon" = some (.ref f)
  f_depth_of : ∃ f fd, Fun K "depth_of" "depth_of" s_depth_of f fd ∧ Binds K fd ["base", "focus", "shift"] [] ∧ mg "depth_of" = some (.ref f)
  f_shadow_height : ∃ f fd, Fun K "shadow_height" "shadow_height" s_shadow_height f fd ∧ Binds K fd ["shadow", "stick", "length"] [] ∧ mg "shadow_height" = some (.ref f)
  f_mean_scale : ∃ f fd, Fun K "mean_scale" "mean_scale" s_mean_scale f fd ∧ Binds K fd ["bars"] [] ∧ mg "mean_scale" = some (.ref f)
  f_worst_bar : ∃ f fd, Fun K "worst_bar" "worst_bar" s_worst_bar f fd ∧ Binds K fd ["bars"] [] ∧ mg "worst_bar" = some (.ref f)
  f_middle_of : ∃ f fd, Fun K "middle_of" "middle_of" s_middle_of f fd ∧ Binds K fd ["view", "one", "other"] [] ∧ mg "middle_of" = some (.ref f)
  f_steps_seen : ∃ f fd, Fun K "steps_seen" "steps_seen" s_steps_seen f fd ∧ Binds K fd ["view", "start", "step", "many"] [] ∧ mg "steps_seen" = some (.ref f)
  f_law_cell : ∃ f fd, Fun K "_law_cell" "_law_cell" s_law_cell f fd ∧ Binds K fd ["script", "k"] [] ∧ mg "_law_cell" = some (.ref f)
  f_law_digits : ∃ f fd, Fun K "_law_digits" "_law_digits" s_law_digits f fd ∧ Binds K fd ["script", "first", "last"] [] ∧ mg "_law_digits" = some (.ref f)
  f_law_draw : ∃ f fd, Fun K "_law_draw" "_law_draw" s_law_draw f fd ∧ Binds K fd ["box", "many"] [] ∧ mg "_law_draw" = some (.ref f)
  f_law_same : ∃ f fd, Fun K "_law_same" "_law_same" s_law_same f fd ∧ Binds K fd ["told", "due"] [] ∧ mg "_law_same" = some (.ref f)
  f_law_mixed : ∃ f fd, Fun K "_law_mixed" "_law_mixed" s_law_mixed f fd ∧ Binds K fd ["box", "lot"] [] ∧ mg "_law_mixed" = some (.ref f)
  f_law_part : ∃ f fd, Fun K "_law_part" "_law_part" s_law_part f fd ∧ Binds K fd ["top", "bottom"] [] ∧ mg "_law_part" = some (.ref f)
  f_law_fraction : ∃ f fd, Fun K "_law_fraction" "_law_fraction" s_law_fraction f fd ∧ Binds K fd ["box", "size"] [] ∧ mg "_law_fraction" = some (.ref f)
  f_law_view : ∃ f fd, Fun K "_law_view" "_law_view" s_law_view f fd ∧ Binds K fd ["box"] [] ∧ mg "_law_view" = some (.ref f)
  f_law_seen : ∃ f fd, Fun K "_law_seen" "_law_seen" s_law_seen f fd ∧ Binds K fd ["numbers_there", "place"] [] ∧ mg "_law_seen" = some (.ref f)
  f_law_ground : ∃ f fd, Fun K "_law_ground" "_law_ground" s_law_ground f fd ∧ Binds K fd ["numbers_there", "place"] [] ∧ mg "_law_ground" = some (.ref f)
  f_law_places : ∃ f fd, Fun K "_law_places" "_law_places" s_law_places f fd ∧ Binds K fd ["box", "view", "many"] [] ∧ mg "_law_places" = some (.ref f)
  f_law_cross : ∃ f fd, Fun K "_law_cross" "_law_cross" s_law_cross f fd ∧ Binds K fd ["one", "other", "third", "far"] [] ∧ mg "_law_cross" = some (.ref f)
  f_law_looks : ∃ f fd, Fun K "_law_looks" "_law_looks" s_law_looks f fd ∧ Binds K fd ["box", "view", "told"] [] ∧ mg "_law_looks" = some (.ref f)
  f_law_lengths : ∃ f fd, Fun K "_law_lengths" "_law_lengths" s_law_lengths f fd ∧ Binds K fd ["box"] [] ∧ mg "_law_lengths" = some (.ref f)
  f_law : ∃ f fd, Fun K "law" "law" s_law f fd ∧ Binds K fd ["script"] [] ∧ mg "law" = some (.ref f)
section
variable {P : Program} {w : World} {K : Frg} {mg : Str → Option Value} {base : Heap}
noncomputable def d_fraction : Ev → Option Out := bCons (bAsg (eN gGcd (aCons (hV 0) (aCons (hV 1) aNil))) (gNm 2)) (bCons (bIf (tB' (e2 gLt (hV 1) (hE (eC (.int 0))))) (bAsg (e1 gNeg (hV 2)) (gNm 2)) (bNil)) (bRet (eTup (aCons (hE (e2 gDiv (hV 0) (hV 2))) (aCons (hE (e2 gDiv (hV 1) (hV 2))) aNil)))))
noncomputable def F_fraction : List D → Option (D × List D) := fnD [true, true] 3 d_fraction
theorem w_fraction (T : Top K mg) : FOk P w K mg base 1 "fraction" ["top", "bottom"] F_fraction := by
  obtain ⟨f, fd, FF, fb, fm⟩ := T.f_fraction
  have nd := sc_fraction.nd
  exact def_ok FF sc_fraction fb fm [0, 1] [true, true] 3 d_fraction rfl rfl (by decide) (by decide) fun cdv A outer s H E hr => dss_cons (ds_set 2 nd (de_bf cr_gcd on_gcd rfl T.gcd_ (da_cons (dh_var 0) (da_cons (dh_var 1) da_nil)))) (dss_cons (ds_if (dt_cmp op_lt o2_lt (dh_var 1) (dh_of (de_int)) (nomark _)) (dss_one (ds_set 2 nd (de_un un_neg o1_neg (dh_var 2)))) (dss_nil)) (dss_one (ds_ret (de_tup (da_cons (dh_of (de_op op_fdivX o2_div (dh_var 0) (dh_var 2))) (da_cons (dh_of (de_op op_fdivX o2_div (dh_var 1) (dh_var 2))) da_nil))))))
noncomputable def d_is_less : Ev → Option Out := bRet (e2 gLt (hE (e2 gMul (hE (e2 gIdx (hV 0) (hE (eC (.int 0))))) (hE (e2 gIdx (hV 1) (hE (eC (.int 1))))))) (hE (e2 gMul (hE (e2 gIdx (hV 1) (hE (eC (.int 0))))) (hE (e2 gIdx (hV 0) (hE (eC (.int 1))))))))
noncomputable def F_is_less : List D → Option (D × List D) := fnD [true, true] 2 d_is_less
theorem w_is_less (T : Top K mg) : FOk P w K mg base 1 "is_less" ["one", "other"] F_is_less := by
  obtain ⟨f, fd, FF, fb, fm⟩ := T.f_is_less
  have nd := sc_is_less.nd
  exact def_ok FF sc_is_less fb fm [0, 1] [true, true] 2 d_is_less rfl rfl (by decide) (by decide) fun cdv A outer s H E hr => dss_one (ds_ret (de_cmp op_lt o2_lt (dh_of (de_op op_mulA o2_mul (dh_of (de_ix ix_seq o2_idx (dh_var 0) (dh_of (de_int)) (fun _ _ => rfl))) (dh_of (de_ix ix_seq o2_idx (dh_var 1) (dh_of (de_int)) (fun _ _ => rfl))))) (dh_of (de_op op_mulA o2_mul (dh_of (de_ix ix_seq o2_idx (dh_var 1) (dh_of (de_int)) (fun _ _ => rfl))) (dh_of (de_ix ix_seq o2_idx (dh_var 0) (dh_of (de_int)) (fun _ _ => rfl))))) (nomark _)))
noncomputable def d_whole : Ev → Option Out := bRet (eTup (aCons (hE (eV 0)) (aCons (hE (eC (.int 1))) aNil)))
noncomputable def F_whole : List D → Option (D × List D) := fnD [true] 1 d_whole
theorem w_whole (T : Top K mg) : FOk P w K mg base 1 "whole" ["number"] F_whole := by
  obtain ⟨f, fd, FF, fb, fm⟩ := T.f_whole
  have nd := sc_whole.nd
  exact def_ok FF sc_whole fb fm [0] [true] 1 d_whole rfl rfl (by decide) (by decide) fun cdv A outer s H E hr => dss_one (ds_ret (de_tup (da_cons (dh_of (de_var 0)) (da_cons (dh_of (de_int)) da_nil))))
noncomputable def d_law_cell : Ev → Option Out := bCons (bIf (tB' (e2 gLt (hV 1) (hE (eN gLen (aCons (hV 0) aNil))))) (bRet (e2 gIdx (hV 0) (hV 1))) (bNil)) (bRet (eC (.int 0)))
noncomputable def F_law_cell : List D → Option (D × List D) := fnD [true, true] 2 d_law_cell
theorem w_law_cell (T : Top K mg) : FOk P w K mg base 1 "_law_cell" ["script", "k"] F_law_cell := by
  obtain ⟨f, fd, FF, fb, fm⟩ := T.f_law_cell
  have nd := sc_law_cell.nd
  exact def_ok FF sc_law_cell fb fm [0, 1] [true, true] 2 d_law_cell rfl rfl (by decide) (by decide) fun cdv A outer s H E hr => dss_cons (ds_if (dt_cmp op_lt o2_lt (dh_var 1) (dh_of (de_bi call_len on_len rfl T.len_ boot_len (da_cons (dh_var 0) da_nil))) (nomark _)) (dss_one (ds_ret (de_ix ix_seq o2_idx (dh_var 0) (dh_var 1) (fun _ _ => rfl)))) (dss_nil)) (dss_one (ds_ret (de_int)))
noncomputable def d_law_draw : Ev → Option Out := bCons (bAsg (e2 gAdd (hE (e2 gIdx (hV 0) (hE (eC (.int 1))))) (hE (eC (.int 1)))) (gIx 0 (hE (eC (.int 1))))) (bCons (bIf (tB' (e2 gGt (hE (e2 gIdx (hV 0) (hE (eC (.int 1))))) (hE (eN gLen (aCons (hE (e2 gIdx (hV 0) (hE (eC (.int 0))))) aNil))))) (bRet (e2 gMod (hE (eN gInt (aCons (hE (e2 gAdd (hE (e2 gAdd (hE (e2 gIdx (hE (e2 gIdx (hV 0) (hE (eC (.int 0))))) (hE (e2 gMod (hE (eN gInt (aCons (hE (e2 gMul (hE (e2 gIdx (hV 0) (hE (eC (.int 1))))) (hE (eC (.int 31))))) aNil))) (hE (eN gLen (aCons (hE (e2 gIdx (hV 0) (hE (eC (.int 0))))) aNil))))))) (hE (e2 gMul (hE (e2 gIdx (hV 0) (hE (eC (.int 1))))) (hE (eC (.int 7))))))) (hE (eC (.int 3))))) aNil))) (hV 1))) (bNil)) (bRet (e2 gMod (hE (eN gInt (aCons (hE (e2 gIdx (hE (e2 gIdx (hV 0) (hE (eC (.int 0))))) (hE (e2 gSubt (hE (e2 gIdx (hV 0) (hE (eC (.int 1))))) (hE (eC (.int 1))))))) aNil))) (hV 1))))
noncomputable def F_law_draw : List D → Option (D × List D) := fnD [true, true] 2 d_law_draw
theorem w_law_draw (T : Top K mg) : FOk P w K mg base 1 "_law_draw" ["box", "many"] F_law_draw := by
  obtain ⟨f, fd, FF, fb, fm⟩ := T.f_law_draw
  have nd := sc_law_draw.nd
  exact def_ok FF sc_law_draw fb fm [0, 1] [true, true] 2 d_law_draw rfl rfl (by decide) (by decide) fun cdv A outer s H E hr => dss_cons (ds_asg (de_op op_addA o2_add (dh_of (de_ix ix_seq o2_idx (dh_var 0) (dh_of (de_int)) (fun _ _ => rfl))) (dh_of (de_int))) (dg_ix 0 (dh_of (de_int)))) (dss_cons (ds_if (dt_cmp op_gt o2_gt (dh_of (de_ix ix_seq o2_idx (dh_var 0) (dh_of (de_int)) (fun _ _ => rfl))) (dh_of (de_bi call_len on_len rfl T.len_ boot_len (da_cons (dh_of (de_ix ix_seq o2_idx (dh_var 0) (dh_of (de_int)) (fun _ _ => rfl))) da_nil))) (nomark _)) (dss_one (ds_ret (de_op op_mod o2_mod (dh_of (de_ty call_intA on_int rfl T.int_ boot_int (da_cons (dh_of (de_op op_addA o2_add (dh_of (de_op op_addA o2_add (dh_of (de_ix ix_seq o2_idx (dh_of (de_ix ix_seq o2_idx (dh_var 0) (dh_of (de_int)) (fun _ _ => rfl))) (dh_of (de_op op_mod o2_mod (dh_of (de_ty call_intA on_int rfl T.int_ boot_int (da_cons (dh_of (de_op op_mulA o2_mul (dh_of (de_ix ix_seq o2_idx (dh_var 0) (dh_of (de_int)) (fun _ _ => rfl))) (dh_of (de_int)))) da_nil))) (dh_of (de_bi call_len on_len rfl T.len_ boot_len (da_cons (dh_of (de_ix ix_seq o2_idx (dh_var 0) (dh_of (de_int)) (fun _ _ => rfl))) da_nil))))) (fun _ _ => rfl))) (dh_of (de_op op_mulA o2_mul (dh_of (de_ix ix_seq o2_idx (dh_var 0) (dh_of (de_int)) (fun _ _ => rfl))) (dh_of (de_int)))))) (dh_of (de_int)))) da_nil))) (dh_var 1)))) (dss_nil)) (dss_one (ds_ret (de_op op_mod o2_mod (dh_of (de_ty call_intA on_int rfl T.int_ boot_int (da_cons (dh_of (de_ix ix_seq o2_idx (dh_of (de_ix ix_seq o2_idx (dh_var 0) (dh_of (de_int)) (fun _ _ => rfl))) (dh_of (de_op op_sub o2_sub (dh_of (de_ix ix_seq o2_idx (dh_var 0) (dh_of (de_int)) (fun _ _ => rfl))) (dh_of (de_int)))) (fun _ _ => rfl))) da_nil))) (dh_var 1)))))
noncomputable def d_law_part : Ev → Option Out := bCons (bPar 2 3 (aCons (hE (eN gAbs (aCons (hV 0) aNil))) (aCons (hE (eN gAbs (aCons (hV 1) aNil))) aNil))) (bCons (bWhile (tB' (e2 gGt (hV 3) (hE (eC (.int 0))))) (bPar 2 3 (aCons (hE (eV 3)) (aCons (hE (e2 gMod (hE (eN gInt (aCons (hV 2) aNil))) (hV 3))) aNil)))) (bCons (bIf (tB' (e2 gLt (hV 1) (hE (eC (.int 0))))) (bAsg (e1 gNeg (hV 2)) (gNm 2)) (bNil)) (bRet (eTup (aCons (hE (e2 gDiv (hV 0) (hV 2))) (aCons (hE (e2 gDiv (hV 1) (hV 2))) aNil))))))
noncomputable def F_law_part : List D → Option (D × List D) := fnD [true, true] 4 d_law_part
theorem w_law_part (T : Top K mg) : FOk P w K mg base 1 "_law_part" ["top", "bottom"] F_law_part := by
  obtain ⟨f, fd, FF, fb, fm⟩ := T.f_law_part
  have nd := sc_law_part.nd
  exact def_ok FF sc_law_part fb fm [0, 1] [true, true] 4 d_law_part rfl rfl (by decide) (by decide) fun cdv A outer s H E hr => dss_cons (ds_par 2 3 rfl nd (da_cons (dh_of (de_bi call_abs on_abs rfl T.abs_ boot_abs (da_cons (dh_var 0) da_nil))) (da_cons (dh_of (de_bi call_abs on_abs rfl T.abs_ boot_abs (da_cons (dh_var 1) da_nil))) da_nil))) (dss_cons (ds_while (dt_cmp op_gt o2_gt (dh_var 3) (dh_of (de_int)) (nomark _)) (dss_one (ds_par 2 3 rfl nd (da_cons (dh_of (de_var 3)) (da_cons (dh_of (de_op op_mod o2_mod (dh_of (de_ty call_intA on_int rfl T.int_ boot_int (da_cons (dh_var 2) da_nil))) (dh_var 3))) da_nil))))) (dss_cons (ds_if (dt_cmp op_lt o2_lt (dh_var 1) (dh_of (de_int)) (nomark _)) (dss_one (ds_set 2 nd (de_un un_neg o1_neg (dh_var 2)))) (dss_nil)) (dss_one (ds_ret (de_tup (da_cons (dh_of (de_op op_fdivX o2_div (dh_var 0) (dh_var 2))) (da_cons (dh_of (de_op op_fdivX o2_div (dh_var 1) (dh_var 2))) da_nil)))))))
noncomputable def d_plus : Ev → Option Out := bRet (eCall 2 F_fraction (aCons (hE (e2 gAdd (hE (e2 gMul (hE (e2 gIdx (hV 0) (hE (eC (.int 0))))) (hE (e2 gIdx (hV 1) (hE (eC (.int 1))))))) (hE (e2 gMul (hE (e2 gIdx (hV 1) (hE (eC (.int 0))))) (hE (e2 gIdx (hV 0) (hE (eC (.int 1))))))))) (aCons (hE (e2 gMul (hE (e2 gIdx (hV 0) (hE (eC (.int 1))))) (hE (e2 gIdx (hV 1) (hE (eC (.int 1))))))) aNil)))
noncomputable def F_plus : List D → Option (D × List D) := fnD [true, true] 2 d_plus
theorem w_plus (T : Top K mg) (h_fraction : FOk P w K mg base 1 "fraction" ["top", "bottom"] F_fraction) : FOk P w K mg base 2 "plus" ["one", "other"] F_plus := by
  obtain ⟨f, fd, FF, fb, fm⟩ := T.f_plus
  have nd := sc_plus.nd
  exact def_ok FF sc_plus fb fm [0, 1] [true, true] 2 d_plus rfl rfl (by decide) (by decide) fun cdv A outer s H E hr => dss_one (ds_ret (de_call h_fraction hr rfl (da_cons (dh_of (de_op op_addA o2_add (dh_of (de_op op_mulA o2_mul (dh_of (de_ix ix_seq o2_idx (dh_var 0) (dh_of (de_int)) (fun _ _ => rfl))) (dh_of (de_ix ix_seq o2_idx (dh_var 1) (dh_of (de_int)) (fun _ _ => rfl))))) (dh_of (de_op op_mulA o2_mul (dh_of (de_ix ix_seq o2_idx (dh_var 1) (dh_of (de_int)) (fun _ _ => rfl))) (dh_of (de_ix ix_seq o2_idx (dh_var 0) (dh_of (de_int)) (fun _ _ => rfl))))))) (da_cons (dh_of (de_op op_mulA o2_mul (dh_of (de_ix ix_seq o2_idx (dh_var 0) (dh_of (de_int)) (fun _ _ => rfl))) (dh_of (de_ix ix_seq o2_idx (dh_var 1) (dh_of (de_int)) (fun _ _ => rfl))))) da_nil))))
noncomputable def d_minus : Ev → Option Out := bRet (eCall 2 F_fraction (aCons (hE (e2 gSubt (hE (e2 gMul (hE (e2 gIdx (hV 0) (hE (eC (.int 0))))) (hE (e2 gIdx (hV 1) (hE (eC (.int 1))))))) (hE (e2 gMul (hE (e2 gIdx (hV 1) (hE (eC (.int 0))))) (hE (e2 gIdx (hV 0) (hE (eC (.int 1))))))))) (aCons (hE (e2 gMul (hE (e2 gIdx (hV 0) (hE (eC (.int 1))))) (hE (e2 gIdx (hV 1) (hE (eC (.int 1))))))) aNil)))
noncomputable def F_minus : List D → Option (D × List D) := fnD [true, true] 2 d_minus
theorem w_minus (T : Top K mg) (h_fraction : FOk P w K mg base 1 "fraction" ["top", "bottom"] F_fraction) : FOk P w K mg base 2 "minus" ["one", "other"] F_minus := by
  obtain ⟨f, fd, FF, fb, fm⟩ := T.f_minus
  have nd := sc_minus.nd
  exact def_ok FF sc_minus fb fm [0, 1] [true, true] 2 d_minus rfl rfl (by decide) (by decide) fun cdv A outer s H E hr => dss_one (ds_ret (de_call h_fraction hr rfl (da_cons (dh_of (de_op op_sub o2_sub (dh_of (de_op op_mulA o2_mul (dh_of (de_ix ix_seq o2_idx (dh_var 0) (dh_of (de_int)) (fun _ _ => rfl))) (dh_of (de_ix ix_seq o2_idx (dh_var 1) (dh_of (de_int)) (fun _ _ => rfl))))) (dh_of (de_op op_mulA o2_mul (dh_of (de_ix ix_seq o2_idx (dh_var 1) (dh_of (de_int)) (fun _ _ => rfl))) (dh_of (de_ix ix_seq o2_idx (dh_var 0) (dh_of (de_int)) (fun _ _ => rfl))))))) (da_cons (dh_of (de_op op_mulA o2_mul (dh_of (de_ix ix_seq o2_idx (dh_var 0) (dh_of (de_int)) (fun _ _ => rfl))) (dh_of (de_ix ix_seq o2_idx (dh_var 1) (dh_of (de_int)) (fun _ _ => rfl))))) da_nil))))
noncomputable def d_times : Ev → Option Out := bRet (eCall 2 F_fraction (aCons (hE (e2 gMul (hE (e2 gIdx (hV 0) (hE (eC (.int 0))))) (hE (e2 gIdx (hV 1) (hE (eC (.int 0))))))) (aCons (hE (e2 gMul (hE (e2 gIdx (hV 0) (hE (eC (.int 1))))) (hE (e2 gIdx (hV 1) (hE (eC (.int 1))))))) aNil)))
noncomputable def F_times : List D → Option (D × List D) := fnD [true, true] 2 d_times
theorem w_times (T : Top K mg) (h_fraction : FOk P w K mg base 1 "fraction" ["top", "bottom"] F_fraction) : FOk P w K mg base 2 "times" ["one", "other"] F_times := by
  obtain ⟨f, fd, FF, fb, fm⟩ := T.f_times
  have nd := sc_times.nd
  exact def_ok FF sc_times fb fm [0, 1] [true, true] 2 d_times rfl rfl (by decide) (by decide) fun cdv A outer s H E hr => dss_one (ds_ret (de_call h_fraction hr rfl (da_cons (dh_of (de_op op_mulA o2_mul (dh_of (de_ix ix_seq o2_idx (dh_var 0) (dh_of (de_int)) (fun _ _ => rfl))) (dh_of (de_ix ix_seq o2_idx (dh_var 1) (dh_of (de_int)) (fun _ _ => rfl))))) (da_cons (dh_of (de_op op_mulA o2_mul (dh_of (de_ix ix_seq o2_idx (dh_var 0) (dh_of (de_int)) (fun _ _ => rfl))) (dh_of (de_ix ix_seq o2_idx (dh_var 1) (dh_of (de_int)) (fun _ _ => rfl))))) da_nil))))
noncomputable def d_over : Ev → Option Out := bRet (eCall 2 F_fraction (aCons (hE (e2 gMul (hE (e2 gIdx (hV 0) (hE (eC (.int 0))))) (hE (e2 gIdx (hV 1) (hE (eC (.int 1))))))) (aCons (hE (e2 gMul (hE (e2 gIdx (hV 0) (hE (eC (.int 1))))) (hE (e2 gIdx (hV 1) (hE (eC (.int 0))))))) aNil)))
noncomputable def F_over : List D → Option (D × List D) := fnD [true, true] 2 d_over
theorem w_over (T : Top K mg) (h_fraction : FOk P w K mg base 1 "fraction" ["top", "bottom"] F_fraction) : FOk P w K mg base 2 "over" ["one", "other"] F_over := by
  obtain ⟨f, fd, FF, fb, fm⟩ := T.f_over
  have nd := sc_over.nd
  exact def_ok FF sc_over fb fm [0, 1] [true, true] 2 d_over rfl rfl (by decide) (by decide) fun cdv A outer s H E hr => dss_one (ds_ret (de_call h_fraction hr rfl (da_cons (dh_of (de_op op_mulA o2_mul (dh_of (de_ix ix_seq o2_idx (dh_var 0) (dh_of (de_int)) (fun _ _ => rfl))) (dh_of (de_ix ix_seq o2_idx (dh_var 1) (dh_of (de_int)) (fun _ _ => rfl))))) (da_cons (dh_of (de_op op_mulA o2_mul (dh_of (de_ix ix_seq o2_idx (dh_var 0) (dh_of (de_int)) (fun _ _ => rfl))) (dh_of (de_ix ix_seq o2_idx (dh_var 1) (dh_of (de_int)) (fun _ _ => rfl))))) da_nil))))
noncomputable def d_mean_scale : Ev → Option Out := bRet (eCall 2 F_fraction (aCons (hE (eN gSum (aCons (hE (eLc [1, 2] (iSq (hV 0)) (gTp 2 (gsCons (gNm 1) (gsCons (gNm 2) gsNil))) (tAll) (eV 2))) aNil))) (aCons (hE (eN gSum (aCons (hE (eLc [1, 2] (iSq (hV 0)) (gTp 2 (gsCons (gNm 1) (gsCons (gNm 2) gsNil))) (tAll) (eV 1))) aNil))) aNil)))
noncomputable def F_mean_scale : List D → Option (D × List D) := fnD [true] 3 d_mean_scale
theorem w_mean_scale (T : Top K mg) (h_fraction : FOk P w K mg base 1 "fraction" ["top", "bottom"] F_fraction) : FOk P w K mg base 2 "mean_scale" ["bars"] F_mean_scale := by
  obtain ⟨f, fd, FF, fb, fm⟩ := T.f_mean_scale
  have nd := sc_mean_scale.nd
  exact def_ok FF sc_mean_scale fb fm [0] [true] 3 d_mean_scale rfl rfl (by decide) (by decide) fun cdv A outer s H E hr => dss_one (ds_ret (de_call h_fraction hr rfl (da_cons (dh_of (de_bi (cr_sum rfl) on_sum rfl T.sum_ boot_sum (da_cons (dh_of (de_lc (own := [("length", 1), ("known", 2)]) [0, 1, 2] [0] 3 rfl nd rfl (di_any (dh_var 0) (hsl_var (by decide))) (blk_ok (by kernel_rfl)) (fun _ _ _ _ _ => dg_tup rfl (dgs_cons (dg_name 1 nd) (dgs_cons (dg_name 2 nd) dgs_nil))) (fun _ _ _ _ _ => dts_nil) (fun _ _ _ _ _ => de_var 2))) da_nil))) (da_cons (dh_of (de_bi (cr_sum rfl) on_sum rfl T.sum_ boot_sum (da_cons (dh_of (de_lc (own := [("length", 1), ("known", 2)]) [0, 1, 2] [0] 3 rfl nd rfl (di_any (dh_var 0) (hsl_var (by decide))) (blk_ok (by kernel_rfl)) (fun _ _ _ _ _ => dg_tup rfl (dgs_cons (dg_name 1 nd) (dgs_cons (dg_name 2 nd) dgs_nil))) (fun _ _ _ _ _ => dts_nil) (fun _ _ _ _ _ => de_var 1))) da_nil))) da_nil))))
noncomputable def d_law_digits : Ev → Option Out := bCons (bAsg (eLst (aNil)) (gNm 3)) (bCons (bFor (iRg2 (aCons (hV 1) (aCons (hV 2) aNil))) (gNm 4) (bCons (bAsg (eCall 2 F_law_cell (aCons (hV 0) (aCons (hV 4) aNil))) (gNm 5)) (bCons (bIf (tB' (e2 gLt (hV 5) (hE (eC (.int 0))))) (bAsg (e2 gSubt (hE (eC (.int 1))) (hE (e2 gMul (hE (eC (.int 2))) (hV 5)))) (gNm 5)) (bNil)) (bIf (tB' (e2 gGe (hV 5) (hE (e2 gPow (hE (eC (.int 10))) (hE (eC (.int 18))))))) (bFor (iRg1 (aCons (hE (eC (.int 60))) aNil)) (gNm 6) (bIf (tB' (e2 gGt (hV 5) (hE (eC (.int 0))))) (bCons (bExp (eMut 3 gApp (aCons (hE (e2 gMod (hE (eN gInt (aCons (hV 5) aNil))) (hE (eC (.int 1000))))) aNil))) (bAsg (e2 gDiv (hV 5) (hE (eC (.int 1000)))) (gNm 5))) (bNil))) (bCons (bAsg (e2 gMod (hE (eN gInt (aCons (hE (e2 gAdd (hE (e2 gAdd (hE (e2 gMul (hV 5) (hE (eC (.int 48271))))) (hE (e2 gMul (hV 4) (hE (eC (.int 69621))))))) (hE (eC (.int 11))))) aNil))) (hE (eC (.int 2147483647)))) (gNm 7)) (bFor (iRg1 (aCons (hE (eC (.int 12))) aNil)) (gNm 6) (bCons (bAsg (e2 gMod (hE (eN gInt (aCons (hE (e2 gAdd (hE (e2 gAdd (hE (e2 gMul (hV 7) (hE (eC (.int 16807))))) (hE (e2 gMul (hE (eC (.int 7))) (hV 6))))) (hE (eC (.int 1))))) aNil))) (hE (eC (.int 2147483647)))) (gNm 7)) (bExp (eMut 3 gApp (aCons (hE (e2 gMod (hE (eN gInt (aCons (hE (e2 gDiv (hV 7) (hE (eC (.int 997))))) aNil))) (hE (eC (.int 1000))))) aNil)))))))))) (bRet (eM 3)))
noncomputable def F_law_digits : List D → Option (D × List D) := fnD [true, true, true] 8 d_law_digits
theorem w_law_digits (T : Top K mg) (h_law_cell : FOk P w K mg base 1 "_law_cell" ["script", "k"] F_law_cell) : FOk P w K mg base 2 "_law_digits" ["script", "first", "last"] F_law_digits := by
  obtain ⟨f, fd, FF, fb, fm⟩ := T.f_law_digits
  have nd := sc_law_digits.nd
  exact def_ok FF sc_law_digits fb fm [0, 1, 2] [true, true, true] 8 d_law_digits rfl rfl (by decide) (by decide) fun cdv A outer s H E hr => dss_cons (ds_set 3 nd (de_lst (da_nil))) (dss_cons (ds_for [0, 1, 2] rfl (di_range2 rfl T.range_ (da_cons (dh_var 1) (da_cons (dh_var 2) da_nil))) (dg_name 4 nd) (dss_cons (ds_set 5 nd (de_call h_law_cell hr rfl (da_cons (dh_var 0) (da_cons (dh_var 4) da_nil)))) (dss_cons (ds_if (dt_cmp op_lt o2_lt (dh_var 5) (dh_of (de_int)) (nomark _)) (dss_one (ds_set 5 nd (de_op op_sub o2_sub (dh_of (de_int)) (dh_of (de_op op_mulA o2_mul (dh_of (de_int)) (dh_var 5)))))) (dss_nil)) (dss_one (ds_if (dt_cmp op_ge o2_ge (dh_var 5) (dh_of (de_op op_pow o2_pow (dh_of (de_int)) (dh_of (de_int)))) (nomark _)) (dss_one (ds_for [0, 1, 2] rfl (di_range1 rfl T.range_ (da_cons (dh_of (de_int)) da_nil)) (dg_name 6 nd) (dss_one (ds_if (dt_cmp op_gt o2_gt (dh_var 5) (dh_of (de_int)) (nomark _)) (dss_cons (ds_expr (de_mut 3 PySem.F.slot_list_append PySem.F.type_list_append mt_append mo_app (da_cons (dh_of (de_op op_mod o2_mod (dh_of (de_ty call_intA on_int rfl T.int_ boot_int (da_cons (dh_var 5) da_nil))) (dh_of (de_int)))) da_nil))) (dss_one (ds_set 5 nd (de_op op_fdivX o2_div (dh_var 5) (dh_of (de_int)))))) (dss_nil))))) (dss_cons (ds_set 7 nd (de_op op_mod o2_mod (dh_of (de_ty call_intA on_int rfl T.int_ boot_int (da_cons (dh_of (de_op op_addA o2_add (dh_of (de_op op_addA o2_add (dh_of (de_op op_mulA o2_mul (dh_var 5) (dh_of (de_int)))) (dh_of (de_op op_mulA o2_mul (dh_var 4) (dh_of (de_int)))))) (dh_of (de_int)))) da_nil))) (dh_of (de_int)))) (dss_one (ds_for [0, 1, 2] rfl (di_range1 rfl T.range_ (da_cons (dh_of (de_int)) da_nil)) (dg_name 6 nd) (dss_cons (ds_set 7 nd (de_op op_mod o2_mod (dh_of (de_ty call_intA on_int rfl T.int_ boot_int (da_cons (dh_of (de_op op_addA o2_add (dh_of (de_op op_addA o2_add (dh_of (de_op op_mulA o2_mul (dh_var 7) (dh_of (de_int)))) (dh_of (de_op op_mulA o2_mul (dh_of (de_int)) (dh_var 6))))) (dh_of (de_int)))) da_nil))) (dh_of (de_int)))) (dss_one (ds_expr (de_mut 3 PySem.F.slot_list_append PySem.F.type_list_append mt_append mo_app (da_cons (dh_of (de_op op_mod o2_mod (dh_of (de_ty call_intA on_int rfl T.int_ boot_int (da_cons (dh_of (de_op op_fdivX o2_div (dh_var 7) (dh_of (de_int)))) da_nil))) (dh_of (de_int)))) da_nil))))))))))))) (dss_one (ds_ret (de_mov 3))))
noncomputable def d_law_mixed : Ev → Option Out := bCons (bPar 2 3 (aCons (hE (eN gList (aCons (hV 1) aNil))) (aCons (hE (eLst (aNil))) aNil))) (bCons (bFor (iRg1 (aCons (hE (eN gLen (aCons (hV 1) aNil))) aNil)) (gNm 4) (bExp (eMut 3 gApp (aCons (hE (eFz (eMut 2 gPopAt (aCons (hE (eFz (eCall 2 F_law_draw (aCons (hV 0) (aCons (hE (eN gLen (aCons (hV 2) aNil))) aNil))))) aNil)))) aNil)))) (bRet (eM 3)))
noncomputable def F_law_mixed : List D → Option (D × List D) := fnD [true, true] 5 d_law_mixed
theorem w_law_mixed (T : Top K mg) (h_law_draw : FOk P w K mg base 1 "_law_draw" ["box", "many"] F_law_draw) : FOk P w K mg base 2 "_law_mixed" ["box", "lot"] F_law_mixed := by
  obtain ⟨f, fd, FF, fb, fm⟩ := T.f_law_mixed
  have nd := sc_law_mixed.nd
  exact def_ok FF sc_law_mixed fb fm [0, 1] [true, true] 5 d_law_mixed rfl rfl (by decide) (by decide) fun cdv A outer s H E hr => dss_cons (ds_par 2 3 rfl nd (da_cons (dh_of (de_ty call_list_of on_list rfl T.list_ boot_list (da_cons (dh_var 1) da_nil))) (da_cons (dh_of (de_lst (da_nil))) da_nil))) (dss_cons (ds_for [0, 1] rfl (di_range1 rfl T.range_ (da_cons (dh_of (de_bi call_len on_len rfl T.len_ boot_len (da_cons (dh_var 1) da_nil))) da_nil)) (dg_name 4 nd) (dss_one (ds_expr (de_mut 3 PySem.F.slot_list_append PySem.F.type_list_append mt_append mo_app (da_cons (dh_of (de_fz (de_mut 2 PySem.F.slot_list_pop PySem.F.type_list_pop mt_popAt mo_popAt (da_cons (dh_of (de_fz (de_call h_law_draw hr rfl (da_cons (dh_var 0) (da_cons (dh_of (de_bi call_len on_len rfl T.len_ boot_len (da_cons (dh_var 2) da_nil))) da_nil))))) da_nil)))) da_nil))))) (dss_one (ds_ret (de_mov 3))))
noncomputable def d_law_fraction : Ev → Option Out := bRet (eCall 2 F_law_part (aCons (hE (e2 gSubt (hE (eCall 2 F_law_draw (aCons (hV 0) (aCons (hE (e2 gAdd (hE (e2 gMul (hE (eC (.int 2))) (hV 1))) (hE (eC (.int 1))))) aNil)))) (hV 1))) (aCons (hE (eFz (e2 gAdd (hE (eC (.int 1))) (hE (eCall 2 F_law_draw (aCons (hV 0) (aCons (hE (eC (.int 3))) aNil))))))) aNil)))
noncomputable def F_law_fraction : List D → Option (D × List D) := fnD [true, true] 2 d_law_fraction
theorem w_law_fraction (T : Top K mg) (h_law_draw : FOk P w K mg base 1 "_law_draw" ["box", "many"] F_law_draw) (h_law_part : FOk P w K mg base 1 "_law_part" ["top", "bottom"] F_law_part) : FOk P w K mg base 2 "_law_fraction" ["box", "size"] F_law_fraction := by
  obtain ⟨f, fd, FF, fb, fm⟩ := T.f_law_fraction
  have nd := sc_law_fraction.nd
  exact def_ok FF sc_law_fraction fb fm [0, 1] [true, true] 2 d_law_fraction rfl rfl (by decide) (by decide) fun cdv A outer s H E hr => dss_one (ds_ret (de_call h_law_part hr rfl (da_cons (dh_of (de_op op_sub o2_sub (dh_of (de_call h_law_draw hr rfl (da_cons (dh_var 0) (da_cons (dh_of (de_op op_addA o2_add (dh_of (de_op op_mulA o2_mul (dh_of (de_int)) (dh_var 1))) (dh_of (de_int)))) da_nil)))) (dh_var 1))) (da_cons (dh_of (de_fz (de_op op_addA o2_add (dh_of (de_int)) (dh_of (de_call h_law_draw hr rfl (da_cons (dh_var 0) (da_cons (dh_of (de_int)) da_nil))))))) da_nil))))
noncomputable def d_law_view : Ev → Option Out := bCons (bFor (iRg1 (aCons (hE (eC (.int 30))) aNil)) (gNm 1) (bCons (bAsg (eLc [6] (iRg1 (aCons (hE (eC (.int 4))) aNil)) (gNm 6) (tAll) (e2 gSubt (hE (eCall 2 F_law_draw (aCons (hV 0) (aCons (hE (eC (.int 9))) aNil)))) (hE (eC (.int 4))))) (gTp 4 (gsCons (gNm 2) (gsCons (gNm 3) (gsCons (gNm 4) (gsCons (gNm 5) gsNil)))))) (bCons (bIf (tAn (tB' (e2 gEq (hV 1) (hE (eC (.int 0))))) (tB' (e2 gEq (hE (eCall 2 F_law_draw (aCons (hV 0) (aCons (hE (eC (.int 3))) aNil)))) (hE (eC (.int 0)))))) (bAsg (eC (.int 0)) (gNm 4)) (bNil)) (bIf (tB' (e2 gNe (hE (e2 gMul (hV 2) (hV 5))) (hE (e2 gMul (hV 3) (hV 4))))) (bRet (eTup (aCons (hE (eFz (eM 2))) (aCons (hE (eFz (eM 3))) (aCons (hE (eFz (eM 4))) (aCons (hE (eFz (eM 5))) aNil)))))) (bNil))))) (bRet (eTup (aCons (hE (eC (.int 2))) (aCons (hE (eC (.int 1))) (aCons (hE (eC (.int 1))) (aCons (hE (eC (.int 3))) aNil))))))
noncomputable def F_law_view : List D → Option (D × List D) := fnD [true] 7 d_law_view
theorem w_law_view (T : Top K mg) (h_law_draw : FOk P w K mg base 1 "_law_draw" ["box", "many"] F_law_draw) : FOk P w K mg base 2 "_law_view" ["box"] F_law_view := by
  obtain ⟨f, fd, FF, fb, fm⟩ := T.f_law_view
  have nd := sc_law_view.nd
  exact def_ok FF sc_law_view fb fm [0] [true] 7 d_law_view rfl rfl (by decide) (by decide) fun cdv A outer s H E hr => dss_cons (ds_for [0] rfl (di_range1 rfl T.range_ (da_cons (dh_of (de_int)) da_nil)) (dg_name 1 nd) (dss_cons (ds_asg (de_lc (own := [("k", 6)]) [0, 1, 2, 3, 4, 5, 6] [0, 1, 2, 3, 4, 5] 7 rfl nd rfl (di_range1 rfl T.range_ (da_cons (dh_of (de_int)) da_nil)) (blk_ok (by kernel_rfl)) (fun _ _ _ _ _ => dg_name 6 nd) (fun _ _ _ _ _ => dts_nil) (fun _ _ _ _ _ => de_op op_sub o2_sub (dh_of (de_call h_law_draw hr rfl (da_cons (dh_var 0) (da_cons (dh_of (de_int)) da_nil)))) (dh_of (de_int)))) (dg_tup rfl (dgs_cons (dg_name 2 nd) (dgs_cons (dg_name 3 nd) (dgs_cons (dg_name 4 nd) (dgs_cons (dg_name 5 nd) dgs_nil)))))) (dss_cons (ds_if (dt_w (dw_and (dt_cmp (op_eqA (hu64 hr)) o2_eq (dh_var 1) (dh_of (de_int)) (nomark _)) (dw_and1 (dt_cmp (op_eqA (hu64 hr)) o2_eq (dh_of (de_call h_law_draw hr rfl (da_cons (dh_var 0) (da_cons (dh_of (de_int)) da_nil)))) (dh_of (de_int)) (nomark _))))) (dss_one (ds_set 4 nd (de_int))) (dss_nil)) (dss_one (ds_if (dt_cmp (op_neA (hu64 hr)) o2_ne (dh_of (de_op op_mulA o2_mul (dh_var 2) (dh_var 5))) (dh_of (de_op op_mulA o2_mul (dh_var 3) (dh_var 4))) (nomark _)) (dss_one (ds_ret (de_tup (da_cons (dh_of (de_fz (de_mov 2))) (da_cons (dh_of (de_fz (de_mov 3))) (da_cons (dh_of (de_fz (de_mov 4))) (da_cons (dh_of (de_fz (de_mov 5))) da_nil))))))) (dss_nil)))))) (dss_one (ds_ret (de_tup (da_cons (dh_of (de_int)) (da_cons (dh_of (de_int)) (da_cons (dh_of (de_int)) (da_cons (dh_of (de_int)) da_nil)))))))
noncomputable def d_law_seen : Ev → Option Out := bCons (bAsg (eV 0) (gTp 4 (gsCons (gNm 2) (gsCons (gNm 3) (gsCons (gNm 4) (gsCons (gNm 5) gsNil)))))) (bCons (bAsg (e2 gAdd (hE (e2 gMul (hV 4) (hE (e2 gIdx (hV 1) (hE (eC (.int 0))))))) (hE (e2 gMul (hV 5) (hE (e2 gIdx (hV 1) (hE (eC (.int 1)))))))) (gNm 6)) (bCons (bIf (tB' (e2 gEq (hV 6) (hE (eC (.int 0))))) (bRet (eC .non)) (bNil)) (bRet (eCall 2 F_law_part (aCons (hE (e2 gAdd (hE (e2 gMul (hV 2) (hE (e2 gIdx (hV 1) (hE (eC (.int 0))))))) (hE (e2 gMul (hV 3) (hE (e2 gIdx (hV 1) (hE (eC (.int 1))))))))) (aCons (hV 6) aNil))))))
noncomputable def F_law_seen : List D → Option (D × List D) := fnD [true, true] 7 d_law_seen
theorem w_law_seen (T : Top K mg) (h_law_part : FOk P w K mg base 1 "_law_part" ["top", "bottom"] F_law_part) : FOk P w K mg base 2 "_law_seen" ["numbers_there", "place"] F_law_seen := by
  obtain ⟨f, fd, FF, fb, fm⟩ := T.f_law_seen
  have nd := sc_law_seen.nd
  exact def_ok FF sc_law_seen fb fm [0, 1] [true, true] 7 d_law_seen rfl rfl (by decide) (by decide) fun cdv A outer s H E hr => dss_cons (ds_asg (de_var 0) (dg_tup rfl (dgs_cons (dg_name 2 nd) (dgs_cons (dg_name 3 nd) (dgs_cons (dg_name 4 nd) (dgs_cons (dg_name 5 nd) dgs_nil)))))) (dss_cons (ds_set 6 nd (de_op op_addA o2_add (dh_of (de_op op_mulA o2_mul (dh_var 4) (dh_of (de_ix ix_seq o2_idx (dh_var 1) (dh_of (de_int)) (fun _ _ => rfl))))) (dh_of (de_op op_mulA o2_mul (dh_var 5) (dh_of (de_ix ix_seq o2_idx (dh_var 1) (dh_of (de_int)) (fun _ _ => rfl))))))) (dss_cons (ds_if (dt_cmp (op_eqA (hu64 hr)) o2_eq (dh_var 6) (dh_of (de_int)) (nomark _)) (dss_one (ds_ret (de_non))) (dss_nil)) (dss_one (ds_ret (de_call h_law_part hr rfl (da_cons (dh_of (de_op op_addA o2_add (dh_of (de_op op_mulA o2_mul (dh_var 2) (dh_of (de_ix ix_seq o2_idx (dh_var 1) (dh_of (de_int)) (fun _ _ => rfl))))) (dh_of (de_op op_mulA o2_mul (dh_var 3) (dh_of (de_ix ix_seq o2_idx (dh_var 1) (dh_of (de_int)) (fun _ _ => rfl))))))) (da_cons (dh_var 6) da_nil)))))))
noncomputable def d_law_ground : Ev → Option Out := bCons (bAsg (eV 0) (gTp 4 (gsCons (gNm 2) (gsCons (gNm 3) (gsCons (gNm 4) (gsCons (gNm 5) gsNil)))))) (bCons (bAsg (e2 gSubt (hE (e2 gMul (hV 2) (hE (e2 gIdx (hV 1) (hE (eC (.int 1))))))) (hE (e2 gMul (hV 4) (hE (e2 gIdx (hV 1) (hE (eC (.int 0)))))))) (gNm 6)) (bCons (bIf (tB' (e2 gEq (hV 6) (hE (eC (.int 0))))) (bRet (eC .non)) (bNil)) (bRet (eCall 2 F_law_part (aCons (hE (e2 gSubt (hE (e2 gMul (hV 5) (hE (e2 gIdx (hV 1) (hE (eC (.int 0))))))) (hE (e2 gMul (hV 3) (hE (e2 gIdx (hV 1) (hE (eC (.int 1))))))))) (aCons (hV 6) aNil))))))
noncomputable def F_law_ground : List D → Option (D × List D) := fnD [true, true] 7 d_law_ground
theorem w_law_ground (T : Top K mg) (h_law_part : FOk P w K mg base 1 "_law_part" ["top", "bottom"] F_law_part) : FOk P w K mg base 2 "_law_ground" ["numbers_there", "place"] F_law_ground := by
  obtain ⟨f, fd, FF, fb, fm⟩ := T.f_law_ground
  have nd := sc_law_ground.nd
  exact def_ok FF sc_law_ground fb fm [0, 1] [true, true] 7 d_law_ground rfl rfl (by decide) (by decide) fun cdv A outer s H E hr => dss_cons (ds_asg (de_var 0) (dg_tup rfl (dgs_cons (dg_name 2 nd) (dgs_cons (dg_name 3 nd) (dgs_cons (dg_name 4 nd) (dgs_cons (dg_name 5 nd) dgs_nil)))))) (dss_cons (ds_set 6 nd (de_op op_sub o2_sub (dh_of (de_op op_mulA o2_mul (dh_var 2) (dh_of (de_ix ix_seq o2_idx (dh_var 1) (dh_of (de_int)) (fun _ _ => rfl))))) (dh_of (de_op op_mulA o2_mul (dh_var 4) (dh_of (de_ix ix_seq o2_idx (dh_var 1) (dh_of (de_int)) (fun _ _ => rfl))))))) (dss_cons (ds_if (dt_cmp (op_eqA (hu64 hr)) o2_eq (dh_var 6) (dh_of (de_int)) (nomark _)) (dss_one (ds_ret (de_non))) (dss_nil)) (dss_one (ds_ret (de_call h_law_part hr rfl (da_cons (dh_of (de_op op_sub o2_sub (dh_of (de_op op_mulA o2_mul (dh_var 5) (dh_of (de_ix ix_seq o2_idx (dh_var 1) (dh_of (de_int)) (fun _ _ => rfl))))) (dh_of (de_op op_mulA o2_mul (dh_var 3) (dh_of (de_ix ix_seq o2_idx (dh_var 1) (dh_of (de_int)) (fun _ _ => rfl))))))) (da_cons (dh_var 6) da_nil)))))))
noncomputable def d_law_cross : Ev → Option Out := bCons (bAsg (e2 gMul (hE (e2 gMul (hE (e2 gMul (hE (e2 gSubt (hE (e2 gMul (hE (e2 gIdx (hV 2) (hE (eC (.int 0))))) (hE (e2 gIdx (hV 0) (hE (eC (.int 1))))))) (hE (e2 gMul (hE (e2 gIdx (hV 0) (hE (eC (.int 0))))) (hE (e2 gIdx (hV 2) (hE (eC (.int 1))))))))) (hE (e2 gIdx (hV 1) (hE (eC (.int 1))))))) (hE (e2 gSubt (hE (e2 gMul (hE (e2 gIdx (hV 3) (hE (eC (.int 0))))) (hE (e2 gIdx (hV 1) (hE (eC (.int 1))))))) (hE (e2 gMul (hE (e2 gIdx (hV 1) (hE (eC (.int 0))))) (hE (e2 gIdx (hV 3) (hE (eC (.int 1))))))))))) (hE (e2 gIdx (hV 0) (hE (eC (.int 1)))))) (gNm 4)) (bCons (bAsg (e2 gMul (hE (e2 gMul (hE (e2 gMul (hE (e2 gSubt (hE (e2 gMul (hE (e2 gIdx (hV 2) (hE (eC (.int 0))))) (hE (e2 gIdx (hV 1) (hE (eC (.int 1))))))) (hE (e2 gMul (hE (e2 gIdx (hV 1) (hE (eC (.int 0))))) (hE (e2 gIdx (hV 2) (hE (eC (.int 1))))))))) (hE (e2 gIdx (hV 0) (hE (eC (.int 1))))))) (hE (e2 gSubt (hE (e2 gMul (hE (e2 gIdx (hV 3) (hE (eC (.int 0))))) (hE (e2 gIdx (hV 0) (hE (eC (.int 1))))))) (hE (e2 gMul (hE (e2 gIdx (hV 0) (hE (eC (.int 0))))) (hE (e2 gIdx (hV 3) (hE (eC (.int 1))))))))))) (hE (e2 gIdx (hV 1) (hE (eC (.int 1)))))) (gNm 5)) (bRet (eCall 2 F_law_part (aCons (hV 4) (aCons (hV 5) aNil)))))
noncomputable def F_law_cross : List D → Option (D × List D) := fnD [true, true, true, true] 6 d_law_cross
theorem w_law_cross (T : Top K mg) (h_law_part : FOk P w K mg base 1 "_law_part" ["top", "bottom"] F_law_part) : FOk P w K mg base 2 "_law_cross" ["one", "other", "third", "far"] F_law_cross := by
  obtain ⟨f, fd, FF, fb, fm⟩ := T.f_law_cross
  have nd := sc_law_cross.nd
  exact def_ok FF sc_law_cross fb fm [0, 1, 2, 3] [true, true, true, true] 6 d_law_cross rfl rfl (by decide) (by decide) fun cdv A outer s H E hr => dss_cons (ds_set 4 nd (de_op op_mulA o2_mul (dh_of (de_op op_mulA o2_mul (dh_of (de_op op_mulA o2_mul (dh_of (de_op op_sub o2_sub (dh_of (de_op op_mulA o2_mul (dh_of (de_ix ix_seq o2_idx (dh_var 2) (dh_of (de_int)) (fun _ _ => rfl))) (dh_of (de_ix ix_seq o2_idx (dh_var 0) (dh_of (de_int)) (fun _ _ => rfl))))) (dh_of (de_op op_mulA o2_mul (dh_of (de_ix ix_seq o2_idx (dh_var 0) (dh_of (de_int)) (fun _ _ => rfl))) (dh_of (de_ix ix_seq o2_idx (dh_var 2) (dh_of (de_int)) (fun _ _ => rfl))))))) (dh_of (de_ix ix_seq o2_idx (dh_var 1) (dh_of (de_int)) (fun _ _ => rfl))))) (dh_of (de_op op_sub o2_sub (dh_of (de_op op_mulA o2_mul (dh_of (de_ix ix_seq o2_idx (dh_var 3) (dh_of (de_int)) (fun _ _ => rfl))) (dh_of (de_ix ix_seq o2_idx (dh_var 1) (dh_of (de_int)) (fun _ _ => rfl))))) (dh_of (de_op op_mulA o2_mul (dh_of (de_ix ix_seq o2_idx (dh_var 1) (dh_of (de_int)) (fun _ _ => rfl))) (dh_of (de_ix ix_seq o2_idx (dh_var 3) (dh_of (de_int)) (fun _ _ => rfl))))))))) (dh_of (de_ix ix_seq o2_idx (dh_var 0) (dh_of (de_int)) (fun _ _ => rfl))))) (dss_cons (ds_set 5 nd (de_op op_mulA o2_mul (dh_of (de_op op_mulA o2_mul (dh_of (de_op op_mulA o2_mul (dh_of (de_op op_sub o2_sub (dh_of (de_op op_mulA o2_mul (dh_of (de_ix ix_seq o2_idx (dh_var 2) (dh_of (de_int)) (fun _ _ => rfl))) (dh_of (de_ix ix_seq o2_idx (dh_var 1) (dh_of (de_int)) (fun _ _ => rfl))))) (dh_of (de_op op_mulA o2_mul (dh_of (de_ix ix_seq o2_idx (dh_var 1) (dh_of (de_int)) (fun _ _ => rfl))) (dh_of (de_ix ix_seq o2_idx (dh_var 2) (dh_of (de_int)) (fun _ _ => rfl))))))) (dh_of (de_ix ix_seq o2_idx (dh_var 0) (dh_of (de_int)) (fun _ _ => rfl))))) (dh_of (de_op op_sub o2_sub (dh_of (de_op op_mulA o2_mul (dh_of (de_ix ix_seq o2_idx (dh_var 3) (dh_of (de_int)) (fun _ _ => rfl))) (dh_of (de_ix ix_seq o2_idx (dh_var 0) (dh_of (de_int)) (fun _ _ => rfl))))) (dh_of (de_op op_mulA o2_mul (dh_of (de_ix ix_seq o2_idx (dh_var 0) (dh_of (de_int)) (fun _ _ => rfl))) (dh_of (de_ix ix_seq o2_idx (dh_var 3) (dh_of (de_int)) (fun _ _ => rfl))))))))) (dh_of (de_ix ix_seq o2_idx (dh_var 1) (dh_of (de_int)) (fun _ _ => rfl))))) (dss_one (ds_ret (de_call h_law_part hr rfl (da_cons (dh_var 4) (da_cons (dh_var 5) da_nil))))))
noncomputable def d_by_scale : Ev → Option Out := bRet (eCall 2 F_over (aCons (hE (eFz (eCall 2 F_times (aCons (hV 0) (aCons (hV 2) aNil))))) (aCons (hV 1) aNil)))
noncomputable def F_by_scale : List D → Option (D × List D) := fnD [true, true, true] 3 d_by_scale
theorem w_by_scale (T : Top K mg) (h_times : FOk P w K mg base 2 "times" ["one", "other"] F_times) (h_over : FOk P w K mg base 2 "over" ["one", "other"] F_over) : FOk P w K mg base 3 "by_scale" ["length", "bar", "known"] F_by_scale := by
  obtain ⟨f, fd, FF, fb, fm⟩ := T.f_by_scale
  have nd := sc_by_scale.nd
  exact def_ok FF sc_by_scale fb fm [0, 1, 2] [true, true, true] 3 d_by_scale rfl rfl (by decide) (by decide) fun cdv A outer s H E hr => dss_one (ds_ret (de_call h_over hr rfl (da_cons (dh_of (de_fz (de_call h_times hr rfl (da_cons (dh_var 0) (da_cons (dh_var 2) da_nil))))) (da_cons (dh_var 1) da_nil))))
noncomputable def d_cross_ratio : Ev → Option Out := bCons (bAsg (eCall 2 F_over (aCons (hE (eFz (eCall 2 F_minus (aCons (hV 2) (aCons (hV 0) aNil))))) (aCons (hE (eFz (eCall 2 F_minus (aCons (hV 2) (aCons (hV 1) aNil))))) aNil))) (gNm 4)) (bRet (eCall 2 F_over (aCons (hV 4) (aCons (hE (eFz (eCall 2 F_over (aCons (hE (eFz (eCall 2 F_minus (aCons (hV 3) (aCons (hV 0) aNil))))) (aCons (hE (eFz (eCall 2 F_minus (aCons (hV 3) (aCons (hV 1) aNil))))) aNil))))) aNil))))
noncomputable def F_cross_ratio : List D → Option (D × List D) := fnD [true, true, true, true] 5 d_cross_ratio
theorem w_cross_ratio (T : Top K mg) (h_minus : FOk P w K mg base 2 "minus" ["one", "other"] F_minus) (h_over : FOk P w K mg base 2 "over" ["one", "other"] F_over) : FOk P w K mg base 3 "cross_ratio" ["one", "other", "third", "far"] F_cross_ratio := by
  obtain ⟨f, fd, FF, fb, fm⟩ := T.f_cross_ratio
  have nd := sc_cross_ratio.nd
  exact def_ok FF sc_cross_ratio fb fm [0, 1, 2, 3] [true, true, true, true] 5 d_cross_ratio rfl rfl (by decide) (by decide) fun cdv A outer s H E hr => dss_cons (ds_set 4 nd (de_call h_over hr rfl (da_cons (dh_of (de_fz (de_call h_minus hr rfl (da_cons (dh_var 2) (da_cons (dh_var 0) da_nil))))) (da_cons (dh_of (de_fz (de_call h_minus hr rfl (da_cons (dh_var 2) (da_cons (dh_var 1) da_nil))))) da_nil)))) (dss_one (ds_ret (de_call h_over hr rfl (da_cons (dh_var 4) (da_cons (dh_of (de_fz (de_call h_over hr rfl (da_cons (dh_of (de_fz (de_call h_minus hr rfl (da_cons (dh_var 3) (da_cons (dh_var 0) da_nil))))) (da_cons (dh_of (de_fz (de_call h_minus hr rfl (da_cons (dh_var 3) (da_cons (dh_var 1) da_nil))))) da_nil))))) da_nil)))))
noncomputable def d_box_of : Ev → Option Out := bCons (bAsg (eV 0) (gTp 3 (gsCons (gTp 3 (gsCons (gNm 1) (gsCons (gNm 2) (gsCons (gNm 3) gsNil)))) (gsCons (gTp 3 (gsCons (gNm 4) (gsCons (gNm 5) (gsCons (gNm 6) gsNil)))) (gsCons (gTp 3 (gsCons (gNm 7) (gsCons (gNm 8) (gsCons (gNm 9) gsNil)))) gsNil))))) (bCons (bAsg (eCall 2 F_times (aCons (hV 1) (aCons (hE (eFz (eCall 2 F_minus (aCons (hE (eFz (eCall 2 F_times (aCons (hV 5) (aCons (hV 9) aNil))))) (aCons (hE (eFz (eCall 2 F_times (aCons (hV 6) (aCons (hV 8) aNil))))) aNil))))) aNil))) (gNm 10)) (bCons (bAsg (eCall 2 F_times (aCons (hV 2) (aCons (hE (eFz (eCall 2 F_minus (aCons (hE (eFz (eCall 2 F_times (aCons (hV 4) (aCons (hV 9) aNil))))) (aCons (hE (eFz (eCall 2 F_times (aCons (hV 6) (aCons (hV 7) aNil))))) aNil))))) aNil))) (gNm 11)) (bRet (eCall 2 F_plus (aCons (hE (eFz (eCall 2 F_minus (aCons (hV 10) (aCons (hV 11) aNil))))) (aCons (hE (eFz (eCall 2 F_times (aCons (hV 3) (aCons (hE (eFz (eCall 2 F_minus (aCons (hE (eFz (eCall 2 F_times (aCons (hV 4) (aCons (hV 8) aNil))))) (aCons (hE (eFz (eCall 2 F_times (aCons (hV 5) (aCons (hV 7) aNil))))) aNil))))) aNil))))) aNil))))))
noncomputable def F_box_of : List D → Option (D × List D) := fnD [true] 12 d_box_of
theorem w_box_of (T : Top K mg) (h_plus : FOk P w K mg base 2 "plus" ["one", "other"] F_plus) (h_minus : FOk P w K mg base 2 "minus" ["one", "other"] F_minus) (h_times : FOk P w K mg base 2 "times" ["one", "other"] F_times) : FOk P w K mg base 3 "box_of" ["rows"] F_box_of := by
  obtain ⟨f, fd, FF, fb, fm⟩ := T.f_box_of
  have nd := sc_box_of.nd
  exact def_ok FF sc_box_of fb fm [0] [true] 12 d_box_of rfl rfl (by decide) (by decide) fun cdv A outer s H E hr => dss_cons (ds_asg (de_var 0) (dg_tup rfl (dgs_cons (dg_tup rfl (dgs_cons (dg_name 1 nd) (dgs_cons (dg_name 2 nd) (dgs_cons (dg_name 3 nd) dgs_nil)))) (dgs_cons (dg_tup rfl (dgs_cons (dg_name 4 nd) (dgs_cons (dg_name 5 nd) (dgs_cons (dg_name 6 nd) dgs_nil)))) (dgs_cons (dg_tup rfl (dgs_cons (dg_name 7 nd) (dgs_cons (dg_name 8 nd) (dgs_cons (dg_name 9 nd) dgs_nil)))) dgs_nil))))) (dss_cons (ds_set 10 nd (de_call h_times hr rfl (da_cons (dh_var 1) (da_cons (dh_of (de_fz (de_call h_minus hr rfl (da_cons (dh_of (de_fz (de_call h_times hr rfl (da_cons (dh_var 5) (da_cons (dh_var 9) da_nil))))) (da_cons (dh_of (de_fz (de_call h_times hr rfl (da_cons (dh_var 6) (da_cons (dh_var 8) da_nil))))) da_nil))))) da_nil)))) (dss_cons (ds_set 11 nd (de_call h_times hr rfl (da_cons (dh_var 2) (da_cons (dh_of (de_fz (de_call h_minus hr rfl (da_cons (dh_of (de_fz (de_call h_times hr rfl (da_cons (dh_var 4) (da_cons (dh_var 9) da_nil))))) (da_cons (dh_of (de_fz (de_call h_times hr rfl (da_cons (dh_var 6) (da_cons (dh_var 7) da_nil))))) da_nil))))) da_nil)))) (dss_one (ds_ret (de_call h_plus hr rfl (da_cons (dh_of (de_fz (de_call h_minus hr rfl (da_cons (dh_var 10) (da_cons (dh_var 11) da_nil))))) (da_cons (dh_of (de_fz (de_call h_times hr rfl (da_cons (dh_var 3) (da_cons (dh_of (de_fz (de_call h_minus hr rfl (da_cons (dh_of (de_fz (de_call h_times hr rfl (da_cons (dh_var 4) (da_cons (dh_var 8) da_nil))))) (da_cons (dh_of (de_fz (de_call h_times hr rfl (da_cons (dh_var 5) (da_cons (dh_var 7) da_nil))))) da_nil))))) da_nil))))) da_nil)))))))
noncomputable def d_scaled : Ev → Option Out := bCons (bAsg (e2 gIdx (hE (eLc [2] (iSq (hV 0)) (gNm 2) (tB' (e2 gNe (hE (e2 gIdx (hV 2) (hE (eC (.int 0))))) (hE (eC (.int 0))))) (eV 2))) (hE (eC (.int 0)))) (gNm 1)) (bRet (eN gTuple (aCons (hE (eLc [2] (iSq (hV 0)) (gNm 2) (tAll) (eFz (eCall 2 F_over (aCons (hV 2) (aCons (hV 1) aNil)))))) aNil)))
noncomputable def F_scaled : List D → Option (D × List D) := fnD [true] 3 d_scaled
theorem w_scaled (T : Top K mg) (h_over : FOk P w K mg base 2 "over" ["one", "other"] F_over) : FOk P w K mg base 3 "scaled" ["row"] F_scaled := by
  obtain ⟨f, fd, FF, fb, fm⟩ := T.f_scaled
  have nd := sc_scaled.nd
  exact def_ok FF sc_scaled fb fm [0] [true] 3 d_scaled rfl rfl (by decide) (by decide) fun cdv A outer s H E hr => dss_cons (ds_set 1 nd (de_ix ix_seq o2_idx (dh_of (de_lc (own := [("part", 2)]) [0, 1, 2] [0, 1] 3 rfl nd rfl (di_any (dh_var 0) (hsl_var (by decide))) (blk_ok (by kernel_rfl)) (fun _ _ _ _ _ => dg_name 2 nd) (fun _ _ _ _ _ => dts_one (dt_cmp (op_neA (hu64 hr)) o2_ne (dh_of (de_ix ix_seq o2_idx (dh_var 2) (dh_of (de_int)) (fun _ _ => rfl))) (dh_of (de_int)) (nomark _))) (fun _ _ _ _ _ => de_var 2))) (dh_of (de_int)) (fun _ _ => rfl))) (dss_one (ds_ret (de_ty call_tuple_of on_tuple rfl T.tuple_ boot_tuple (da_cons (dh_of (de_lc (own := [("part", 2)]) [0, 1, 2] [0, 1] 3 rfl nd rfl (di_any (dh_var 0) (hsl_var (by decide))) (blk_ok (by kernel_rfl)) (fun _ _ _ _ _ => dg_name 2 nd) (fun _ _ _ _ _ => dts_nil) (fun _ _ _ _ _ => de_fz (de_call h_over hr rfl (da_cons (dh_var 2) (da_cons (dh_var 1) da_nil)))))) da_nil))))
noncomputable def d_seen_at : Ev → Option Out := bCons (bAsg (eV 0) (gTp 4 (gsCons (gNm 2) (gsCons (gNm 3) (gsCons (gNm 4) (gsCons (gNm 5) gsNil)))))) (bCons (bAsg (eCall 2 F_plus (aCons (hE (eFz (eCall 2 F_times (aCons (hV 4) (aCons (hV 1) aNil))))) (aCons (hV 5) aNil))) (gNm 6)) (bRet (eIf (tB' (e2 gNe (hE (e2 gIdx (hV 6) (hE (eC (.int 0))))) (hE (eC (.int 0))))) (eCall 2 F_over (aCons (hE (eFz (eCall 2 F_plus (aCons (hE (eFz (eCall 2 F_times (aCons (hV 2) (aCons (hV 1) aNil))))) (aCons (hV 3) aNil))))) (aCons (hV 6) aNil))) (eC .non))))
noncomputable def F_seen_at : List D → Option (D × List D) := fnD [true, true] 7 d_seen_at
theorem w_seen_at (T : Top K mg) (h_plus : FOk P w K mg base 2 "plus" ["one", "other"] F_plus) (h_times : FOk P w K mg base 2 "times" ["one", "other"] F_times) (h_over : FOk P w K mg base 2 "over" ["one", "other"] F_over) : FOk P w K mg base 3 "seen_at" ["view", "place"] F_seen_at := by
  obtain ⟨f, fd, FF, fb, fm⟩ := T.f_seen_at
  have nd := sc_seen_at.nd
  exact def_ok FF sc_seen_at fb fm [0, 1] [true, true] 7 d_seen_at rfl rfl (by decide) (by decide) fun cdv A outer s H E hr => dss_cons (ds_asg (de_var 0) (dg_tup rfl (dgs_cons (dg_name 2 nd) (dgs_cons (dg_name 3 nd) (dgs_cons (dg_name 4 nd) (dgs_cons (dg_name 5 nd) dgs_nil)))))) (dss_cons (ds_set 6 nd (de_call h_plus hr rfl (da_cons (dh_of (de_fz (de_call h_times hr rfl (da_cons (dh_var 4) (da_cons (dh_var 1) da_nil))))) (da_cons (dh_var 5) da_nil)))) (dss_one (ds_ret (de_if (dt_cmp (op_neA (hu64 hr)) o2_ne (dh_of (de_ix ix_seq o2_idx (dh_var 6) (dh_of (de_int)) (fun _ _ => rfl))) (dh_of (de_int)) (nomark _)) (de_call h_over hr rfl (da_cons (dh_of (de_fz (de_call h_plus hr rfl (da_cons (dh_of (de_fz (de_call h_times hr rfl (da_cons (dh_var 2) (da_cons (dh_var 1) da_nil))))) (da_cons (dh_var 3) da_nil))))) (da_cons (dh_var 6) da_nil))) (de_non)))))
noncomputable def d_ground_of : Ev → Option Out := bCons (bAsg (eV 0) (gTp 4 (gsCons (gNm 2) (gsCons (gNm 3) (gsCons (gNm 4) (gsCons (gNm 5) gsNil)))))) (bCons (bAsg (eCall 2 F_minus (aCons (hV 2) (aCons (hE (eFz (eCall 2 F_times (aCons (hV 4) (aCons (hV 1) aNil))))) aNil))) (gNm 6)) (bRet (eIf (tB' (e2 gNe (hE (e2 gIdx (hV 6) (hE (eC (.int 0))))) (hE (eC (.int 0))))) (eCall 2 F_over (aCons (hE (eFz (eCall 2 F_minus (aCons (hE (eFz (eCall 2 F_times (aCons (hV 5) (aCons (hV 1) aNil))))) (aCons (hV 3) aNil))))) (aCons (hV 6) aNil))) (eC .non))))
noncomputable def F_ground_of : List D → Option (D × List D) := fnD [true, true] 7 d_ground_of
theorem w_ground_of (T : Top K mg) (h_minus : FOk P w K mg base 2 "minus" ["one", "other"] F_minus) (h_times : FOk P w K mg base 2 "times" ["one", "other"] F_times) (h_over : FOk P w K mg base 2 "over" ["one", "other"] F_over) : FOk P w K mg base 3 "ground_of" ["view", "place"] F_ground_of := by
  obtain ⟨f, fd, FF, fb, fm⟩ := T.f_ground_of
  have nd := sc_ground_of.nd
  exact def_ok FF sc_ground_of fb fm [0, 1] [true, true] 7 d_ground_of rfl rfl (by decide) (by decide) fun cdv A outer s H E hr => dss_cons (ds_asg (de_var 0) (dg_tup rfl (dgs_cons (dg_name 2 nd) (dgs_cons (dg_name 3 nd) (dgs_cons (dg_name 4 nd) (dgs_cons (dg_name 5 nd) dgs_nil)))))) (dss_cons (ds_set 6 nd (de_call h_minus hr rfl (da_cons (dh_var 2) (da_cons (dh_of (de_fz (de_call h_times hr rfl (da_cons (dh_var 4) (da_cons (dh_var 1) da_nil))))) da_nil)))) (dss_one (ds_ret (de_if (dt_cmp (op_neA (hu64 hr)) o2_ne (dh_of (de_ix ix_seq o2_idx (dh_var 6) (dh_of (de_int)) (fun _ _ => rfl))) (dh_of (de_int)) (nomark _)) (de_call h_over hr rfl (da_cons (dh_of (de_fz (de_call h_minus hr rfl (da_cons (dh_of (de_fz (de_call h_times hr rfl (da_cons (dh_var 5) (da_cons (dh_var 1) da_nil))))) (da_cons (dh_var 3) da_nil))))) (da_cons (dh_var 6) da_nil))) (de_non)))))
noncomputable def d_horizon : Ev → Option Out := bRet (eIf (tB' (e2 gNe (hE (e2 gIdx (hE (e2 gIdx (hV 0) (hE (eC (.int 2))))) (hE (eC (.int 0))))) (hE (eC (.int 0))))) (eCall 2 F_over (aCons (hE (e2 gIdx (hV 0) (hE (eC (.int 0))))) (aCons (hE (e2 gIdx (hV 0) (hE (eC (.int 2))))) aNil))) (eC .non))
noncomputable def F_horizon : List D → Option (D × List D) := fnD [true] 1 d_horizon
theorem w_horizon (T : Top K mg) (h_over : FOk P w K mg base 2 "over" ["one", "other"] F_over) : FOk P w K mg base 3 "horizon" ["view"] F_horizon := by
  obtain ⟨f, fd, FF, fb, fm⟩ := T.f_horizon
  have nd := sc_horizon.nd
  exact def_ok FF sc_horizon fb fm [0] [true] 1 d_horizon rfl rfl (by decide) (by decide) fun cdv A outer s H E hr => dss_one (ds_ret (de_if (dt_cmp (op_neA (hu64 hr)) o2_ne (dh_of (de_ix ix_seq o2_idx (dh_of (de_ix ix_seq o2_idx (dh_var 0) (dh_of (de_int)) (fun _ _ => rfl))) (dh_of (de_int)) (fun _ _ => rfl))) (dh_of (de_int)) (nomark _)) (de_call h_over hr rfl (da_cons (dh_of (de_ix ix_seq o2_idx (dh_var 0) (dh_of (de_int)) (fun _ _ => rfl))) (da_cons (dh_of (de_ix ix_seq o2_idx (dh_var 0) (dh_of (de_int)) (fun _ _ => rfl))) da_nil))) (de_non)))
noncomputable def d_depth_of : Ev → Option Out := bRet (eCall 2 F_over (aCons (hE (eFz (eCall 2 F_times (aCons (hV 0) (aCons (hV 1) aNil))))) (aCons (hV 2) aNil)))
noncomputable def F_depth_of : List D → Option (D × List D) := fnD [true, true, true] 3 d_depth_of
theorem w_depth_of (T : Top K mg) (h_times : FOk P w K mg base 2 "times" ["one", "other"] F_times) (h_over : FOk P w K mg base 2 "over" ["one", "other"] F_over) : FOk P w K mg base 3 "depth_of" ["base", "focus", "shift"] F_depth_of := by
  obtain ⟨f, fd, FF, fb, fm⟩ := T.f_depth_of
  have nd := sc_depth_of.nd
  exact def_ok FF sc_depth_of fb fm [0, 1, 2] [true, true, true] 3 d_depth_of rfl rfl (by decide) (by decide) fun cdv A outer s H E hr => dss_one (ds_ret (de_call h_over hr rfl (da_cons (dh_of (de_fz (de_call h_times hr rfl (da_cons (dh_var 0) (da_cons (dh_var 1) da_nil))))) (da_cons (dh_var 2) da_nil))))
noncomputable def d_shadow_height : Ev → Option Out := bRet (eCall 2 F_over (aCons (hE (eFz (eCall 2 F_times (aCons (hV 1) (aCons (hV 0) aNil))))) (aCons (hV 2) aNil)))
noncomputable def F_shadow_height : List D → Option (D × List D) := fnD [true, true, true] 3 d_shadow_height
theorem w_shadow_height (T : Top K mg) (h_times : FOk P w K mg base 2 "times" ["one", "other"] F_times) (h_over : FOk P w K mg base 2 "over" ["one", "other"] F_over) : FOk P w K mg base 3 "shadow_height" ["shadow", "stick", "length"] F_shadow_height := by
  obtain ⟨f, fd, FF, fb, fm⟩ := T.f_shadow_height
  have nd := sc_shadow_height.nd
  exact def_ok FF sc_shadow_height fb fm [0, 1, 2] [true, true, true] 3 d_shadow_height rfl rfl (by decide) (by decide) fun cdv A outer s H E hr => dss_one (ds_ret (de_call h_over hr rfl (da_cons (dh_of (de_fz (de_call h_times hr rfl (da_cons (dh_var 1) (da_cons (dh_var 0) da_nil))))) (da_cons (dh_var 2) da_nil))))
noncomputable def d_worst_bar : Ev → Option Out := bCons (bAsg (eCall 1 F_mean_scale (aCons (hV 0) aNil)) (gNm 1)) (bCons (bAsg (eC .non) (gNm 2)) (bCons (bFor (iEn (aCons (hV 0) aNil)) (gTp 2 (gsCons (gNm 3) (gsCons (gTp 2 (gsCons (gNm 4) (gsCons (gNm 5) gsNil))) gsNil))) (bCons (bAsg (eCall 2 F_minus (aCons (hE (eFz (eCall 2 F_fraction (aCons (hV 5) (aCons (hV 4) aNil))))) (aCons (hV 1) aNil))) (gNm 6)) (bCons (bAsg (eTup (aCons (hE (eN gAbs (aCons (hE (e2 gIdx (hV 6) (hE (eC (.int 0))))) aNil))) (aCons (hE (e2 gIdx (hV 6) (hE (eC (.int 1))))) aNil))) (gNm 6)) (bIf (tOr' (tB' (e2 (gIsB false) (hV 2) (hE (eC .non)))) (tT (hE (eCall 2 F_is_less (aCons (hE (e2 gIdx (hV 2) (hE (eC (.int 0))))) (aCons (hV 6) aNil)))))) (bAsg (eTup (aCons (hE (eV 6)) (aCons (hE (eV 3)) aNil))) (gNm 2)) (bNil))))) (bRet (e2 gIdx (hV 2) (hE (eC (.int 1)))))))
noncomputable def F_worst_bar : List D → Option (D × List D) := fnD [true] 7 d_worst_bar
theorem w_worst_bar (T : Top K mg) (h_fraction : FOk P w K mg base 2 "fraction" ["top", "bottom"] F_fraction) (h_minus : FOk P w K mg base 2 "minus" ["one", "other"] F_minus) (h_is_less : FOk P w K mg base 2 "is_less" ["one", "other"] F_is_less) (h_mean_scale : FOk P w K mg base 2 "mean_scale" ["bars"] F_mean_scale) : FOk P w K mg base 3 "worst_bar" ["bars"] F_worst_bar := by
  obtain ⟨f, fd, FF, fb, fm⟩ := T.f_worst_bar
  have nd := sc_worst_bar.nd
  exact def_ok FF sc_worst_bar fb fm [0] [true] 7 d_worst_bar rfl rfl (by decide) (by decide) fun cdv A outer s H E hr => dss_cons (ds_set 1 nd (de_call h_mean_scale hr rfl (da_cons (dh_var 0) da_nil))) (dss_cons (ds_set 2 nd (de_non)) (dss_cons (ds_for [0] rfl (di_enum rfl T.enumerate_ (da_cons (dh_var 0) da_nil) (hsls_var (by decide) (hsls_nil))) (dg_tup rfl (dgs_cons (dg_name 3 nd) (dgs_cons (dg_tup rfl (dgs_cons (dg_name 4 nd) (dgs_cons (dg_name 5 nd) dgs_nil))) dgs_nil))) (dss_cons (ds_set 6 nd (de_call h_minus hr rfl (da_cons (dh_of (de_fz (de_call h_fraction hr rfl (da_cons (dh_var 5) (da_cons (dh_var 4) da_nil))))) (da_cons (dh_var 1) da_nil)))) (dss_cons (ds_set 6 nd (de_tup (da_cons (dh_of (de_bi call_abs on_abs rfl T.abs_ boot_abs (da_cons (dh_of (de_ix ix_seq o2_idx (dh_var 6) (dh_of (de_int)) (fun _ _ => rfl))) da_nil))) (da_cons (dh_of (de_ix ix_seq o2_idx (dh_var 6) (dh_of (de_int)) (fun _ _ => rfl))) da_nil)))) (dss_one (ds_if (dt_w (dw_or (dt_cmp op_isA o2_is (dh_var 2) (dh_of (de_non)) (nomark _)) (dw_or1 (dt_truth (dh_of (de_call h_is_less hr rfl (da_cons (dh_of (de_ix ix_seq o2_idx (dh_var 2) (dh_of (de_int)) (fun _ _ => rfl))) (da_cons (dh_var 6) da_nil)))))))) (dss_one (ds_set 2 nd (de_tup (da_cons (dh_of (de_var 6)) (da_cons (dh_of (de_var 3)) da_nil))))) (dss_nil)))))) (dss_one (ds_ret (de_ix ix_seq o2_idx (dh_var 2) (dh_of (de_int)) (fun _ _ => rfl))))))
noncomputable def d_law_places : Ev → Option Out := bCons (bAsg (eLst (aNil)) (gNm 3)) (bCons (bFor (iRg1 (aCons (hE (eC (.int 40))) aNil)) (gNm 4) (bCons (bAsg (eCall 2 F_law_fraction (aCons (hV 0) (aCons (hE (eC (.int 9))) aNil))) (gNm 5)) (bIf (tAn (tB' (e2 gLt (hE (eN gLen (aCons (hV 3) aNil))) (hV 2))) (tAn (tB' (e2 (gIn true) (hV 5) (hV 3))) (tB' (e2 (gIsB true) (hE (eCall 2 F_law_seen (aCons (hV 1) (aCons (hV 5) aNil)))) (hE (eC .non)))))) (bExp (eMut 3 gApp (aCons (hE (eV 5)) aNil))) (bNil)))) (bCons (bFor (iRg2 (aCons (hE (eC (.int 10))) (aCons (hE (eC (.int 30))) aNil))) (gNm 6) (bIf (tAn (tB' (e2 gLt (hE (eN gLen (aCons (hV 3) aNil))) (hV 2))) (tB' (e2 (gIsB true) (hE (eCall 2 F_law_seen (aCons (hV 1) (aCons (hE (eFz (eTup (aCons (hE (eV 6)) (aCons (hE (eC (.int 1))) aNil))))) aNil)))) (hE (eC .non))))) (bExp (eMut 3 gApp (aCons (hE (eFz (eTup (aCons (hE (eV 6)) (aCons (hE (eC (.int 1))) aNil))))) aNil))) (bNil))) (bRet (eM 3))))
noncomputable def F_law_places : List D → Option (D × List D) := fnD [true, true, true] 7 d_law_places
theorem w_law_places (T : Top K mg) (h_law_fraction : FOk P w K mg base 2 "_law_fraction" ["box", "size"] F_law_fraction) (h_law_seen : FOk P w K mg base 2 "_law_seen" ["numbers_there", "place"] F_law_seen) : FOk P w K mg base 3 "_law_places" ["box", "view", "many"] F_law_places := by
  obtain ⟨f, fd, FF, fb, fm⟩ := T.f_law_places
  have nd := sc_law_places.nd
  exact def_ok FF sc_law_places fb fm [0, 1, 2] [true, true, true] 7 d_law_places rfl rfl (by decide) (by decide) fun cdv A outer s H E hr => dss_cons (ds_set 3 nd (de_lst (da_nil))) (dss_cons (ds_for [0, 1, 2] rfl (di_range1 rfl T.range_ (da_cons (dh_of (de_int)) da_nil)) (dg_name 4 nd) (dss_cons (ds_set 5 nd (de_call h_law_fraction hr rfl (da_cons (dh_var 0) (da_cons (dh_of (de_int)) da_nil)))) (dss_one (ds_if (dt_w (dw_and (dt_cmp op_lt o2_lt (dh_of (de_bi call_len on_len rfl T.len_ boot_len (da_cons (dh_var 3) da_nil))) (dh_var 2) (nomark _)) (dw_and (dt_cmp (op_notInA (hu65 hr)) o2_notIn (dh_var 5) (dh_var 3) rfl) (dw_and1 (dt_cmp op_isNotA o2_isNot (dh_of (de_call h_law_seen hr rfl (da_cons (dh_var 1) (da_cons (dh_var 5) da_nil)))) (dh_of (de_non)) (nomark _)))))) (dss_one (ds_expr (de_mut 3 PySem.F.slot_list_append PySem.F.type_list_append mt_append mo_app (da_cons (dh_of (de_var 5)) da_nil)))) (dss_nil))))) (dss_cons (ds_for [0, 1, 2] rfl (di_range2 rfl T.range_ (da_cons (dh_of (de_int)) (da_cons (dh_of (de_int)) da_nil))) (dg_name 6 nd) (dss_one (ds_if (dt_w (dw_and (dt_cmp op_lt o2_lt (dh_of (de_bi call_len on_len rfl T.len_ boot_len (da_cons (dh_var 3) da_nil))) (dh_var 2) (nomark _)) (dw_and1 (dt_cmp op_isNotA o2_isNot (dh_of (de_call h_law_seen hr rfl (da_cons (dh_var 1) (da_cons (dh_of (de_fz (de_tup (da_cons (dh_of (de_var 6)) (da_cons (dh_of (de_int)) da_nil))))) da_nil)))) (dh_of (de_non)) (nomark _))))) (dss_one (ds_expr (de_mut 3 PySem.F.slot_list_append PySem.F.type_list_append mt_append mo_app (da_cons (dh_of (de_fz (de_tup (da_cons (dh_of (de_var 6)) (da_cons (dh_of (de_int)) da_nil))))) da_nil)))) (dss_nil)))) (dss_one (ds_ret (de_mov 3)))))
noncomputable def d_same_line : Ev → Option Out := bCons (bAsg (eV 0) (gTp 4 (gsCons (gNm 2) (gsCons (gNm 3) (gsCons (gNm 4) (gsCons (gNm 5) gsNil)))))) (bCons (bAsg (eCall 4 F_cross_ratio (aCons (hV 2) (aCons (hV 3) (aCons (hV 4) (aCons (hV 5) aNil))))) (gNm 6)) (bCons (bAsg (eV 1) (gTp 4 (gsCons (gNm 2) (gsCons (gNm 3) (gsCons (gNm 4) (gsCons (gNm 5) gsNil)))))) (bRet (e2 gEq (hV 6) (hE (eCall 4 F_cross_ratio (aCons (hV 2) (aCons (hV 3) (aCons (hV 4) (aCons (hV 5) aNil))))))))))
noncomputable def F_same_line : List D → Option (D × List D) := fnD [true, true] 7 d_same_line
theorem w_same_line (T : Top K mg) (h_cross_ratio : FOk P w K mg base 3 "cross_ratio" ["one", "other", "third", "far"] F_cross_ratio) : FOk P w K mg base 4 "same_line" ["ground", "picture"] F_same_line := by
  obtain ⟨f, fd, FF, fb, fm⟩ := T.f_same_line
  have nd := sc_same_line.nd
  exact def_ok FF sc_same_line fb fm [0, 1] [true, true] 7 d_same_line rfl rfl (by decide) (by decide) fun cdv A outer s H E hr => dss_cons (ds_asg (de_var 0) (dg_tup rfl (dgs_cons (dg_name 2 nd) (dgs_cons (dg_name 3 nd) (dgs_cons (dg_name 4 nd) (dgs_cons (dg_name 5 nd) dgs_nil)))))) (dss_cons (ds_set 6 nd (de_call h_cross_ratio hr rfl (da_cons (dh_var 2) (da_cons (dh_var 3) (da_cons (dh_var 4) (da_cons (dh_var 5) da_nil)))))) (dss_cons (ds_asg (de_var 1) (dg_tup rfl (dgs_cons (dg_name 2 nd) (dgs_cons (dg_name 3 nd) (dgs_cons (dg_name 4 nd) (dgs_cons (dg_name 5 nd) dgs_nil)))))) (dss_one (ds_ret (de_cmp (op_eqA (hu64 hr)) o2_eq (dh_var 6) (dh_of (de_call h_cross_ratio hr rfl (da_cons (dh_var 2) (da_cons (dh_var 3) (da_cons (dh_var 4) (da_cons (dh_var 5) da_nil)))))) (nomark _))))))
noncomputable def d_null_row : Ev → Option Out := bCons (bAsg (eLst (aNil)) (gNm 1)) (bCons (bFor (iRg1 (aCons (hE (eC (.int 4))) aNil)) (gNm 2) (bCons (bAsg (eLc [4] (iSq (hV 0)) (gNm 4) (tAll) (eFz (eLc [5, 6] (iEn (aCons (hV 4) aNil)) (gTp 2 (gsCons (gNm 5) (gsCons (gNm 6) gsNil))) (tB' (e2 gNe (hV 5) (hV 2))) (eV 6)))) (gNm 3)) (bCons (bAsg (eCall 1 F_box_of (aCons (hV 3) aNil)) (gNm 7)) (bExp (eMut 1 gApp (aCons (hE (eFz (eIf (tB' (e2 gEq (hE (e2 gMod (hV 2) (hE (eC (.int 2))))) (hE (eC (.int 0))))) (eV 7) (eCall 2 F_minus (aCons (hE (eFz (eTup (aCons (hE (eC (.int 0))) (aCons (hE (eC (.int 1))) aNil))))) (aCons (hV 7) aNil)))))) aNil)))))) (bRet (eM 1)))
noncomputable def F_null_row : List D → Option (D × List D) := fnD [true] 8 d_null_row
theorem w_null_row (T : Top K mg) (h_minus : FOk P w K mg base 3 "minus" ["one", "other"] F_minus) (h_box_of : FOk P w K mg base 3 "box_of" ["rows"] F_box_of) : FOk P w K mg base 4 "null_row" ["rows"] F_null_row := by
  obtain ⟨f, fd, FF, fb, fm⟩ := T.f_null_row
  have nd := sc_null_row.nd
  exact def_ok FF sc_null_row fb fm [0] [true] 8 d_null_row rfl rfl (by decide) (by decide) fun cdv A outer s H E hr => dss_cons (ds_set 1 nd (de_lst (da_nil))) (dss_cons (ds_for [0] rfl (di_range1 rfl T.range_ (da_cons (dh_of (de_int)) da_nil)) (dg_name 2 nd) (dss_cons (ds_setLc 3 (own := [("row", 4)]) [0, 1, 2, 3, 4, 5, 6, 7] [0, 1, 2, 3, 5, 6, 7] 8 rfl nd rfl (di_any (dh_var 0) (hsl_var (by decide))) (blk_ok (by kernel_rfl)) (fun _ _ _ _ _ => dg_name 4 nd) (fun _ _ _ _ _ => dts_nil) (fun _ _ _ _ _ => de_fz (de_lc (own := [("at", 5), ("part", 6)]) [0, 1, 2, 3, 4, 5, 6, 7] [0, 1, 2, 3, 4, 7] 8 rfl nd rfl (di_enum rfl T.enumerate_ (da_cons (dh_var 4) da_nil) (hsls_var (by decide) (hsls_nil))) (blk_ok (by kernel_rfl)) (fun _ _ _ _ _ => dg_tup rfl (dgs_cons (dg_name 5 nd) (dgs_cons (dg_name 6 nd) dgs_nil))) (fun _ _ _ _ _ => dts_one (dt_cmp (op_neA (hu64 hr)) o2_ne (dh_var 5) (dh_var 2) (nomark _))) (fun _ _ _ _ _ => de_var 6)))) (dss_cons (ds_set 7 nd (de_call h_box_of hr rfl (da_cons (dh_var 3) da_nil))) (dss_one (ds_expr (de_mut 1 PySem.F.slot_list_append PySem.F.type_list_append mt_append mo_app (da_cons (dh_of (de_fz (de_if (dt_cmp (op_eqA (hu64 hr)) o2_eq (dh_of (de_op op_mod o2_mod (dh_var 2) (dh_of (de_int)))) (dh_of (de_int)) (nomark _)) (de_var 7) (de_call h_minus hr rfl (da_cons (dh_of (de_fz (de_tup (da_cons (dh_of (de_int)) (da_cons (dh_of (de_int)) da_nil))))) (da_cons (dh_var 7) da_nil)))))) da_nil))))))) (dss_one (ds_ret (de_mov 1))))
noncomputable def d_middle_of : Ev → Option Out := bRet (eCall 2 F_seen_at (aCons (hV 0) (aCons (hE (eFz (eCall 2 F_over (aCons (hE (eFz (eCall 2 F_plus (aCons (hV 1) (aCons (hV 2) aNil))))) (aCons (hE (eFz (eCall 1 F_whole (aCons (hE (eC (.int 2))) aNil)))) aNil))))) aNil)))
noncomputable def F_middle_of : List D → Option (D × List D) := fnD [true, true, true] 3 d_middle_of
theorem w_middle_of (T : Top K mg) (h_plus : FOk P w K mg base 3 "plus" ["one", "other"] F_plus) (h_over : FOk P w K mg base 3 "over" ["one", "other"] F_over) (h_whole : FOk P w K mg base 3 "whole" ["number"] F_whole) (h_seen_at : FOk P w K mg base 3 "seen_at" ["view", "place"] F_seen_at) : FOk P w K mg base 4 "middle_of" ["view", "one", "other"] F_middle_of := by
  obtain ⟨f, fd, FF, fb, fm⟩ := T.f_middle_of
  have nd := sc_middle_of.nd
  exact def_ok FF sc_middle_of fb fm [0, 1, 2] [true, true, true] 3 d_middle_of rfl rfl (by decide) (by decide) fun cdv A outer s H E hr => dss_one (ds_ret (de_call h_seen_at hr rfl (da_cons (dh_var 0) (da_cons (dh_of (de_fz (de_call h_over hr rfl (da_cons (dh_of (de_fz (de_call h_plus hr rfl (da_cons (dh_var 1) (da_cons (dh_var 2) da_nil))))) (da_cons (dh_of (de_fz (de_call h_whole hr rfl (da_cons (dh_of (de_int)) da_nil)))) da_nil))))) da_nil))))
noncomputable def d_steps_seen : Ev → Option Out := bRet (eLc [4] (iRg1 (aCons (hV 3) aNil)) (gNm 4) (tAll) (eFz (eCall 2 F_seen_at (aCons (hV 0) (aCons (hE (eFz (eCall 2 F_plus (aCons (hV 1) (aCons (hE (eFz (eCall 2 F_times (aCons (hV 2) (aCons (hE (eFz (eCall 1 F_whole (aCons (hV 4) aNil)))) aNil))))) aNil))))) aNil)))))
noncomputable def F_steps_seen : List D → Option (D × List D) := fnD [true, true, true, true] 5 d_steps_seen
theorem w_steps_seen (T : Top K mg) (h_plus : FOk P w K mg base 3 "plus" ["one", "other"] F_plus) (h_times : FOk P w K mg base 3 "times" ["one", "other"] F_times) (h_whole : FOk P w K mg base 3 "whole" ["number"] F_whole) (h_seen_at : FOk P w K mg base 3 "seen_at" ["view", "place"] F_seen_at) : FOk P w K mg base 4 "steps_seen" ["view", "start", "step", "many"] F_steps_seen := by
  obtain ⟨f, fd, FF, fb, fm⟩ := T.f_steps_seen
  have nd := sc_steps_seen.nd
  exact def_ok FF sc_steps_seen fb fm [0, 1, 2, 3] [true, true, true, true] 5 d_steps_seen rfl rfl (by decide) (by decide) fun cdv A outer s H E hr => dss_one (ds_ret (de_lc (own := [("turn", 4)]) [0, 1, 2, 3, 4] [0, 1, 2, 3] 5 rfl nd rfl (di_range1 rfl T.range_ (da_cons (dh_var 3) da_nil)) (blk_ok (by kernel_rfl)) (fun _ _ _ _ _ => dg_name 4 nd) (fun _ _ _ _ _ => dts_nil) (fun _ _ _ _ _ => de_fz (de_call h_seen_at hr rfl (da_cons (dh_var 0) (da_cons (dh_of (de_fz (de_call h_plus hr rfl (da_cons (dh_var 1) (da_cons (dh_of (de_fz (de_call h_times hr rfl (da_cons (dh_var 2) (da_cons (dh_of (de_fz (de_call h_whole hr rfl (da_cons (dh_var 4) da_nil)))) da_nil))))) da_nil))))) da_nil))))))
noncomputable def d_view_of : Ev → Option Out := bCons (bAsg (eLst (aNil)) (gNm 2)) (bCons (bFor (iZp (aCons (hV 0) (aCons (hV 1) aNil))) (gTp 2 (gsCons (gNm 3) (gsCons (gNm 4) gsNil))) (bExp (eMut 2 gApp (aCons (hE (eFz (eLst (aCons (hE (eV 3)) (aCons (hE (eFz (eTup (aCons (hE (eC (.int 1))) (aCons (hE (eC (.int 1))) aNil))))) (aCons (hE (eFz (eCall 2 F_minus (aCons (hE (eFz (eTup (aCons (hE (eC (.int 0))) (aCons (hE (eC (.int 1))) aNil))))) (aCons (hE (eFz (eCall 2 F_times (aCons (hV 3) (aCons (hV 4) aNil))))) aNil))))) (aCons (hE (eFz (eCall 2 F_minus (aCons (hE (eFz (eTup (aCons (hE (eC (.int 0))) (aCons (hE (eC (.int 1))) aNil))))) (aCons (hV 4) aNil))))) aNil))))))) aNil)))) (bRet (eCall 1 F_scaled (aCons (hE (eFz (eCall 1 F_null_row (aCons (hV 2) aNil)))) aNil))))
noncomputable def F_view_of : List D → Option (D × List D) := fnD [true, true] 5 d_view_of
theorem w_view_of (T : Top K mg) (h_minus : FOk P w K mg base 4 "minus" ["one", "other"] F_minus) (h_times : FOk P w K mg base 4 "times" ["one", "other"] F_times) (h_null_row : FOk P w K mg base 4 "null_row" ["rows"] F_null_row) (h_scaled : FOk P w K mg base 4 "scaled" ["row"] F_scaled) : FOk P w K mg base 5 "view_of" ["ground", "picture"] F_view_of := by
  obtain ⟨f, fd, FF, fb, fm⟩ := T.f_view_of
  have nd := sc_view_of.nd
  exact def_ok FF sc_view_of fb fm [0, 1] [true, true] 5 d_view_of rfl rfl (by decide) (by decide) fun cdv A outer s H E hr => dss_cons (ds_set 2 nd (de_lst (da_nil))) (dss_cons (ds_for [0, 1] rfl (di_zip rfl T.zip_ (da_cons (dh_var 0) (da_cons (dh_var 1) da_nil)) (hsls_var (by decide) (hsls_var (by decide) (hsls_nil)))) (dg_tup rfl (dgs_cons (dg_name 3 nd) (dgs_cons (dg_name 4 nd) dgs_nil))) (dss_one (ds_expr (de_mut 2 PySem.F.slot_list_append PySem.F.type_list_append mt_append mo_app (da_cons (dh_of (de_fz (de_lst (da_cons (dh_of (de_var 3)) (da_cons (dh_of (de_fz (de_tup (da_cons (dh_of (de_int)) (da_cons (dh_of (de_int)) da_nil))))) (da_cons (dh_of (de_fz (de_call h_minus hr rfl (da_cons (dh_of (de_fz (de_tup (da_cons (dh_of (de_int)) (da_cons (dh_of (de_int)) da_nil))))) (da_cons (dh_of (de_fz (de_call h_times hr rfl (da_cons (dh_var 3) (da_cons (dh_var 4) da_nil))))) da_nil))))) (da_cons (dh_of (de_fz (de_call h_minus hr rfl (da_cons (dh_of (de_fz (de_tup (da_cons (dh_of (de_int)) (da_cons (dh_of (de_int)) da_nil))))) (da_cons (dh_var 4) da_nil))))) da_nil))))))) da_nil))))) (dss_one (ds_ret (de_call h_scaled hr rfl (da_cons (dh_of (de_fz (de_call h_null_row hr rfl (da_cons (dh_var 2) da_nil)))) da_nil)))))
noncomputable def d_law_same (F0 : List D → Option (D × List D)) : Ev → Option Out := bCons (bIf (tB' (e2 (gIsB false) (hV 1) (hE (eC .non)))) (bRet (e2 (gIsB false) (hV 0) (hE (eC .non)))) (bNil)) (bCons (bIf (tB' (e2 (gIsB false) (hV 1) (hE (eC (.bl true))))) (bRet (e2 (gIsB false) (hV 0) (hE (eC (.bl true))))) (bNil)) (bCons (bIf (tB' (e2 (gIsB false) (hV 1) (hE (eC (.bl false))))) (bRet (e2 (gIsB false) (hV 0) (hE (eC (.bl false))))) (bNil)) (bCons (bIf (tT (hE (eN gIsi (aCons (hV 1) (aCons (hE (eC (.ty "str"))) aNil))))) (bRet (eAn (eN gIsi (aCons (hV 0) (aCons (hE (eC (.ty "str"))) aNil))) (e2 gEq (hE (eN gRepr (aCons (hV 0) aNil))) (hE (eN gRepr (aCons (hV 1) aNil)))))) (bNil)) (bCons (bIf (tT (hE (eN gIsi (aCons (hV 1) (aCons (hE (eC (.ty "int"))) aNil))))) (bRet (eAn (eN gIsi (aCons (hV 0) (aCons (hE (eC (.ty "int"))) aNil))) (eAn (eNo (eN gIsi (aCons (hV 0) (aCons (hE (eC (.ty "bool"))) aNil)))) (e2 gEq (hE (eN gRepr (aCons (hV 0) aNil))) (hE (eN gRepr (aCons (hV 1) aNil))))))) (bNil)) (bCons (bIf (tOr' (tAn (tT (hE (eN gIsi (aCons (hV 1) (aCons (hE (eC (.ty "tuple"))) aNil))))) (tNo (tT (hE (eN gIsi (aCons (hV 0) (aCons (hE (eC (.ty "tuple"))) aNil))))))) (tAn (tT (hE (eN gIsi (aCons (hV 1) (aCons (hE (eC (.ty "list"))) aNil))))) (tNo (tT (hE (eN gIsi (aCons (hV 0) (aCons (hE (eC (.ty "list"))) aNil)))))))) (bRet (eC (.bl false))) (bNil)) (bCons (bIf (tB' (e2 gNe (hE (eN gLen (aCons (hV 0) aNil))) (hE (eN gLen (aCons (hV 1) aNil))))) (bRet (eC (.bl false))) (bNil)) (bCons (bFor (iRg1 (aCons (hE (eN gLen (aCons (hV 1) aNil))) aNil)) (gNm 2) (bIf (tNo (tT (hE (eCall 2 F0 (aCons (hE (e2 gIdx (hV 0) (hV 2))) (aCons (hE (e2 gIdx (hV 1) (hV 2))) aNil)))))) (bRet (eC (.bl false))) (bNil))) (bRet (eC (.bl true))))))))))
noncomputable def S_law_same (F0 : List D → Option (D × List D)) : List D → Option (D × List D) := fnD [true, true] 3 (d_law_same F0)
noncomputable def R_law_same : Nat → List D → Option (D × List D)
  | 0 => fun _ => none
  | n + 1 => S_law_same (R_law_same n)
noncomputable def F_law_same : List D → Option (D × List D) := R_law_same 8
theorem v_law_same {F0 : List D → Option (D × List D)} {k : Nat} (T : Top K mg) (h0 : FOk P w K mg base k "_law_same" ["told", "due"] F0) : FOk P w K mg base (k + 1) "_law_same" ["told", "due"] (S_law_same F0) := by
  obtain ⟨f, fd, FF, fb, fm⟩ := T.f_law_same
  have nd := sc_law_same.nd
  exact def_ok FF sc_law_same fb fm [0, 1] [true, true] 3 (d_law_same F0) rfl rfl (by decide) (by decide) fun cdv A outer s H E hr => dss_cons (ds_if (dt_cmp op_isA o2_is (dh_var 1) (dh_of (de_non)) (nomark _)) (dss_one (ds_ret (de_cmp op_isA o2_is (dh_var 0) (dh_of (de_non)) (nomark _)))) (dss_nil)) (dss_cons (ds_if (dt_cmp op_isA o2_is (dh_var 1) (dh_of (de_bl)) (nomark _)) (dss_one (ds_ret (de_cmp op_isA o2_is (dh_var 0) (dh_of (de_bl)) (nomark _)))) (dss_nil)) (dss_cons (ds_if (dt_cmp op_isA o2_is (dh_var 1) (dh_of (de_bl)) (nomark _)) (dss_one (ds_ret (de_cmp op_isA o2_is (dh_var 0) (dh_of (de_bl)) (nomark _)))) (dss_nil)) (dss_cons (ds_if (dt_truth (dh_of (de_bi call_isi on_isi rfl T.isinstance_ boot_isinstance (da_cons (dh_var 1) (da_cons (dh_of (de_tyn rfl T.str_ boot_str)) da_nil))))) (dss_one (ds_ret (de_and (de_bi call_isi on_isi rfl T.isinstance_ boot_isinstance (da_cons (dh_var 0) (da_cons (dh_of (de_tyn rfl T.str_ boot_str)) da_nil))) (de_one (de_cmp (op_eqA (hu64 hr)) o2_eq (dh_of (de_bi call_repr on_repr rfl T.repr_ boot_repr (da_cons (dh_var 0) da_nil))) (dh_of (de_bi call_repr on_repr rfl T.repr_ boot_repr (da_cons (dh_var 1) da_nil))) (nomark _)))))) (dss_nil)) (dss_cons (ds_if (dt_truth (dh_of (de_bi call_isi on_isi rfl T.isinstance_ boot_isinstance (da_cons (dh_var 1) (da_cons (dh_of (de_tyn rfl T.int_ boot_int)) da_nil))))) (dss_one (ds_ret (de_and (de_bi call_isi on_isi rfl T.isinstance_ boot_isinstance (da_cons (dh_var 0) (da_cons (dh_of (de_tyn rfl T.int_ boot_int)) da_nil))) (de_and (de_not (de_bi call_isi on_isi rfl T.isinstance_ boot_isinstance (da_cons (dh_var 0) (da_cons (dh_of (de_tyn rfl T.bool_ boot_bool)) da_nil)))) (de_one (de_cmp (op_eqA (hu64 hr)) o2_eq (dh_of (de_bi call_repr on_repr rfl T.repr_ boot_repr (da_cons (dh_var 0) da_nil))) (dh_of (de_bi call_repr on_repr rfl T.repr_ boot_repr (da_cons (dh_var 1) da_nil))) (nomark _))))))) (dss_nil)) (dss_cons (ds_if (dt_w (dw_or (dt_w (dw_and (dt_truth (dh_of (de_bi call_isi on_isi rfl T.isinstance_ boot_isinstance (da_cons (dh_var 1) (da_cons (dh_of (de_tyn rfl T.tuple_ boot_tuple)) da_nil))))) (dw_and1 (dt_not (dt_truth (dh_of (de_bi call_isi on_isi rfl T.isinstance_ boot_isinstance (da_cons (dh_var 0) (da_cons (dh_of (de_tyn rfl T.tuple_ boot_tuple)) da_nil))))))))) (dw_or1 (dt_w (dw_and (dt_truth (dh_of (de_bi call_isi on_isi rfl T.isinstance_ boot_isinstance (da_cons (dh_var 1) (da_cons (dh_of (de_tyn rfl T.list_ boot_list)) da_nil))))) (dw_and1 (dt_not (dt_truth (dh_of (de_bi call_isi on_isi rfl T.isinstance_ boot_isinstance (da_cons (dh_var 0) (da_cons (dh_of (de_tyn rfl T.list_ boot_list)) da_nil)))))))))))) (dss_one (ds_ret (de_bl))) (dss_nil)) (dss_cons (ds_if (dt_cmp (op_neA (hu64 hr)) o2_ne (dh_of (de_bi call_len on_len rfl T.len_ boot_len (da_cons (dh_var 0) da_nil))) (dh_of (de_bi call_len on_len rfl T.len_ boot_len (da_cons (dh_var 1) da_nil))) (nomark _)) (dss_one (ds_ret (de_bl))) (dss_nil)) (dss_cons (ds_for [0, 1] rfl (di_range1 rfl T.range_ (da_cons (dh_of (de_bi call_len on_len rfl T.len_ boot_len (da_cons (dh_var 1) da_nil))) da_nil)) (dg_name 2 nd) (dss_one (ds_if (dt_not (dt_truth (dh_of (de_call h0 hr rfl (da_cons (dh_of (de_ix ix_seq o2_idx (dh_var 0) (dh_var 2) (fun _ _ => rfl))) (da_cons (dh_of (de_ix ix_seq o2_idx (dh_var 1) (dh_var 2) (fun _ _ => rfl))) da_nil)))))) (dss_one (ds_ret (de_bl))) (dss_nil)))) (dss_one (ds_ret (de_bl))))))))))
theorem w_law_same (T : Top K mg) : FOk P w K mg base 8 "_law_same" ["told", "due"] F_law_same := by
  have h : ∀ n, FOk P w K mg base (0 + n) "_law_same" ["told", "due"] (R_law_same n) := fun n => by
    induction n with
    | zero =>
      obtain ⟨f, fd, FF, fb, fm⟩ := T.f_law_same
      exact FOk.void FF fb fm
    | succ n ih => exact v_law_same T ih
  exact h 8
noncomputable def d_law_looks : Ev → Option Out := bCons (bAsg (eV 1) (gTp 4 (gsCons (gNm 3) (gsCons (gNm 4) (gsCons (gNm 5) (gsCons (gNm 6) gsNil)))))) (bCons (bAsg (e2 gAdd (hE (eLc [8] (iRg1 (aCons (hE (eC (.int 3))) aNil)) (gNm 8) (tAll) (eFz (eCall 2 F_law_fraction (aCons (hV 0) (aCons (hE (eC (.int 12))) aNil)))))) (hE (eIf (tB' (e2 gNe (hV 5) (hE (eC (.int 0))))) (eLst (aCons (hE (eFz (eCall 2 F_law_part (aCons (hE (e2 gSubt (hE (eC (.int 0))) (hV 6))) (aCons (hV 5) aNil))))) aNil)) (eLst (aNil))))) (gNm 7)) (bCons (bFor (iSq (hV 7)) (gNm 9) (bIf (tNo (tT (hE (eCall 2 F_law_same (aCons (hE (eFz (eCall 2 F_seen_at (aCons (hV 2) (aCons (hV 9) aNil))))) (aCons (hE (eFz (eCall 2 F_law_seen (aCons (hV 1) (aCons (hV 9) aNil))))) aNil)))))) (bRet (eC (.bl false))) (bNil))) (bCons (bAsg (e2 gAdd (hE (eLc [8] (iRg1 (aCons (hE (eC (.int 3))) aNil)) (gNm 8) (tAll) (eFz (eCall 2 F_law_fraction (aCons (hV 0) (aCons (hE (eC (.int 12))) aNil)))))) (hE (eIf (tB' (e2 gNe (hV 5) (hE (eC (.int 0))))) (eLst (aCons (hE (eFz (eCall 2 F_law_part (aCons (hV 3) (aCons (hV 5) aNil))))) aNil)) (eLst (aNil))))) (gNm 7)) (bCons (bFor (iSq (hV 7)) (gNm 9) (bIf (tNo (tT (hE (eCall 2 F_law_same (aCons (hE (eFz (eCall 2 F_ground_of (aCons (hV 2) (aCons (hV 9) aNil))))) (aCons (hE (eFz (eCall 2 F_law_ground (aCons (hV 1) (aCons (hV 9) aNil))))) aNil)))))) (bRet (eC (.bl false))) (bNil))) (bCons (bIf (tNo (tT (hE (eCall 2 F_law_same (aCons (hE (eFz (eCall 1 F_horizon (aCons (hV 2) aNil)))) (aCons (hE (eFz (eIf (tB' (e2 gNe (hV 5) (hE (eC (.int 0))))) (eCall 2 F_law_part (aCons (hV 3) (aCons (hV 5) aNil))) (eC .non)))) aNil)))))) (bRet (eC (.bl false))) (bNil)) (bCons (bAsg (eTup (aCons (hE (eFz (eCall 2 F_law_fraction (aCons (hV 0) (aCons (hE (eC (.int 9))) aNil))))) (aCons (hE (eFz (eCall 2 F_law_fraction (aCons (hV 0) (aCons (hE (eC (.int 4))) aNil))))) aNil))) (gTp 2 (gsCons (gNm 10) (gsCons (gNm 11) gsNil)))) (bCons (bIf (tAn (tB' (e2 gNe (hV 5) (hE (eC (.int 0))))) (tB' (e2 gEq (hE (eCall 2 F_law_draw (aCons (hV 0) (aCons (hE (eC (.int 2))) aNil)))) (hE (eC (.int 0)))))) (bAsg (eCall 2 F_law_part (aCons (hE (e2 gSubt (hE (e2 gSubt (hE (eC (.int 0))) (hE (e2 gMul (hV 6) (hE (e2 gIdx (hV 11) (hE (eC (.int 1))))))))) (hE (e2 gMul (hE (e2 gMul (hE (eC (.int 2))) (hE (e2 gIdx (hV 11) (hE (eC (.int 0))))))) (hV 5))))) (aCons (hE (e2 gMul (hV 5) (hE (e2 gIdx (hV 11) (hE (eC (.int 1))))))) aNil))) (gNm 10)) (bNil)) (bCons (bAsg (eCall 2 F_law_part (aCons (hE (e2 gAdd (hE (e2 gMul (hE (e2 gIdx (hV 10) (hE (eC (.int 0))))) (hE (e2 gIdx (hV 11) (hE (eC (.int 1))))))) (hE (e2 gMul (hE (e2 gMul (hE (eC (.int 4))) (hE (e2 gIdx (hV 11) (hE (eC (.int 0))))))) (hE (e2 gIdx (hV 10) (hE (eC (.int 1))))))))) (aCons (hE (e2 gMul (hE (e2 gIdx (hV 10) (hE (eC (.int 1))))) (hE (e2 gIdx (hV 11) (hE (eC (.int 1))))))) aNil))) (gNm 12)) (bCons (bAsg (eCall 2 F_law_part (aCons (hE (e2 gAdd (hE (e2 gMul (hE (e2 gIdx (hV 10) (hE (eC (.int 0))))) (hE (e2 gIdx (hV 12) (hE (eC (.int 1))))))) (hE (e2 gMul (hE (e2 gIdx (hV 12) (hE (eC (.int 0))))) (hE (e2 gIdx (hV 10) (hE (eC (.int 1))))))))) (aCons (hE (e2 gMul (hE (e2 gMul (hE (eC (.int 2))) (hE (e2 gIdx (hV 10) (hE (eC (.int 1))))))) (hE (e2 gIdx (hV 12) (hE (eC (.int 1))))))) aNil))) (gNm 13)) (bCons (bIf (tNo (tT (hE (eCall 2 F_law_same (aCons (hE (eFz (eCall 3 F_middle_of (aCons (hV 2) (aCons (hV 10) (aCons (hV 12) aNil)))))) (aCons (hE (eFz (eCall 2 F_law_seen (aCons (hV 1) (aCons (hV 13) aNil))))) aNil)))))) (bRet (eC (.bl false))) (bNil)) (bCons (bAsg (eLc [8] (iRg1 (aCons (hE (eC (.int 5))) aNil)) (gNm 8) (tAll) (eFz (eCall 2 F_law_seen (aCons (hV 1) (aCons (hE (eFz (eCall 2 F_law_part (aCons (hE (e2 gAdd (hE (e2 gMul (hE (e2 gIdx (hV 10) (hE (eC (.int 0))))) (hE (e2 gIdx (hV 11) (hE (eC (.int 1))))))) (hE (e2 gMul (hE (e2 gMul (hV 8) (hE (e2 gIdx (hV 11) (hE (eC (.int 0))))))) (hE (e2 gIdx (hV 10) (hE (eC (.int 1))))))))) (aCons (hE (e2 gMul (hE (e2 gIdx (hV 10) (hE (eC (.int 1))))) (hE (e2 gIdx (hV 11) (hE (eC (.int 1))))))) aNil))))) aNil))))) (gNm 14)) (bRet (eAn (eCall 2 F_law_same (aCons (hE (eFz (eCall 4 F_steps_seen (aCons (hV 2) (aCons (hV 10) (aCons (hV 11) (aCons (hE (eC (.int 5))) aNil))))))) (aCons (hV 14) aNil))) (eCall 2 F_law_same (aCons (hE (eFz (eCall 4 F_steps_seen (aCons (hV 2) (aCons (hV 10) (aCons (hV 11) (aCons (hE (eC (.int 0))) aNil))))))) (aCons (hE (eFz (eLst (aNil)))) aNil))))))))))))))))
noncomputable def F_law_looks : List D → Option (D × List D) := fnD [true, true, true] 15 d_law_looks
theorem w_law_looks (T : Top K mg) (h_seen_at : FOk P w K mg base 8 "seen_at" ["view", "place"] F_seen_at) (h_ground_of : FOk P w K mg base 8 "ground_of" ["view", "place"] F_ground_of) (h_horizon : FOk P w K mg base 8 "horizon" ["view"] F_horizon) (h_middle_of : FOk P w K mg base 8 "middle_of" ["view", "one", "other"] F_middle_of) (h_steps_seen : FOk P w K mg base 8 "steps_seen" ["view", "start", "step", "many"] F_steps_seen) (h_law_draw : FOk P w K mg base 8 "_law_draw" ["box", "many"] F_law_draw) (h_law_same : FOk P w K mg base 8 "_law_same" ["told", "due"] F_law_same) (h_law_part : FOk P w K mg base 8 "_law_part" ["top", "bottom"] F_law_part) (h_law_fraction : FOk P w K mg base 8 "_law_fraction" ["box", "size"] F_law_fraction) (h_law_seen : FOk P w K mg base 8 "_law_seen" ["numbers_there", "place"] F_law_seen) (h_law_ground : FOk P w K mg base 8 "_law_ground" ["numbers_there", "place"] F_law_ground) : FOk P w K mg base 9 "_law_looks" ["box", "view", "told"] F_law_looks := by
  obtain ⟨f, fd, FF, fb, fm⟩ := T.f_law_looks
  have nd := sc_law_looks.nd
  exact def_ok FF sc_law_looks fb fm [0, 1, 2] [true, true, true] 15 d_law_looks rfl rfl (by decide) (by decide) fun cdv A outer s H E hr => dss_cons (ds_asg (de_var 1) (dg_tup rfl (dgs_cons (dg_name 3 nd) (dgs_cons (dg_name 4 nd) (dgs_cons (dg_name 5 nd) (dgs_cons (dg_name 6 nd) dgs_nil)))))) (dss_cons (ds_set 7 nd (de_op op_addA o2_add (dh_of (de_lc (own := [("k", 8)]) [0, 1, 2, 3, 4, 5, 6, 7, 8, 9, 10, 11, 12, 13, 14] [0, 1, 2, 3, 4, 5, 6, 7, 9, 10, 11, 12, 13, 14] 15 rfl nd rfl (di_range1 rfl T.range_ (da_cons (dh_of (de_int)) da_nil)) (blk_ok (by kernel_rfl)) (fun _ _ _ _ _ => dg_name 8 nd) (fun _ _ _ _ _ => dts_nil) (fun _ _ _ _ _ => de_fz (de_call h_law_fraction hr rfl (da_cons (dh_var 0) (da_cons (dh_of (de_int)) da_nil)))))) (dh_of (de_if (dt_cmp (op_neA (hu64 hr)) o2_ne (dh_var 5) (dh_of (de_int)) (nomark _)) (de_lst (da_cons (dh_of (de_fz (de_call h_law_part hr rfl (da_cons (dh_of (de_op op_sub o2_sub (dh_of (de_int)) (dh_var 6))) (da_cons (dh_var 5) da_nil))))) da_nil)) (de_lst (da_nil)))))) (dss_cons (ds_for [0, 1, 2, 7] rfl (di_any (dh_var 7) (hsl_var (by decide))) (dg_name 9 nd) (dss_one (ds_if (dt_not (dt_truth (dh_of (de_call h_law_same hr rfl (da_cons (dh_of (de_fz (de_call h_seen_at hr rfl (da_cons (dh_var 2) (da_cons (dh_var 9) da_nil))))) (da_cons (dh_of (de_fz (de_call h_law_seen hr rfl (da_cons (dh_var 1) (da_cons (dh_var 9) da_nil))))) da_nil)))))) (dss_one (ds_ret (de_bl))) (dss_nil)))) (dss_cons (ds_set 7 nd (de_op op_addA o2_add (dh_of (de_lc (own := [("k", 8)]) [0, 1, 2, 3, 4, 5, 6, 7, 8, 9, 10, 11, 12, 13, 14] [0, 1, 2, 3, 4, 5, 6, 7, 9, 10, 11, 12, 13, 14] 15 rfl nd rfl (di_range1 rfl T.range_ (da_cons (dh_of (de_int)) da_nil)) (blk_ok (by kernel_rfl)) (fun _ _ _ _ _ => dg_name 8 nd) (fun _ _ _ _ _ => dts_nil) (fun _ _ _ _ _ => de_fz (de_call h_law_fraction hr rfl (da_cons (dh_var 0) (da_cons (dh_of (de_int)) da_nil)))))) (dh_of (de_if (dt_cmp (op_neA (hu64 hr)) o2_ne (dh_var 5) (dh_of (de_int)) (nomark _)) (de_lst (da_cons (dh_of (de_fz (de_call h_law_part hr rfl (da_cons (dh_var 3) (da_cons (dh_var 5) da_nil))))) da_nil)) (de_lst (da_nil)))))) (dss_cons (ds_for [0, 1, 2, 7] rfl (di_any (dh_var 7) (hsl_var (by decide))) (dg_name 9 nd) (dss_one (ds_if (dt_not (dt_truth (dh_of (de_call h_law_same hr rfl (da_cons (dh_of (de_fz (de_call h_ground_of hr rfl (da_cons (dh_var 2) (da_cons (dh_var 9) da_nil))))) (da_cons (dh_of (de_fz (de_call h_law_ground hr rfl (da_cons (dh_var 1) (da_cons (dh_var 9) da_nil))))) da_nil)))))) (dss_one (ds_ret (de_bl))) (dss_nil)))) (dss_cons (ds_if (dt_not (dt_truth (dh_of (de_call h_law_same hr rfl (da_cons (dh_of (de_fz (de_call h_horizon hr rfl (da_cons (dh_var 2) da_nil)))) (da_cons (dh_of (de_fz (de_if (dt_cmp (op_neA (hu64 hr)) o2_ne (dh_var 5) (dh_of (de_int)) (nomark _)) (de_call h_law_part hr rfl (da_cons (dh_var 3) (da_cons (dh_var 5) da_nil))) (de_non)))) da_nil)))))) (dss_one (ds_ret (de_bl))) (dss_nil)) (dss_cons (ds_asg (de_tup (da_cons (dh_of (de_fz (de_call h_law_fraction hr rfl (da_cons (dh_var 0) (da_cons (dh_of (de_int)) da_nil))))) (da_cons (dh_of (de_fz (de_call h_law_fraction hr rfl (da_cons (dh_var 0) (da_cons (dh_of (de_int)) da_nil))))) da_nil))) (dg_tup rfl (dgs_cons (dg_name 10 nd) (dgs_cons (dg_name 11 nd) dgs_nil)))) (dss_cons (ds_if (dt_w (dw_and (dt_cmp (op_neA (hu64 hr)) o2_ne (dh_var 5) (dh_of (de_int)) (nomark _)) (dw_and1 (dt_cmp (op_eqA (hu64 hr)) o2_eq (dh_of (de_call h_law_draw hr rfl (da_cons (dh_var 0) (da_cons (dh_of (de_int)) da_nil)))) (dh_of (de_int)) (nomark _))))) (dss_one (ds_set 10 nd (de_call h_law_part hr rfl (da_cons (dh_of (de_op op_sub o2_sub (dh_of (de_op op_sub o2_sub (dh_of (de_int)) (dh_of (de_op op_mulA o2_mul (dh_var 6) (dh_of (de_ix ix_seq o2_idx (dh_var 11) (dh_of (de_int)) (fun _ _ => rfl))))))) (dh_of (de_op op_mulA o2_mul (dh_of (de_op op_mulA o2_mul (dh_of (de_int)) (dh_of (de_ix ix_seq o2_idx (dh_var 11) (dh_of (de_int)) (fun _ _ => rfl))))) (dh_var 5))))) (da_cons (dh_of (de_op op_mulA o2_mul (dh_var 5) (dh_of (de_ix ix_seq o2_idx (dh_var 11) (dh_of (de_int)) (fun _ _ => rfl))))) da_nil))))) (dss_nil)) (dss_cons (ds_set 12 nd (de_call h_law_part hr rfl (da_cons (dh_of (de_op op_addA o2_add (dh_of (de_op op_mulA o2_mul (dh_of (de_ix ix_seq o2_idx (dh_var 10) (dh_of (de_int)) (fun _ _ => rfl))) (dh_of (de_ix ix_seq o2_idx (dh_var 11) (dh_of (de_int)) (fun _ _ => rfl))))) (dh_of (de_op op_mulA o2_mul (dh_of (de_op op_mulA o2_mul (dh_of (de_int)) (dh_of (de_ix ix_seq o2_idx (dh_var 11) (dh_of (de_int)) (fun _ _ => rfl))))) (dh_of (de_ix ix_seq o2_idx (dh_var 10) (dh_of (de_int)) (fun _ _ => rfl))))))) (da_cons (dh_of (de_op op_mulA o2_mul (dh_of (de_ix ix_seq o2_idx (dh_var 10) (dh_of (de_int)) (fun _ _ => rfl))) (dh_of (de_ix ix_seq o2_idx (dh_var 11) (dh_of (de_int)) (fun _ _ => rfl))))) da_nil)))) (dss_cons (ds_set 13 nd (de_call h_law_part hr rfl (da_cons (dh_of (de_op op_addA o2_add (dh_of (de_op op_mulA o2_mul (dh_of (de_ix ix_seq o2_idx (dh_var 10) (dh_of (de_int)) (fun _ _ => rfl))) (dh_of (de_ix ix_seq o2_idx (dh_var 12) (dh_of (de_int)) (fun _ _ => rfl))))) (dh_of (de_op op_mulA o2_mul (dh_of (de_ix ix_seq o2_idx (dh_var 12) (dh_of (de_int)) (fun _ _ => rfl))) (dh_of (de_ix ix_seq o2_idx (dh_var 10) (dh_of (de_int)) (fun _ _ => rfl))))))) (da_cons (dh_of (de_op op_mulA o2_mul (dh_of (de_op op_mulA o2_mul (dh_of (de_int)) (dh_of (de_ix ix_seq o2_idx (dh_var 10) (dh_of (de_int)) (fun _ _ => rfl))))) (dh_of (de_ix ix_seq o2_idx (dh_var 12) (dh_of (de_int)) (fun _ _ => rfl))))) da_nil)))) (dss_cons (ds_if (dt_not (dt_truth (dh_of (de_call h_law_same hr rfl (da_cons (dh_of (de_fz (de_call h_middle_of hr rfl (da_cons (dh_var 2) (da_cons (dh_var 10) (da_cons (dh_var 12) da_nil)))))) (da_cons (dh_of (de_fz (de_call h_law_seen hr rfl (da_cons (dh_var 1) (da_cons (dh_var 13) da_nil))))) da_nil)))))) (dss_one (ds_ret (de_bl))) (dss_nil)) (dss_cons (ds_setLc 14 (own := [("k", 8)]) [0, 1, 2, 3, 4, 5, 6, 7, 8, 9, 10, 11, 12, 13, 14] [0, 1, 2, 3, 4, 5, 6, 7, 9, 10, 11, 12, 13, 14] 15 rfl nd rfl (di_range1 rfl T.range_ (da_cons (dh_of (de_int)) da_nil)) (blk_ok (by kernel_rfl)) (fun _ _ _ _ _ => dg_name 8 nd) (fun _ _ _ _ _ => dts_nil) (fun _ _ _ _ _ => de_fz (de_call h_law_seen hr rfl (da_cons (dh_var 1) (da_cons (dh_of (de_fz (de_call h_law_part hr rfl (da_cons (dh_of (de_op op_addA o2_add (dh_of (de_op op_mulA o2_mul (dh_of (de_ix ix_seq o2_idx (dh_var 10) (dh_of (de_int)) (fun _ _ => rfl))) (dh_of (de_ix ix_seq o2_idx (dh_var 11) (dh_of (de_int)) (fun _ _ => rfl))))) (dh_of (de_op op_mulA o2_mul (dh_of (de_op op_mulA o2_mul (dh_var 8) (dh_of (de_ix ix_seq o2_idx (dh_var 11) (dh_of (de_int)) (fun _ _ => rfl))))) (dh_of (de_ix ix_seq o2_idx (dh_var 10) (dh_of (de_int)) (fun _ _ => rfl))))))) (da_cons (dh_of (de_op op_mulA o2_mul (dh_of (de_ix ix_seq o2_idx (dh_var 10) (dh_of (de_int)) (fun _ _ => rfl))) (dh_of (de_ix ix_seq o2_idx (dh_var 11) (dh_of (de_int)) (fun _ _ => rfl))))) da_nil))))) da_nil))))) (dss_one (ds_ret (de_and (de_call h_law_same hr rfl (da_cons (dh_of (de_fz (de_call h_steps_seen hr rfl (da_cons (dh_var 2) (da_cons (dh_var 10) (da_cons (dh_var 11) (da_cons (dh_of (de_int)) da_nil))))))) (da_cons (dh_var 14) da_nil))) (de_one (de_call h_law_same hr rfl (da_cons (dh_of (de_fz (de_call h_steps_seen hr rfl (da_cons (dh_var 2) (da_cons (dh_var 10) (da_cons (dh_var 11) (da_cons (dh_of (de_int)) da_nil))))))) (da_cons (dh_of (de_fz (de_lst (da_nil)))) da_nil))))))))))))))))))
noncomputable def d_law_lengths : Ev → Option Out := bCons (bPar 1 2 (aCons (hE (eCall 2 F_law_part (aCons (hE (eCall 2 F_law_draw (aCons (hV 0) (aCons (hE (eC (.int 21))) aNil)))) (aCons (hE (e2 gAdd (hE (eC (.int 1))) (hE (eCall 2 F_law_draw (aCons (hV 0) (aCons (hE (eC (.int 4))) aNil)))))) aNil)))) (aCons (hE (eCall 2 F_law_part (aCons (hE (e2 gAdd (hE (eC (.int 1))) (hE (eCall 2 F_law_draw (aCons (hV 0) (aCons (hE (eC (.int 20))) aNil)))))) (aCons (hE (e2 gAdd (hE (eC (.int 1))) (hE (eCall 2 F_law_draw (aCons (hV 0) (aCons (hE (eC (.int 4))) aNil)))))) aNil)))) aNil))) (bCons (bAsg (eCall 2 F_law_part (aCons (hE (eFz (e2 gAdd (hE (eC (.int 1))) (hE (eCall 2 F_law_draw (aCons (hV 0) (aCons (hE (eC (.int 20))) aNil))))))) (aCons (hE (eFz (e2 gAdd (hE (eC (.int 1))) (hE (eCall 2 F_law_draw (aCons (hV 0) (aCons (hE (eC (.int 4))) aNil))))))) aNil))) (gNm 3)) (bCons (bIf (tNo (tT (hE (eCall 2 F_law_same (aCons (hE (eFz (eCall 3 F_by_scale (aCons (hV 1) (aCons (hV 3) (aCons (hV 2) aNil)))))) (aCons (hE (eFz (eCall 2 F_law_part (aCons (hE (e2 gMul (hE (e2 gMul (hE (e2 gIdx (hV 1) (hE (eC (.int 0))))) (hE (e2 gIdx (hV 2) (hE (eC (.int 0))))))) (hE (e2 gIdx (hV 3) (hE (eC (.int 1))))))) (aCons (hE (e2 gMul (hE (e2 gMul (hE (e2 gIdx (hV 1) (hE (eC (.int 1))))) (hE (e2 gIdx (hV 2) (hE (eC (.int 1))))))) (hE (e2 gIdx (hV 3) (hE (eC (.int 0))))))) aNil))))) aNil)))))) (bRet (eC (.bl false))) (bNil)) (bCons (bIf (tNo (tT (hE (eCall 2 F_law_same (aCons (hE (eFz (eCall 3 F_depth_of (aCons (hV 1) (aCons (hV 2) (aCons (hV 3) aNil)))))) (aCons (hE (eFz (eCall 2 F_law_part (aCons (hE (e2 gMul (hE (e2 gMul (hE (e2 gIdx (hV 1) (hE (eC (.int 0))))) (hE (e2 gIdx (hV 2) (hE (eC (.int 0))))))) (hE (e2 gIdx (hV 3) (hE (eC (.int 1))))))) (aCons (hE (e2 gMul (hE (e2 gMul (hE (e2 gIdx (hV 1) (hE (eC (.int 1))))) (hE (e2 gIdx (hV 2) (hE (eC (.int 1))))))) (hE (e2 gIdx (hV 3) (hE (eC (.int 0))))))) aNil))))) aNil)))))) (bRet (eC (.bl false))) (bNil)) (bCons (bIf (tNo (tT (hE (eCall 2 F_law_same (aCons (hE (eFz (eCall 3 F_shadow_height (aCons (hV 1) (aCons (hV 2) (aCons (hV 3) aNil)))))) (aCons (hE (eFz (eCall 2 F_law_part (aCons (hE (e2 gMul (hE (e2 gMul (hE (e2 gIdx (hV 1) (hE (eC (.int 0))))) (hE (e2 gIdx (hV 2) (hE (eC (.int 0))))))) (hE (e2 gIdx (hV 3) (hE (eC (.int 1))))))) (aCons (hE (e2 gMul (hE (e2 gMul (hE (e2 gIdx (hV 1) (hE (eC (.int 1))))) (hE (e2 gIdx (hV 2) (hE (eC (.int 1))))))) (hE (e2 gIdx (hV 3) (hE (eC (.int 0))))))) aNil))))) aNil)))))) (bRet (eC (.bl false))) (bNil)) (bCons (bAsg (eLc [5] (iRg1 (aCons (hE (e2 gAdd (hE (eC (.int 1))) (hE (eCall 2 F_law_draw (aCons (hV 0) (aCons (hE (eC (.int 5))) aNil)))))) aNil)) (gNm 5) (tAll) (eFz (eTup (aCons (hE (eFz (e2 gAdd (hE (eC (.int 1))) (hE (eCall 2 F_law_draw (aCons (hV 0) (aCons (hE (eC (.int 9))) aNil))))))) (aCons (hE (eFz (e2 gAdd (hE (eC (.int 1))) (hE (eCall 2 F_law_draw (aCons (hV 0) (aCons (hE (eC (.int 9))) aNil))))))) aNil))))) (gNm 4)) (bCons (bAsg (e2 gAdd (hV 4) (hE (eSl (hE (eCall 2 F_law_mixed (aCons (hV 0) (aCons (hV 4) aNil)))) (pN) (pS (hE (eC (.int 1))))))) (gNm 4)) (bCons (bAsg (eN gList (aCons (hV 4) aNil)) (gNm 6)) (bCons (bAsg (eTup (aCons (hE (eN gSum (aCons (hE (eLc [9, 10] (iSq (hV 4)) (gTp 2 (gsCons (gNm 9) (gsCons (gNm 10) gsNil))) (tAll) (eV 9))) aNil))) (aCons (hE (eN gSum (aCons (hE (eLc [9, 10] (iSq (hV 4)) (gTp 2 (gsCons (gNm 9) (gsCons (gNm 10) gsNil))) (tAll) (eV 10))) aNil))) aNil))) (gTp 2 (gsCons (gNm 7) (gsCons (gNm 8) gsNil)))) (bCons (bAsg (eLc [9, 10] (iSq (hV 4)) (gTp 2 (gsCons (gNm 9) (gsCons (gNm 10) gsNil))) (tAll) (eFz (eCall 2 F_law_part (aCons (hE (eN gAbs (aCons (hE (e2 gSubt (hE (e2 gMul (hV 10) (hV 7))) (hE (e2 gMul (hV 8) (hV 9))))) aNil))) (aCons (hE (e2 gMul (hV 9) (hV 7))) aNil))))) (gNm 11)) (bCons (bAsg (eC (.int 0)) (gNm 12)) (bCons (bFor (iRg1 (aCons (hE (eN gLen (aCons (hV 11) aNil))) aNil)) (gNm 5) (bIf (tB' (e2 gGt (hE (e2 gMul (hE (e2 gIdx (hE (e2 gIdx (hV 11) (hV 5))) (hE (eC (.int 0))))) (hE (e2 gIdx (hE (e2 gIdx (hV 11) (hV 12))) (hE (eC (.int 1))))))) (hE (e2 gMul (hE (e2 gIdx (hE (e2 gIdx (hV 11) (hV 12))) (hE (eC (.int 0))))) (hE (e2 gIdx (hE (e2 gIdx (hV 11) (hV 5))) (hE (eC (.int 1))))))))) (bAsg (eV 5) (gNm 12)) (bNil))) (bCons (bIf (tOr' (tNo (tT (hE (eCall 2 F_law_same (aCons (hE (eFz (eCall 1 F_mean_scale (aCons (hV 6) aNil)))) (aCons (hE (eFz (eCall 2 F_law_part (aCons (hV 8) (aCons (hV 7) aNil))))) aNil)))))) (tNo (tT (hE (eCall 2 F_law_same (aCons (hE (eFz (eCall 1 F_worst_bar (aCons (hV 6) aNil)))) (aCons (hV 12) aNil))))))) (bRet (eC (.bl false))) (bNil)) (bRet (e2 gEq (hV 6) (hV 4)))))))))))))))
noncomputable def F_law_lengths : List D → Option (D × List D) := fnD [true] 13 d_law_lengths
theorem w_law_lengths (T : Top K mg) (h_by_scale : FOk P w K mg base 8 "by_scale" ["length", "bar", "known"] F_by_scale) (h_depth_of : FOk P w K mg base 8 "depth_of" ["base", "focus", "shift"] F_depth_of) (h_shadow_height : FOk P w K mg base 8 "shadow_height" ["shadow", "stick", "length"] F_shadow_height) (h_mean_scale : FOk P w K mg base 8 "mean_scale" ["bars"] F_mean_scale) (h_worst_bar : FOk P w K mg base 8 "worst_bar" ["bars"] F_worst_bar) (h_law_draw : FOk P w K mg base 8 "_law_draw" ["box", "many"] F_law_draw) (h_law_same : FOk P w K mg base 8 "_law_same" ["told", "due"] F_law_same) (h_law_mixed : FOk P w K mg base 8 "_law_mixed" ["box", "lot"] F_law_mixed) (h_law_part : FOk P w K mg base 8 "_law_part" ["top", "bottom"] F_law_part) : FOk P w K mg base 9 "_law_lengths" ["box"] F_law_lengths := by
  obtain ⟨f, fd, FF, fb, fm⟩ := T.f_law_lengths
  have nd := sc_law_lengths.nd
  exact def_ok FF sc_law_lengths fb fm [0] [true] 13 d_law_lengths rfl rfl (by decide) (by decide) fun cdv A outer s H E hr => dss_cons (ds_par 1 2 rfl nd (da_cons (dh_of (de_call h_law_part hr rfl (da_cons (dh_of (de_call h_law_draw hr rfl (da_cons (dh_var 0) (da_cons (dh_of (de_int)) da_nil)))) (da_cons (dh_of (de_op op_addA o2_add (dh_of (de_int)) (dh_of (de_call h_law_draw hr rfl (da_cons (dh_var 0) (da_cons (dh_of (de_int)) da_nil)))))) da_nil)))) (da_cons (dh_of (de_call h_law_part hr rfl (da_cons (dh_of (de_op op_addA o2_add (dh_of (de_int)) (dh_of (de_call h_law_draw hr rfl (da_cons (dh_var 0) (da_cons (dh_of (de_int)) da_nil)))))) (da_cons (dh_of (de_op op_addA o2_add (dh_of (de_int)) (dh_of (de_call h_law_draw hr rfl (da_cons (dh_var 0) (da_cons (dh_of (de_int)) da_nil)))))) da_nil)))) da_nil))) (dss_cons (ds_set 3 nd (de_call h_law_part hr rfl (da_cons (dh_of (de_fz (de_op op_addA o2_add (dh_of (de_int)) (dh_of (de_call h_law_draw hr rfl (da_cons (dh_var 0) (da_cons (dh_of (de_int)) da_nil))))))) (da_cons (dh_of (de_fz (de_op op_addA o2_add (dh_of (de_int)) (dh_of (de_call h_law_draw hr rfl (da_cons (dh_var 0) (da_cons (dh_of (de_int)) da_nil))))))) da_nil)))) (dss_cons (ds_if (dt_not (dt_truth (dh_of (de_call h_law_same hr rfl (da_cons (dh_of (de_fz (de_call h_by_scale hr rfl (da_cons (dh_var 1) (da_cons (dh_var 3) (da_cons (dh_var 2) da_nil)))))) (da_cons (dh_of (de_fz (de_call h_law_part hr rfl (da_cons (dh_of (de_op op_mulA o2_mul (dh_of (de_op op_mulA o2_mul (dh_of (de_ix ix_seq o2_idx (dh_var 1) (dh_of (de_int)) (fun _ _ => rfl))) (dh_of (de_ix ix_seq o2_idx (dh_var 2) (dh_of (de_int)) (fun _ _ => rfl))))) (dh_of (de_ix ix_seq o2_idx (dh_var 3) (dh_of (de_int)) (fun _ _ => rfl))))) (da_cons (dh_of (de_op op_mulA o2_mul (dh_of (de_op op_mulA o2_mul (dh_of (de_ix ix_seq o2_idx (dh_var 1) (dh_of (de_int)) (fun _ _ => rfl))) (dh_of (de_ix ix_seq o2_idx (dh_var 2) (dh_of (de_int)) (fun _ _ => rfl))))) (dh_of (de_ix ix_seq o2_idx (dh_var 3) (dh_of (de_int)) (fun _ _ => rfl))))) da_nil))))) da_nil)))))) (dss_one (ds_ret (de_bl))) (dss_nil)) (dss_cons (ds_if (dt_not (dt_truth (dh_of (de_call h_law_same hr rfl (da_cons (dh_of (de_fz (de_call h_depth_of hr rfl (da_cons (dh_var 1) (da_cons (dh_var 2) (da_cons (dh_var 3) da_nil)))))) (da_cons (dh_of (de_fz (de_call h_law_part hr rfl (da_cons (dh_of (de_op op_mulA o2_mul (dh_of (de_op op_mulA o2_mul (dh_of (de_ix ix_seq o2_idx (dh_var 1) (dh_of (de_int)) (fun _ _ => rfl))) (dh_of (de_ix ix_seq o2_idx (dh_var 2) (dh_of (de_int)) (fun _ _ => rfl))))) (dh_of (de_ix ix_seq o2_idx (dh_var 3) (dh_of (de_int)) (fun _ _ => rfl))))) (da_cons (dh_of (de_op op_mulA o2_mul (dh_of (de_op op_mulA o2_mul (dh_of (de_ix ix_seq o2_idx (dh_var 1) (dh_of (de_int)) (fun _ _ => rfl))) (dh_of (de_ix ix_seq o2_idx (dh_var 2) (dh_of (de_int)) (fun _ _ => rfl))))) (dh_of (de_ix ix_seq o2_idx (dh_var 3) (dh_of (de_int)) (fun _ _ => rfl))))) da_nil))))) da_nil)))))) (dss_one (ds_ret (de_bl))) (dss_nil)) (dss_cons (ds_if (dt_not (dt_truth (dh_of (de_call h_law_same hr rfl (da_cons (dh_of (de_fz (de_call h_shadow_height hr rfl (da_cons (dh_var 1) (da_cons (dh_var 2) (da_cons (dh_var 3) da_nil)))))) (da_cons (dh_of (de_fz (de_call h_law_part hr rfl (da_cons (dh_of (de_op op_mulA o2_mul (dh_of (de_op op_mulA o2_mul (dh_of (de_ix ix_seq o2_idx (dh_var 1) (dh_of (de_int)) (fun _ _ => rfl))) (dh_of (de_ix ix_seq o2_idx (dh_var 2) (dh_of (de_int)) (fun _ _ => rfl))))) (dh_of (de_ix ix_seq o2_idx (dh_var 3) (dh_of (de_int)) (fun _ _ => rfl))))) (da_cons (dh_of (de_op op_mulA o2_mul (dh_of (de_op op_mulA o2_mul (dh_of (de_ix ix_seq o2_idx (dh_var 1) (dh_of (de_int)) (fun _ _ => rfl))) (dh_of (de_ix ix_seq o2_idx (dh_var 2) (dh_of (de_int)) (fun _ _ => rfl))))) (dh_of (de_ix ix_seq o2_idx (dh_var 3) (dh_of (de_int)) (fun _ _ => rfl))))) da_nil))))) da_nil)))))) (dss_one (ds_ret (de_bl))) (dss_nil)) (dss_cons (ds_setLc 4 (own := [("k", 5)]) [0, 1, 2, 3, 4, 5, 6, 7, 8, 9, 10, 11, 12] [0, 1, 2, 3, 4, 6, 7, 8, 9, 10, 11, 12] 13 rfl nd rfl (di_range1 rfl T.range_ (da_cons (dh_of (de_op op_addA o2_add (dh_of (de_int)) (dh_of (de_call h_law_draw hr rfl (da_cons (dh_var 0) (da_cons (dh_of (de_int)) da_nil)))))) da_nil)) (blk_ok (by kernel_rfl)) (fun _ _ _ _ _ => dg_name 5 nd) (fun _ _ _ _ _ => dts_nil) (fun _ _ _ _ _ => de_fz (de_tup (da_cons (dh_of (de_fz (de_op op_addA o2_add (dh_of (de_int)) (dh_of (de_call h_law_draw hr rfl (da_cons (dh_var 0) (da_cons (dh_of (de_int)) da_nil))))))) (da_cons (dh_of (de_fz (de_op op_addA o2_add (dh_of (de_int)) (dh_of (de_call h_law_draw hr rfl (da_cons (dh_var 0) (da_cons (dh_of (de_int)) da_nil))))))) da_nil))))) (dss_cons (ds_set 4 nd (de_op op_addA o2_add (dh_var 4) (dh_of (de_sl (dh_of (de_call h_law_mixed hr rfl (da_cons (dh_var 0) (da_cons (dh_var 4) da_nil)))) (dp_none) (dp_some (dh_of (de_int))))))) (dss_cons (ds_set 6 nd (de_ty call_list_of on_list rfl T.list_ boot_list (da_cons (dh_var 4) da_nil))) (dss_cons (ds_asg (de_tup (da_cons (dh_of (de_bi (cr_sum rfl) on_sum rfl T.sum_ boot_sum (da_cons (dh_of (de_lc (own := [("one", 9), ("other", 10)]) [0, 1, 2, 3, 4, 5, 6, 7, 8, 9, 10, 11, 12] [0, 1, 2, 3, 4, 5, 6, 7, 8, 11, 12] 13 rfl nd rfl (di_any (dh_var 4) (hsl_var (by decide))) (blk_ok (by kernel_rfl)) (fun _ _ _ _ _ => dg_tup rfl (dgs_cons (dg_name 9 nd) (dgs_cons (dg_name 10 nd) dgs_nil))) (fun _ _ _ _ _ => dts_nil) (fun _ _ _ _ _ => de_var 9))) da_nil))) (da_cons (dh_of (de_bi (cr_sum rfl) on_sum rfl T.sum_ boot_sum (da_cons (dh_of (de_lc (own := [("one", 9), ("other", 10)]) [0, 1, 2, 3, 4, 5, 6, 7, 8, 9, 10, 11, 12] [0, 1, 2, 3, 4, 5, 6, 7, 8, 11, 12] 13 rfl nd rfl (di_any (dh_var 4) (hsl_var (by decide))) (blk_ok (by kernel_rfl)) (fun _ _ _ _ _ => dg_tup rfl (dgs_cons (dg_name 9 nd) (dgs_cons (dg_name 10 nd) dgs_nil))) (fun _ _ _ _ _ => dts_nil) (fun _ _ _ _ _ => de_var 10))) da_nil))) da_nil))) (dg_tup rfl (dgs_cons (dg_name 7 nd) (dgs_cons (dg_name 8 nd) dgs_nil)))) (dss_cons (ds_setLc 11 (own := [("one", 9), ("other", 10)]) [0, 1, 2, 3, 4, 5, 6, 7, 8, 9, 10, 11, 12] [0, 1, 2, 3, 4, 5, 6, 7, 8, 11, 12] 13 rfl nd rfl (di_any (dh_var 4) (hsl_var (by decide))) (blk_ok (by kernel_rfl)) (fun _ _ _ _ _ => dg_tup rfl (dgs_cons (dg_name 9 nd) (dgs_cons (dg_name 10 nd) dgs_nil))) (fun _ _ _ _ _ => dts_nil) (fun _ _ _ _ _ => de_fz (de_call h_law_part hr rfl (da_cons (dh_of (de_bi call_abs on_abs rfl T.abs_ boot_abs (da_cons (dh_of (de_op op_sub o2_sub (dh_of (de_op op_mulA o2_mul (dh_var 10) (dh_var 7))) (dh_of (de_op op_mulA o2_mul (dh_var 8) (dh_var 9))))) da_nil))) (da_cons (dh_of (de_op op_mulA o2_mul (dh_var 9) (dh_var 7))) da_nil))))) (dss_cons (ds_set 12 nd (de_int)) (dss_cons (ds_for [0] rfl (di_range1 rfl T.range_ (da_cons (dh_of (de_bi call_len on_len rfl T.len_ boot_len (da_cons (dh_var 11) da_nil))) da_nil)) (dg_name 5 nd) (dss_one (ds_if (dt_cmp op_gt o2_gt (dh_of (de_op op_mulA o2_mul (dh_of (de_ix ix_seq o2_idx (dh_of (de_ix ix_seq o2_idx (dh_var 11) (dh_var 5) (fun _ _ => rfl))) (dh_of (de_int)) (fun _ _ => rfl))) (dh_of (de_ix ix_seq o2_idx (dh_of (de_ix ix_seq o2_idx (dh_var 11) (dh_var 12) (fun _ _ => rfl))) (dh_of (de_int)) (fun _ _ => rfl))))) (dh_of (de_op op_mulA o2_mul (dh_of (de_ix ix_seq o2_idx (dh_of (de_ix ix_seq o2_idx (dh_var 11) (dh_var 12) (fun _ _ => rfl))) (dh_of (de_int)) (fun _ _ => rfl))) (dh_of (de_ix ix_seq o2_idx (dh_of (de_ix ix_seq o2_idx (dh_var 11) (dh_var 5) (fun _ _ => rfl))) (dh_of (de_int)) (fun _ _ => rfl))))) (nomark _)) (dss_one (ds_set 12 nd (de_var 5))) (dss_nil)))) (dss_cons (ds_if (dt_w (dw_or (dt_not (dt_truth (dh_of (de_call h_law_same hr rfl (da_cons (dh_of (de_fz (de_call h_mean_scale hr rfl (da_cons (dh_var 6) da_nil)))) (da_cons (dh_of (de_fz (de_call h_law_part hr rfl (da_cons (dh_var 8) (da_cons (dh_var 7) da_nil))))) da_nil)))))) (dw_or1 (dt_not (dt_truth (dh_of (de_call h_law_same hr rfl (da_cons (dh_of (de_fz (de_call h_worst_bar hr rfl (da_cons (dh_var 6) da_nil)))) (da_cons (dh_var 12) da_nil))))))))) (dss_one (ds_ret (de_bl))) (dss_nil)) (dss_one (ds_ret (de_cmp (op_eqA (hu64 hr)) o2_eq (dh_var 6) (dh_var 4) (nomark _))))))))))))))))
noncomputable def d_law : Ev → Option Out := bCons (bAsg (eLst (aCons (hE (eFz (eCall 3 F_law_digits (aCons (hV 0) (aCons (hE (eC (.int 0))) (aCons (hE (eC (.int 16))) aNil)))))) (aCons (hE (eC (.int 0))) aNil))) (gNm 1)) (bCons (bFor (iRg1 (aCons (hE (eC (.int 2))) aNil)) (gNm 2) (bCons (bAsg (eCall 1 F_law_view (aCons (hV 1) aNil)) (gNm 3)) (bCons (bAsg (eCall 3 F_law_places (aCons (hV 1) (aCons (hV 3) (aCons (hE (eC (.int 4))) aNil)))) (gNm 4)) (bCons (bAsg (eLc [6] (iSq (hV 4)) (gNm 6) (tAll) (eFz (eCall 2 F_law_seen (aCons (hV 3) (aCons (hV 6) aNil))))) (gNm 5)) (bCons (bAsg (e2 gIdx (hE (eLc [8] (iSq (hV 3)) (gNm 8) (tB' (e2 gNe (hV 8) (hE (eC (.int 0))))) (eV 8))) (hE (eC (.int 0)))) (gNm 7)) (bCons (bAsg (eN gTuple (aCons (hE (eLc [8] (iSq (hV 3)) (gNm 8) (tAll) (eFz (eCall 2 F_law_part (aCons (hV 8) (aCons (hV 7) aNil)))))) aNil)) (gNm 9)) (bCons (bPar 10 11 (aCons (hE (eSl (hV 4) (pN) (pS (hE (eC (.int 3)))))) (aCons (hE (eSl (hV 5) (pN) (pS (hE (eC (.int 3)))))) aNil))) (bCons (bIf (tOr' (tNo (tT (hE (eCall 2 F_law_same (aCons (hE (eFz (eCall 2 F_view_of (aCons (hV 10) (aCons (hV 11) aNil))))) (aCons (hV 9) aNil)))))) (tOr' (tB' (e2 gNe (hV 10) (hE (eSl (hV 4) (pN) (pS (hE (eC (.int 3)))))))) (tB' (e2 gNe (hV 11) (hE (eSl (hV 5) (pN) (pS (hE (eC (.int 3)))))))))) (bRet (eC (.bl false))) (bNil)) (bCons (bIf (tNo (tT (hE (eCall 3 F_law_looks (aCons (hV 1) (aCons (hV 3) (aCons (hV 9) aNil))))))) (bRet (eC (.bl false))) (bNil)) (bCons (bAsg (eV 4) (gTp 4 (gsCons (gNm 12) (gsCons (gNm 13) (gsCons (gNm 14) (gsCons (gNm 15) gsNil)))))) (bCons (bIf (tNo (tT (hE (eCall 2 F_law_same (aCons (hE (eFz (eCall 4 F_cross_ratio (aCons (hV 12) (aCons (hV 13) (aCons (hV 14) (aCons (hV 15) aNil))))))) (aCons (hE (eFz (eCall 4 F_law_cross (aCons (hV 12) (aCons (hV 13) (aCons (hV 14) (aCons (hV 15) aNil))))))) aNil)))))) (bRet (eC (.bl false))) (bNil)) (bCons (bAsg (eV 5) (gTp 4 (gsCons (gNm 12) (gsCons (gNm 13) (gsCons (gNm 14) (gsCons (gNm 15) gsNil)))))) (bCons (bIf (tNo (tT (hE (eCall 2 F_law_same (aCons (hE (eFz (eCall 4 F_cross_ratio (aCons (hV 12) (aCons (hV 13) (aCons (hV 14) (aCons (hV 15) aNil))))))) (aCons (hE (eFz (eCall 4 F_law_cross (aCons (hE (e2 gIdx (hV 4) (hE (eC (.int 0))))) (aCons (hE (e2 gIdx (hV 4) (hE (eC (.int 1))))) (aCons (hE (e2 gIdx (hV 4) (hE (eC (.int 2))))) (aCons (hE (e2 gIdx (hV 4) (hE (eC (.int 3))))) aNil))))))) aNil)))))) (bRet (eC (.bl false))) (bNil)) (bCons (bAsg (eCall 2 F_law_draw (aCons (hV 1) (aCons (hE (eC (.int 4))) aNil))) (gNm 16)) (bCons (bAsg (eN gList (aCons (hV 5) aNil)) (gNm 17)) (bCons (bAsg (eCall 2 F_law_part (aCons (hE (eFz (e2 gAdd (hE (e2 gIdx (hE (e2 gIdx (hV 5) (hV 16))) (hE (eC (.int 0))))) (hE (e2 gMul (hE (e2 gAdd (hE (eC (.int 1))) (hE (eCall 2 F_law_draw (aCons (hV 1) (aCons (hE (eC (.int 2))) aNil)))))) (hE (e2 gIdx (hE (e2 gIdx (hV 5) (hV 16))) (hE (eC (.int 1)))))))))) (aCons (hE (e2 gIdx (hE (e2 gIdx (hV 5) (hV 16))) (hE (eC (.int 1))))) aNil))) (gIx 17 (hV 16))) (bCons (bAsg (eLc [19] (iSq (hE (eLst (aCons (hE (eC (.int 1))) (aCons (hE (eC (.int 0))) (aCons (hE (eC (.int 3))) (aCons (hE (eC (.int 2))) aNil))))))) (gNm 19) (tAll) (e2 gIdx (hV 5) (hV 19))) (gNm 18)) (bCons (bFor (iSq (hE (eLst (aCons (hE (eV 5)) (aCons (hE (eV 17)) (aCons (hE (eV 18)) (aCons (hE (eFz (eLc [19] (iSq (hE (eLst (aCons (hE (eC (.int 1))) (aCons (hE (eC (.int 0))) (aCons (hE (eC (.int 2))) (aCons (hE (eC (.int 3))) aNil))))))) (gNm 19) (tAll) (e2 gIdx (hV 5) (hV 19))))) (aCons (hE (eFz (eCall 3 F_law_places (aCons (hV 1) (aCons (hV 3) (aCons (hE (eC (.int 4))) aNil)))))) aNil)))))))) (gNm 20) (bIf (tB' (e2 gEq (hE (eN gLen (aCons (hE (eLc [6] (iSq (hV 20)) (gNm 6) (tB' (e2 gGt (hE (eMt "list" gCntD (hV 20) (aCons (hV 6) aNil))) (hE (eC (.int 1))))) (eC (.int 1)))) aNil))) (hE (eC (.int 0))))) (bCons (bAsg (e2 gEq (hE (eCall 4 F_law_cross (aCons (hE (e2 gIdx (hV 20) (hE (eC (.int 0))))) (aCons (hE (e2 gIdx (hV 20) (hE (eC (.int 1))))) (aCons (hE (e2 gIdx (hV 20) (hE (eC (.int 2))))) (aCons (hE (e2 gIdx (hV 20) (hE (eC (.int 3))))) aNil)))))) (hE (eCall 4 F_law_cross (aCons (hE (e2 gIdx (hV 4) (hE (eC (.int 0))))) (aCons (hE (e2 gIdx (hV 4) (hE (eC (.int 1))))) (aCons (hE (e2 gIdx (hV 4) (hE (eC (.int 2))))) (aCons (hE (e2 gIdx (hV 4) (hE (eC (.int 3))))) aNil))))))) (gNm 21)) (bIf (tNo (tT (hE (eCall 2 F_law_same (aCons (hE (eFz (eCall 2 F_same_line (aCons (hE (eFz (eN gList (aCons (hV 4) aNil)))) (aCons (hE (eFz (eN gList (aCons (hV 20) aNil)))) aNil))))) (aCons (hV 21) aNil)))))) (bRet (eC (.bl false))) (bNil))) (bNil))) (bIf (tNo (tT (hE (eCall 1 F_law_lengths (aCons (hV 1) aNil))))) (bRet (eC (.bl false))) (bNil)))))))))))))))))))) (bCons (bIf (tOr' (tNo (tT (hE (eCall 2 F_law_same (aCons (hE (eFz (eCall 4 F_cross_ratio (aCons (hE (eFz (eTup (aCons (hE (eC (.int 0))) (aCons (hE (eC (.int 1))) aNil))))) (aCons (hE (eFz (eTup (aCons (hE (eC (.int 1))) (aCons (hE (eC (.int 1))) aNil))))) (aCons (hE (eFz (eTup (aCons (hE (eC (.int 2))) (aCons (hE (eC (.int 1))) aNil))))) (aCons (hE (eFz (eTup (aCons (hE (eC (.int 3))) (aCons (hE (eC (.int 1))) aNil))))) aNil))))))) (aCons (hE (eFz (eTup (aCons (hE (eC (.int 4))) (aCons (hE (eC (.int 3))) aNil))))) aNil)))))) (tNo (tT (hE (eCall 2 F_law_same (aCons (hE (eFz (eCall 4 F_cross_ratio (aCons (hE (eFz (eTup (aCons (hE (eC (.int 0))) (aCons (hE (eC (.int 1))) aNil))))) (aCons (hE (eFz (eTup (aCons (hE (eC (.int 2))) (aCons (hE (eC (.int 1))) aNil))))) (aCons (hE (eFz (eTup (aCons (hE (eC (.int 1))) (aCons (hE (eC (.int 1))) aNil))))) (aCons (hE (eFz (eTup (aCons (hE (eC (.int 3))) (aCons (hE (eC (.int 1))) aNil))))) aNil))))))) (aCons (hE (eFz (eTup (aCons (hE (e1 gNeg (hE (eC (.int 1))))) (aCons (hE (eC (.int 3))) aNil))))) aNil))))))) (bRet (eC (.bl false))) (bNil)) (bCons (bIf (tNo (tT (hE (eCall 2 F_law_same (aCons (hE (eFz (eCall 2 F_view_of (aCons (hE (eFz (eLst (aCons (hE (eFz (eTup (aCons (hE (eC (.int 0))) (aCons (hE (eC (.int 1))) aNil))))) (aCons (hE (eFz (eTup (aCons (hE (eC (.int 1))) (aCons (hE (eC (.int 1))) aNil))))) (aCons (hE (eFz (eTup (aCons (hE (eC (.int 2))) (aCons (hE (eC (.int 1))) aNil))))) aNil)))))) (aCons (hE (eFz (eLst (aCons (hE (eFz (eTup (aCons (hE (eC (.int 0))) (aCons (hE (eC (.int 1))) aNil))))) (aCons (hE (eFz (eTup (aCons (hE (eC (.int 1))) (aCons (hE (eC (.int 2))) aNil))))) (aCons (hE (eFz (eTup (aCons (hE (eC (.int 2))) (aCons (hE (eC (.int 3))) aNil))))) aNil)))))) aNil))))) (aCons (hE (eFz (eTup (aCons (hE (eFz (eTup (aCons (hE (eC (.int 1))) (aCons (hE (eC (.int 1))) aNil))))) (aCons (hE (eFz (eTup (aCons (hE (eC (.int 0))) (aCons (hE (eC (.int 1))) aNil))))) (aCons (hE (eFz (eTup (aCons (hE (eC (.int 1))) (aCons (hE (eC (.int 1))) aNil))))) (aCons (hE (eFz (eTup (aCons (hE (eC (.int 1))) (aCons (hE (eC (.int 1))) aNil))))) aNil))))))) aNil)))))) (bRet (eC (.bl false))) (bNil)) (bCons (bAsg (eTup (aCons (hE (eFz (eTup (aCons (hE (eC (.int 0))) (aCons (hE (eC (.int 1))) aNil))))) (aCons (hE (eFz (eTup (aCons (hE (eC (.int 1))) (aCons (hE (eC (.int 1))) aNil))))) (aCons (hE (eFz (eTup (aCons (hE (eC (.int 1))) (aCons (hE (eC (.int 2))) aNil))))) (aCons (hE (eFz (eTup (aCons (hE (eC (.int 0))) (aCons (hE (eC (.int 1))) aNil))))) aNil))))) (gNm 22)) (bRet (eAn (eCall 2 F_law_same (aCons (hE (eFz (eCall 2 F_seen_at (aCons (hV 22) (aCons (hE (eFz (eTup (aCons (hE (eC (.int 4))) (aCons (hE (eC (.int 1))) aNil))))) aNil))))) (aCons (hE (eFz (eTup (aCons (hE (eC (.int 1))) (aCons (hE (eC (.int 2))) aNil))))) aNil))) (eAn (e2 (gIsB false) (hE (eCall 2 F_seen_at (aCons (hV 22) (aCons (hE (eFz (eTup (aCons (hE (eC (.int 0))) (aCons (hE (eC (.int 1))) aNil))))) aNil)))) (hE (eC .non))) (eAn (eCall 2 F_law_same (aCons (hE (eFz (eCall 1 F_horizon (aCons (hV 22) aNil)))) (aCons (hE (eFz (eTup (aCons (hE (eC (.int 0))) (aCons (hE (eC (.int 1))) aNil))))) aNil))) (eCall 2 F_law_same (aCons (hE (eFz (eCall 1 F_worst_bar (aCons (hE (eFz (eLst (aCons (hE (eFz (eTup (aCons (hE (eC (.int 1))) (aCons (hE (eC (.int 1))) aNil))))) (aCons (hE (eFz (eTup (aCons (hE (eC (.int 1))) (aCons (hE (eC (.int 3))) aNil))))) (aCons (hE (eFz (eTup (aCons (hE (eC (.int 1))) (aCons (hE (eC (.int 5))) aNil))))) aNil)))))) aNil)))) (aCons (hE (eC (.int 0))) aNil)))))))))))
noncomputable def F_law : List D → Option (D × List D) := fnD [true] 23 d_law
theorem w_law (T : Top K mg) (h_cross_ratio : FOk P w K mg base 9 "cross_ratio" ["one", "other", "third", "far"] F_cross_ratio) (h_same_line : FOk P w K mg base 9 "same_line" ["ground", "picture"] F_same_line) (h_view_of : FOk P w K mg base 9 "view_of" ["ground", "picture"] F_view_of) (h_seen_at : FOk P w K mg base 9 "seen_at" ["view", "place"] F_seen_at) (h_horizon : FOk P w K mg base 9 "horizon" ["view"] F_horizon) (h_worst_bar : FOk P w K mg base 9 "worst_bar" ["bars"] F_worst_bar) (h_law_digits : FOk P w K mg base 9 "_law_digits" ["script", "first", "last"] F_law_digits) (h_law_draw : FOk P w K mg base 9 "_law_draw" ["box", "many"] F_law_draw) (h_law_same : FOk P w K mg base 9 "_law_same" ["told", "due"] F_law_same) (h_law_part : FOk P w K mg base 9 "_law_part" ["top", "bottom"] F_law_part) (h_law_view : FOk P w K mg base 9 "_law_view" ["box"] F_law_view) (h_law_seen : FOk P w K mg base 9 "_law_seen" ["numbers_there", "place"] F_law_seen) (h_law_places : FOk P w K mg base 9 "_law_places" ["box", "view", "many"] F_law_places) (h_law_cross : FOk P w K mg base 9 "_law_cross" ["one", "other", "third", "far"] F_law_cross) (h_law_looks : FOk P w K mg base 9 "_law_looks" ["box", "view", "told"] F_law_looks) (h_law_lengths : FOk P w K mg base 9 "_law_lengths" ["box"] F_law_lengths) : FOk P w K mg base 10 "law" ["script"] F_law := by
  obtain ⟨f, fd, FF, fb, fm⟩ := T.f_law
  have nd := sc_law.nd
  exact def_ok FF sc_law fb fm [0] [true] 23 d_law rfl rfl (by decide) (by decide) fun cdv A outer s H E hr => dss_cons (ds_set 1 nd (de_lst (da_cons (dh_of (de_fz (de_call h_law_digits hr rfl (da_cons (dh_var 0) (da_cons (dh_of (de_int)) (da_cons (dh_of (de_int)) da_nil)))))) (da_cons (dh_of (de_int)) da_nil)))) (dss_cons (ds_for [0] rfl (di_range1 rfl T.range_ (da_cons (dh_of (de_int)) da_nil)) (dg_name 2 nd) (dss_cons (ds_set 3 nd (de_call h_law_view hr rfl (da_cons (dh_var 1) da_nil))) (dss_cons (ds_set 4 nd (de_call h_law_places hr rfl (da_cons (dh_var 1) (da_cons (dh_var 3) (da_cons (dh_of (de_int)) da_nil))))) (dss_cons (ds_set 5 nd (de_lc (own := [("place", 6)]) [0, 1, 2, 3, 4, 5, 6, 7, 8, 9, 10, 11, 12, 13, 14, 15, 16, 17, 18, 19, 20, 21, 22] [0, 1, 2, 3, 4, 5, 7, 8, 9, 10, 11, 12, 13, 14, 15, 16, 17, 18, 19, 20, 21, 22] 23 rfl nd rfl (di_any (dh_var 4) (hsl_var (by decide))) (blk_ok (by kernel_rfl)) (fun _ _ _ _ _ => dg_name 6 nd) (fun _ _ _ _ _ => dts_nil) (fun _ _ _ _ _ => de_fz (de_call h_law_seen hr rfl (da_cons (dh_var 3) (da_cons (dh_var 6) da_nil)))))) (dss_cons (ds_set 7 nd (de_ix ix_seq o2_idx (dh_of (de_lc (own := [("part", 8)]) [0, 1, 2, 3, 4, 5, 6, 7, 8, 9, 10, 11, 12, 13, 14, 15, 16, 17, 18, 19, 20, 21, 22] [0, 1, 2, 3, 4, 5, 6, 7, 9, 10, 11, 12, 13, 14, 15, 16, 17, 18, 19, 20, 21, 22] 23 rfl nd rfl (di_any (dh_var 3) (hsl_var (by decide))) (blk_ok (by kernel_rfl)) (fun _ _ _ _ _ => dg_name 8 nd) (fun _ _ _ _ _ => dts_one (dt_cmp (op_neA (hu64 hr)) o2_ne (dh_var 8) (dh_of (de_int)) (nomark _))) (fun _ _ _ _ _ => de_var 8))) (dh_of (de_int)) (fun _ _ => rfl))) (dss_cons (ds_set 9 nd (de_ty call_tuple_of on_tuple rfl T.tuple_ boot_tuple (da_cons (dh_of (de_lc (own := [("part", 8)]) [0, 1, 2, 3, 4, 5, 6, 7, 8, 9, 10, 11, 12, 13, 14, 15, 16, 17, 18, 19, 20, 21, 22] [0, 1, 2, 3, 4, 5, 6, 7, 9, 10, 11, 12, 13, 14, 15, 16, 17, 18, 19, 20, 21, 22] 23 rfl nd rfl (di_any (dh_var 3) (hsl_var (by decide))) (blk_ok (by kernel_rfl)) (fun _ _ _ _ _ => dg_name 8 nd) (fun _ _ _ _ _ => dts_nil) (fun _ _ _ _ _ => de_fz (de_call h_law_part hr rfl (da_cons (dh_var 8) (da_cons (dh_var 7) da_nil)))))) da_nil))) (dss_cons (ds_par 10 11 rfl nd (da_cons (dh_of (de_sl (dh_var 4) (dp_none) (dp_some (dh_of (de_int))))) (da_cons (dh_of (de_sl (dh_var 5) (dp_none) (dp_some (dh_of (de_int))))) da_nil))) (dss_cons (ds_if (dt_w (dw_or (dt_not (dt_truth (dh_of (de_call h_law_same hr rfl (da_cons (dh_of (de_fz (de_call h_view_of hr rfl (da_cons (dh_var 10) (da_cons (dh_var 11) da_nil))))) (da_cons (dh_var 9) da_nil)))))) (dw_or (dt_cmp (op_neA (hu64 hr)) o2_ne (dh_var 10) (dh_of (de_sl (dh_var 4) (dp_none) (dp_some (dh_of (de_int))))) (nomark _)) (dw_or1 (dt_cmp (op_neA (hu64 hr)) o2_ne (dh_var 11) (dh_of (de_sl (dh_var 5) (dp_none) (dp_some (dh_of (de_int))))) (nomark _)))))) (dss_one (ds_ret (de_bl))) (dss_nil)) (dss_cons (ds_if (dt_not (dt_truth (dh_of (de_call h_law_looks hr rfl (da_cons (dh_var 1) (da_cons (dh_var 3) (da_cons (dh_var 9) da_nil))))))) (dss_one (ds_ret (de_bl))) (dss_nil)) (dss_cons (ds_asg (de_var 4) (dg_tup rfl (dgs_cons (dg_name 12 nd) (dgs_cons (dg_name 13 nd) (dgs_cons (dg_name 14 nd) (dgs_cons (dg_name 15 nd) dgs_nil)))))) (dss_cons (ds_if (dt_not (dt_truth (dh_of (de_call h_law_same hr rfl (da_cons (dh_of (de_fz (de_call h_cross_ratio hr rfl (da_cons (dh_var 12) (da_cons (dh_var 13) (da_cons (dh_var 14) (da_cons (dh_var 15) da_nil))))))) (da_cons (dh_of (de_fz (de_call h_law_cross hr rfl (da_cons (dh_var 12) (da_cons (dh_var 13) (da_cons (dh_var 14) (da_cons (dh_var 15) da_nil))))))) da_nil)))))) (dss_one (ds_ret (de_bl))) (dss_nil)) (dss_cons (ds_asg (de_var 5) (dg_tup rfl (dgs_cons (dg_name 12 nd) (dgs_cons (dg_name 13 nd) (dgs_cons (dg_name 14 nd) (dgs_cons (dg_name 15 nd) dgs_nil)))))) (dss_cons (ds_if (dt_not (dt_truth (dh_of (de_call h_law_same hr rfl (da_cons (dh_of (de_fz (de_call h_cross_ratio hr rfl (da_cons (dh_var 12) (da_cons (dh_var 13) (da_cons (dh_var 14) (da_cons (dh_var 15) da_nil))))))) (da_cons (dh_of (de_fz (de_call h_law_cross hr rfl (da_cons (dh_of (de_ix ix_seq o2_idx (dh_var 4) (dh_of (de_int)) (fun _ _ => rfl))) (da_cons (dh_of (de_ix ix_seq o2_idx (dh_var 4) (dh_of (de_int)) (fun _ _ => rfl))) (da_cons (dh_of (de_ix ix_seq o2_idx (dh_var 4) (dh_of (de_int)) (fun _ _ => rfl))) (da_cons (dh_of (de_ix ix_seq o2_idx (dh_var 4) (dh_of (de_int)) (fun _ _ => rfl))) da_nil))))))) da_nil)))))) (dss_one (ds_ret (de_bl))) (dss_nil)) (dss_cons (ds_set 16 nd (de_call h_law_draw hr rfl (da_cons (dh_var 1) (da_cons (dh_of (de_int)) da_nil)))) (dss_cons (ds_set 17 nd (de_ty call_list_of on_list rfl T.list_ boot_list (da_cons (dh_var 5) da_nil))) (dss_cons (ds_asg (de_call h_law_part hr rfl (da_cons (dh_of (de_fz (de_op op_addA o2_add (dh_of (de_ix ix_seq o2_idx (dh_of (de_ix ix_seq o2_idx (dh_var 5) (dh_var 16) (fun _ _ => rfl))) (dh_of (de_int)) (fun _ _ => rfl))) (dh_of (de_op op_mulA o2_mul (dh_of (de_op op_addA o2_add (dh_of (de_int)) (dh_of (de_call h_law_draw hr rfl (da_cons (dh_var 1) (da_cons (dh_of (de_int)) da_nil)))))) (dh_of (de_ix ix_seq o2_idx (dh_of (de_ix ix_seq o2_idx (dh_var 5) (dh_var 16) (fun _ _ => rfl))) (dh_of (de_int)) (fun _ _ => rfl)))))))) (da_cons (dh_of (de_ix ix_seq o2_idx (dh_of (de_ix ix_seq o2_idx (dh_var 5) (dh_var 16) (fun _ _ => rfl))) (dh_of (de_int)) (fun _ _ => rfl))) da_nil))) (dg_ix 17 (dh_var 16))) (dss_cons (ds_setLc 18 (own := [("k", 19)]) [0, 1, 2, 3, 4, 5, 6, 7, 8, 9, 10, 11, 12, 13, 14, 15, 16, 17, 18, 19, 20, 21, 22] [0, 1, 2, 3, 4, 5, 6, 7, 8, 9, 10, 11, 12, 13, 14, 15, 16, 17, 18, 20, 21, 22] 23 rfl nd rfl (di_any (dh_of (de_lst (da_cons (dh_of (de_int)) (da_cons (dh_of (de_int)) (da_cons (dh_of (de_int)) (da_cons (dh_of (de_int)) da_nil)))))) hsl_of) (blk_ok (by kernel_rfl)) (fun _ _ _ _ _ => dg_name 19 nd) (fun _ _ _ _ _ => dts_nil) (fun _ _ _ _ _ => de_ix ix_seq o2_idx (dh_var 5) (dh_var 19) (fun _ _ => rfl))) (dss_cons (ds_for [0] rfl (di_any (dh_of (de_lst (da_cons (dh_of (de_var 5)) (da_cons (dh_of (de_var 17)) (da_cons (dh_of (de_var 18)) (da_cons (dh_of (de_fz (de_lc (own := [("k", 19)]) [0, 1, 2, 3, 4, 5, 6, 7, 8, 9, 10, 11, 12, 13, 14, 15, 16, 17, 18, 19, 20, 21, 22] [0, 1, 2, 3, 4, 5, 6, 7, 8, 9, 10, 11, 12, 13, 14, 15, 16, 17, 18, 20, 21, 22] 23 rfl nd rfl (di_any (dh_of (de_lst (da_cons (dh_of (de_int)) (da_cons (dh_of (de_int)) (da_cons (dh_of (de_int)) (da_cons (dh_of (de_int)) da_nil)))))) hsl_of) (blk_ok (by kernel_rfl)) (fun _ _ _ _ _ => dg_name 19 nd) (fun _ _ _ _ _ => dts_nil) (fun _ _ _ _ _ => de_ix ix_seq o2_idx (dh_var 5) (dh_var 19) (fun _ _ => rfl))))) (da_cons (dh_of (de_fz (de_call h_law_places hr rfl (da_cons (dh_var 1) (da_cons (dh_var 3) (da_cons (dh_of (de_int)) da_nil)))))) da_nil))))))) hsl_of) (dg_name 20 nd) (dss_one (ds_if (dt_cmp (op_eqA (hu64 hr)) o2_eq (dh_of (de_bi call_len on_len rfl T.len_ boot_len (da_cons (dh_of (de_lc (own := [("place", 6)]) [0, 1, 2, 3, 4, 5, 6, 7, 8, 9, 10, 11, 12, 13, 14, 15, 16, 17, 18, 19, 20, 21, 22] [0, 1, 2, 3, 4, 5, 7, 8, 9, 10, 11, 12, 13, 14, 15, 16, 17, 18, 19, 20, 21, 22] 23 rfl nd rfl (di_any (dh_var 20) (hsl_var (by decide))) (blk_ok (by kernel_rfl)) (fun _ _ _ _ _ => dg_name 6 nd) (fun _ _ _ _ _ => dts_one (dt_cmp op_gt o2_gt (dh_of (de_mt PySem.F.plainAttrs_list PySem.F.slot_list_count PySem.F.type_list_count (mt_countD (hu65 hr)) on_countD (dh_var 20) (da_cons (dh_var 6) da_nil))) (dh_of (de_int)) (nomark _))) (fun _ _ _ _ _ => de_int))) da_nil))) (dh_of (de_int)) (nomark _)) (dss_cons (ds_set 21 nd (de_cmp (op_eqA (hu64 hr)) o2_eq (dh_of (de_call h_law_cross hr rfl (da_cons (dh_of (de_ix ix_seq o2_idx (dh_var 20) (dh_of (de_int)) (fun _ _ => rfl))) (da_cons (dh_of (de_ix ix_seq o2_idx (dh_var 20) (dh_of (de_int)) (fun _ _ => rfl))) (da_cons (dh_of (de_ix ix_seq o2_idx (dh_var 20) (dh_of (de_int)) (fun _ _ => rfl))) (da_cons (dh_of (de_ix ix_seq o2_idx (dh_var 20) (dh_of (de_int)) (fun _ _ => rfl))) da_nil)))))) (dh_of (de_call h_law_cross hr rfl (da_cons (dh_of (de_ix ix_seq o2_idx (dh_var 4) (dh_of (de_int)) (fun _ _ => rfl))) (da_cons (dh_of (de_ix ix_seq o2_idx (dh_var 4) (dh_of (de_int)) (fun _ _ => rfl))) (da_cons (dh_of (de_ix ix_seq o2_idx (dh_var 4) (dh_of (de_int)) (fun _ _ => rfl))) (da_cons (dh_of (de_ix ix_seq o2_idx (dh_var 4) (dh_of (de_int)) (fun _ _ => rfl))) da_nil)))))) (nomark _))) (dss_one (ds_if (dt_not (dt_truth (dh_of (de_call h_law_same hr rfl (da_cons (dh_of (de_fz (de_call h_same_line hr rfl (da_cons (dh_of (de_fz (de_ty call_list_of on_list rfl T.list_ boot_list (da_cons (dh_var 4) da_nil)))) (da_cons (dh_of (de_fz (de_ty call_list_of on_list rfl T.list_ boot_list (da_cons (dh_var 20) da_nil)))) da_nil))))) (da_cons (dh_var 21) da_nil)))))) (dss_one (ds_ret (de_bl))) (dss_nil)))) (dss_nil)))) (dss_one (ds_if (dt_not (dt_truth (dh_of (de_call h_law_lengths hr rfl (da_cons (dh_var 1) da_nil))))) (dss_one (ds_ret (de_bl))) (dss_nil))))))))))))))))))))) (dss_cons (ds_if (dt_w (dw_or (dt_not (dt_truth (dh_of (de_call h_law_same hr rfl (da_cons (dh_of (de_fz (de_call h_cross_ratio hr rfl (da_cons (dh_of (de_fz (de_tup (da_cons (dh_of (de_int)) (da_cons (dh_of (de_int)) da_nil))))) (da_cons (dh_of (de_fz (de_tup (da_cons (dh_of (de_int)) (da_cons (dh_of (de_int)) da_nil))))) (da_cons (dh_of (de_fz (de_tup (da_cons (dh_of (de_int)) (da_cons (dh_of (de_int)) da_nil))))) (da_cons (dh_of (de_fz (de_tup (da_cons (dh_of (de_int)) (da_cons (dh_of (de_int)) da_nil))))) da_nil))))))) (da_cons (dh_of (de_fz (de_tup (da_cons (dh_of (de_int)) (da_cons (dh_of (de_int)) da_nil))))) da_nil)))))) (dw_or1 (dt_not (dt_truth (dh_of (de_call h_law_same hr rfl (da_cons (dh_of (de_fz (de_call h_cross_ratio hr rfl (da_cons (dh_of (de_fz (de_tup (da_cons (dh_of (de_int)) (da_cons (dh_of (de_int)) da_nil))))) (da_cons (dh_of (de_fz (de_tup (da_cons (dh_of (de_int)) (da_cons (dh_of (de_int)) da_nil))))) (da_cons (dh_of (de_fz (de_tup (da_cons (dh_of (de_int)) (da_cons (dh_of (de_int)) da_nil))))) (da_cons (dh_of (de_fz (de_tup (da_cons (dh_of (de_int)) (da_cons (dh_of (de_int)) da_nil))))) da_nil))))))) (da_cons (dh_of (de_fz (de_tup (da_cons (dh_of (de_un un_neg o1_neg (dh_of (de_int)))) (da_cons (dh_of (de_int)) da_nil))))) da_nil))))))))) (dss_one (ds_ret (de_bl))) (dss_nil)) (dss_cons (ds_if (dt_not (dt_truth (dh_of (de_call h_law_same hr rfl (da_cons (dh_of (de_fz (de_call h_view_of hr rfl (da_cons (dh_of (de_fz (de_lst (da_cons (dh_of (de_fz (de_tup (da_cons (dh_of (de_int)) (da_cons (dh_of (de_int)) da_nil))))) (da_cons (dh_of (de_fz (de_tup (da_cons (dh_of (de_int)) (da_cons (dh_of (de_int)) da_nil))))) (da_cons (dh_of (de_fz (de_tup (da_cons (dh_of (de_int)) (da_cons (dh_of (de_int)) da_nil))))) da_nil)))))) (da_cons (dh_of (de_fz (de_lst (da_cons (dh_of (de_fz (de_tup (da_cons (dh_of (de_int)) (da_cons (dh_of (de_int)) da_nil))))) (da_cons (dh_of (de_fz (de_tup (da_cons (dh_of (de_int)) (da_cons (dh_of (de_int)) da_nil))))) (da_cons (dh_of (de_fz (de_tup (da_cons (dh_of (de_int)) (da_cons (dh_of (de_int)) da_nil))))) da_nil)))))) da_nil))))) (da_cons (dh_of (de_fz (de_tup (da_cons (dh_of (de_fz (de_tup (da_cons (dh_of (de_int)) (da_cons (dh_of (de_int)) da_nil))))) (da_cons (dh_of (de_fz (de_tup (da_cons (dh_of (de_int)) (da_cons (dh_of (de_int)) da_nil))))) (da_cons (dh_of (de_fz (de_tup (da_cons (dh_of (de_int)) (da_cons (dh_of (de_int)) da_nil))))) (da_cons (dh_of (de_fz (de_tup (da_cons (dh_of (de_int)) (da_cons (dh_of (de_int)) da_nil))))) da_nil))))))) da_nil)))))) (dss_one (ds_ret (de_bl))) (dss_nil)) (dss_cons (ds_set 22 nd (de_tup (da_cons (dh_of (de_fz (de_tup (da_cons (dh_of (de_int)) (da_cons (dh_of (de_int)) da_nil))))) (da_cons (dh_of (de_fz (de_tup (da_cons (dh_of (de_int)) (da_cons (dh_of (de_int)) da_nil))))) (da_cons (dh_of (de_fz (de_tup (da_cons (dh_of (de_int)) (da_cons (dh_of (de_int)) da_nil))))) (da_cons (dh_of (de_fz (de_tup (da_cons (dh_of (de_int)) (da_cons (dh_of (de_int)) da_nil))))) da_nil)))))) (dss_one (ds_ret (de_and (de_call h_law_same hr rfl (da_cons (dh_of (de_fz (de_call h_seen_at hr rfl (da_cons (dh_var 22) (da_cons (dh_of (de_fz (de_tup (da_cons (dh_of (de_int)) (da_cons (dh_of (de_int)) da_nil))))) da_nil))))) (da_cons (dh_of (de_fz (de_tup (da_cons (dh_of (de_int)) (da_cons (dh_of (de_int)) da_nil))))) da_nil))) (de_and (de_cmp op_isA o2_is (dh_of (de_call h_seen_at hr rfl (da_cons (dh_var 22) (da_cons (dh_of (de_fz (de_tup (da_cons (dh_of (de_int)) (da_cons (dh_of (de_int)) da_nil))))) da_nil)))) (dh_of (de_non)) (nomark _)) (de_and (de_call h_law_same hr rfl (da_cons (dh_of (de_fz (de_call h_horizon hr rfl (da_cons (dh_var 22) da_nil)))) (da_cons (dh_of (de_fz (de_tup (da_cons (dh_of (de_int)) (da_cons (dh_of (de_int)) da_nil))))) da_nil))) (de_one (de_call h_law_same hr rfl (da_cons (dh_of (de_fz (de_call h_worst_bar hr rfl (da_cons (dh_of (de_fz (de_lst (da_cons (dh_of (de_fz (de_tup (da_cons (dh_of (de_int)) (da_cons (dh_of (de_int)) da_nil))))) (da_cons (dh_of (de_fz (de_tup (da_cons (dh_of (de_int)) (da_cons (dh_of (de_int)) da_nil))))) (da_cons (dh_of (de_fz (de_tup (da_cons (dh_of (de_int)) (da_cons (dh_of (de_int)) da_nil))))) da_nil)))))) da_nil)))) (da_cons (dh_of (de_int)) da_nil)))))))))))))
end
theorem all_ok {P : Program} {w : World} {K : Frg} {mg : Str → Option Value} {base : Heap} (T : Top K mg) : FOk P w K mg base 10 "law" ["script"] F_law := by
  have h_fraction := w_fraction (P := P) (w := w) (base := base) T
  have h_is_less := w_is_less (P := P) (w := w) (base := base) T
  have h_whole := w_whole (P := P) (w := w) (base := base) T
  have h_law_cell := w_law_cell (P := P) (w := w) (base := base) T
  have h_law_draw := w_law_draw (P := P) (w := w) (base := base) T
  have h_law_part := w_law_part (P := P) (w := w) (base := base) T
  have h_plus := w_plus (P := P) (w := w) (base := base) T (h_fraction.mono (by decide))
  have h_minus := w_minus (P := P) (w := w) (base := base) T (h_fraction.mono (by decide))
  have h_times := w_times (P := P) (w := w) (base := base) T (h_fraction.mono (by decide))
  have h_over := w_over (P := P) (w := w) (base := base) T (h_fraction.mono (by decide))
  have h_mean_scale := w_mean_scale (P := P) (w := w) (base := base) T (h_fraction.mono (by decide))
  have h_law_digits := w_law_digits (P := P) (w := w) (base := base) T (h_law_cell.mono (by decide))
  have h_law_mixed := w_law_mixed (P := P) (w := w) (base := base) T (h_law_draw.mono (by decide))
  have h_law_fraction := w_law_fraction (P := P) (w := w) (base := base) T (h_law_draw.mono (by decide)) (h_law_part.mono (by decide))
  have h_law_view := w_law_view (P := P) (w := w) (base := base) T (h_law_draw.mono (by decide))
  have h_law_seen := w_law_seen (P := P) (w := w) (base := base) T (h_law_part.mono (by decide))
  have h_law_ground := w_law_ground (P := P) (w := w) (base := base) T (h_law_part.mono (by decide))
  have h_law_cross := w_law_cross (P := P) (w := w) (base := base) T (h_law_part.mono (by decide))
  have h_by_scale := w_by_scale (P := P) (w := w) (base := base) T (h_times.mono (by decide)) (h_over.mono (by decide))
  have h_cross_ratio := w_cross_ratio (P := P) (w := w) (base := base) T (h_minus.mono (by decide)) (h_over.mono (by decide))
  have h_box_of := w_box_of (P := P) (w := w) (base := base) T (h_plus.mono (by decide)) (h_minus.mono (by decide)) (h_times.mono (by decide))
  have h_scaled := w_scaled (P := P) (w := w) (base := base) T (h_over.mono (by decide))
  have h_seen_at := w_seen_at (P := P) (w := w) (base := base) T (h_plus.mono (by decide)) (h_times.mono (by decide)) (h_over.mono (by decide))
  have h_ground_of := w_ground_of (P := P) (w := w) (base := base) T (h_minus.mono (by decide)) (h_times.mono (by decide)) (h_over.mono (by decide))
  have h_horizon := w_horizon (P := P) (w := w) (base := base) T (h_over.mono (by decide))
  have h_depth_of := w_depth_of (P := P) (w := w) (base := base) T (h_times.mono (by decide)) (h_over.mono (by decide))
  have h_shadow_height := w_shadow_height (P := P) (w := w) (base := base) T (h_times.mono (by decide)) (h_over.mono (by decide))
  have h_worst_bar := w_worst_bar (P := P) (w := w) (base := base) T (h_fraction.mono (by decide)) (h_minus.mono (by decide)) (h_is_less.mono (by decide)) (h_mean_scale.mono (by decide))
  have h_law_places := w_law_places (P := P) (w := w) (base := base) T (h_law_fraction.mono (by decide)) (h_law_seen.mono (by decide))
  have h_same_line := w_same_line (P := P) (w := w) (base := base) T (h_cross_ratio.mono (by decide))
  have h_null_row := w_null_row (P := P) (w := w) (base := base) T (h_minus.mono (by decide)) (h_box_of.mono (by decide))
  have h_middle_of := w_middle_of (P := P) (w := w) (base := base) T (h_plus.mono (by decide)) (h_over.mono (by decide)) (h_whole.mono (by decide)) (h_seen_at.mono (by decide))
  have h_steps_seen := w_steps_seen (P := P) (w := w) (base := base) T (h_plus.mono (by decide)) (h_times.mono (by decide)) (h_whole.mono (by decide)) (h_seen_at.mono (by decide))
  have h_view_of := w_view_of (P := P) (w := w) (base := base) T (h_minus.mono (by decide)) (h_times.mono (by decide)) (h_null_row.mono (by decide)) (h_scaled.mono (by decide))
  have h_law_same := w_law_same (P := P) (w := w) (base := base) T
  have h_law_looks := w_law_looks (P := P) (w := w) (base := base) T (h_seen_at.mono (by decide)) (h_ground_of.mono (by decide)) (h_horizon.mono (by decide)) (h_middle_of.mono (by decide)) (h_steps_seen.mono (by decide)) (h_law_draw.mono (by decide)) (h_law_same.mono (by decide)) (h_law_part.mono (by decide)) (h_law_fraction.mono (by decide)) (h_law_seen.mono (by decide)) (h_law_ground.mono (by decide))
  have h_law_lengths := w_law_lengths (P := P) (w := w) (base := base) T (h_by_scale.mono (by decide)) (h_depth_of.mono (by decide)) (h_shadow_height.mono (by decide)) (h_mean_scale.mono (by decide)) (h_worst_bar.mono (by decide)) (h_law_draw.mono (by decide)) (h_law_same.mono (by decide)) (h_law_mixed.mono (by decide)) (h_law_part.mono (by decide))
  have h_law := w_law (P := P) (w := w) (base := base) T (h_cross_ratio.mono (by decide)) (h_same_line.mono (by decide)) (h_view_of.mono (by decide)) (h_seen_at.mono (by decide)) (h_horizon.mono (by decide)) (h_worst_bar.mono (by decide)) (h_law_digits.mono (by decide)) (h_law_draw.mono (by decide)) (h_law_same.mono (by decide)) (h_law_part.mono (by decide)) (h_law_view.mono (by decide)) (h_law_seen.mono (by decide)) (h_law_places.mono (by decide)) (h_law_cross.mono (by decide)) (h_law_looks.mono (by decide)) (h_law_lengths.mono (by decide))
  exact h_law
theorem all_mk {l : PySem.W.OpenLaw} {w : World} {K : PySem.W.Frag} {h : Heap} {mg : Str → Option Value} {fa : Addr} (X : K.In h) (G : h.Ns mainGlobals mg) (hfa : mg "law" = some (.ref fa)) (hF : ∀ ns : List Int, ns.length ≤ 63 → ∃ bs, F_law [.cst (ns.map D.int)] = some (.bl true, bs))
    {f0 f1 f2 f3 f4 f5 f6 f7 f8 f9 f10 f11 f12 f13 f14 f15 f16 f17 f18 f19 f20 f21 f22 f23 f24 f25 f26 f27 f28 f29 f30 f31 f32 f33 f34 f35 f36 f37 : Addr} {od0 an0 od1 an1 od2 an2 od3 an3 od4 an4 od5 an5 od6 an6 od7 an7 od8 an8 od9 an9 od10 an10 od11 an11 od12 an12 od13 an13 od14 an14 od15 an15 od16 an16 od17 an17 od18 an18 od19 an19 od20 an20 od21 an21 od22 an22 od23 an23 od24 an24 od25 an25 od26 an26 od27 an27 od28 an28 od29 an29 od30 an30 od31 an31 od32 an32 od33 an33 od34 an34 od35 an35 od36 an36 od37 an37 : Option Addr} {sl0 sl1 sl2 sl3 sl4 sl5 sl6 sl7 sl8 sl9 sl10 sl11 sl12 sl13 sl14 sl15 sl16 sl17 sl18 sl19 sl20 sl21 sl22 sl23 sl24 sl25 sl26 sl27 sl28 sl29 sl30 sl31 sl32 sl33 sl34 sl35 sl36 sl37 : Array (Option Value)} {oc0 kV0 dc0 pm0 cd0 ct0 oc1 kV1 dc1 pm1 cd1 ct1 oc2 kV2 dc2 pm2 cd2 ct2 oc3 kV3 dc3 pm3 cd3 ct3 oc4 kV4 dc4 pm4 cd4 ct4 oc5 kV5 dc5 pm5 cd5 ct5 oc6 kV6 dc6 pm6 cd6 ct6 oc7 kV7 dc7 pm7 cd7 ct7 oc8 kV8 dc8 pm8 cd8 ct8 oc9 kV9 dc9 pm9 cd9 ct9 oc10 kV10 dc10 pm10 cd10 ct10 oc11 kV11 dc11 pm11 cd11 ct11 oc12 kV12 dc12 pm12 cd12 ct12 oc13 kV13 dc13 pm13 cd13 ct13 oc14 kV14 dc14 pm14 cd14 ct14 oc15 kV15 dc15 pm15 cd15 ct15 oc16 kV16 dc16 pm16 cd16 ct16 oc17 kV17 dc17 pm17 cd17 ct17 oc18 kV18 dc18 pm18 cd18 ct18 oc19 kV19 dc19 pm19 cd19 ct19 oc20 kV20 dc20 pm20 cd20 ct20 oc21 kV21 dc21 pm21 cd21 ct21 oc22 kV22 dc22 pm22 cd22 ct22 oc23 kV23 dc23 pm23 cd23 ct23 oc24 kV24 dc24 pm24 cd24 ct24 oc25 kV25 dc25 pm25 cd25 ct25 oc26 kV26 dc26 pm26 cd26 ct26 oc27 kV27 dc27 pm27 cd27 ct27 oc28 kV28 dc28 pm28 cd28 ct28 oc29 kV29 dc29 pm29 cd29 ct29 oc30 kV30 dc30 pm30 cd30 ct30 oc31 kV31 dc31 pm31 cd31 ct31 oc32 kV32 dc32 pm32 cd32 ct32 oc33 kV33 dc33 pm33 cd33 ct33 oc34 kV34 dc34 pm34 cd34 ct34 oc35 kV35 dc35 pm35 cd35 ct35 oc36 kV36 dc36 pm36 cd36 ct36 oc37 kV37 dc37 pm37 cd37 ct37 : Value}
    (a0 : PySem.W.nsIn K mainGlobals "fraction" = some (some (.ref f0))) (l0 : K.lookup f0 = some ⟨oc0, od0, .func (PySem.W.fnOf "fraction" "fraction" (defArgs s_fraction) (defBody s_fraction) (defScope s_fraction) .none kV0 dc0 pm0 an0 cd0 ct0), sl0⟩) (c0 : PySem.W.codeIn K cd0 "fraction" = true) (k0 : PySem.W.keepIn K (.ref f0) = true)
    (a1 : PySem.W.nsIn K mainGlobals "plus" = some (some (.ref f1))) (l1 : K.lookup f1 = some ⟨oc1, od1, .func (PySem.W.fnOf "plus" "plus" (defArgs s_plus) (defBody s_plus) (defScope s_plus) .none kV1 dc1 pm1 an1 cd1 ct1), sl1⟩) (c1 : PySem.W.codeIn K cd1 "plus" = true) (k1 : PySem.W.keepIn K (.ref f1) = true)
    (a2 : PySem.W.nsIn K mainGlobals "minus" = some (some (.ref f2))) (l2 : K.lookup f2 = some ⟨oc2, od2, .func (PySem.W.fnOf "minus" "minus" (defArgs s_minus) (defBody s_minus) (defScope s_minus) .none kV2 dc2 pm2 an2 cd2 ct2), sl2⟩) (c2 : PySem.W.codeIn K cd2 "minus" = true) (k2 : PySem.W.keepIn K (.ref f2) = true)
    (a3 : PySem.W.nsIn K mainGlobals "times" = some (some (.ref f3))) (l3 : K.lookup f3 = some ⟨oc3, od3, .func (PySem.W.fnOf "times" "times" (defArgs s_times) (defBody s_times) (defScope s_times) .none kV3 dc3 pm3 an3 cd3 ct3), sl3⟩) (c3 : PySem.W.codeIn K cd3 "times" = true) (k3 : PySem.W.keepIn K (.ref f3) = true)
    (a4 : PySem.W.nsIn K mainGlobals "over" = some (some (.ref f4))) (l4 : K.lookup f4 = some ⟨oc4, od4, .func (PySem.W.fnOf "over" "over" (defArgs s_over) (defBody s_over) (defScope s_over) .none kV4 dc4 pm4 an4 cd4 ct4), sl4⟩) (c4 : PySem.W.codeIn K cd4 "over" = true) (k4 : PySem.W.keepIn K (.ref f4) = true)
    (a5 : PySem.W.nsIn K mainGlobals "is_less" = some (some (.ref f5))) (l5 : K.lookup f5 = some ⟨oc5, od5, .func (PySem.W.fnOf "is_less" "is_less" (defArgs s_is_less) (defBody s_is_less) (defScope s_is_less) .none kV5 dc5 pm5 an5 cd5 ct5), sl5⟩) (c5 : PySem.W.codeIn K cd5 "is_less" = true) (k5 : PySem.W.keepIn K (.ref f5) = true)
    (a6 : PySem.W.nsIn K mainGlobals "whole" = some (some (.ref f6))) (l6 : K.lookup f6 = some ⟨oc6, od6, .func (PySem.W.fnOf "whole" "whole" (defArgs s_whole) (defBody s_whole) (defScope s_whole) .none kV6 dc6 pm6 an6 cd6 ct6), sl6⟩) (c6 : PySem.W.codeIn K cd6 "whole" = true) (k6 : PySem.W.keepIn K (.ref f6) = true)
    (a7 : PySem.W.nsIn K mainGlobals "by_scale" = some (some (.ref f7))) (l7 : K.lookup f7 = some ⟨oc7, od7, .func (PySem.W.fnOf "by_scale" "by_scale" (defArgs s_by_scale) (defBody s_by_scale) (defScope s_by_scale) .none kV7 dc7 pm7 an7 cd7 ct7), sl7⟩) (c7 : PySem.W.codeIn K cd7 "by_scale" = true) (k7 : PySem.W.keepIn K (.ref f7) = true)
    (a8 : PySem.W.nsIn K mainGlobals "cross_ratio" = some (some (.ref f8))) (l8 : K.lookup f8 = some ⟨oc8, od8, .func (PySem.W.fnOf "cross_ratio" "cross_ratio" (defArgs s_cross_ratio) (defBody s_cross_ratio) (defScope s_cross_ratio) .none kV8 dc8 pm8 an8 cd8 ct8), sl8⟩) (c8 : PySem.W.codeIn K cd8 "cross_ratio" = true) (k8 : PySem.W.keepIn K (.ref f8) = true)
    (a9 : PySem.W.nsIn K mainGlobals "same_line" = some (some (.ref f9))) (l9 : K.lookup f9 = some ⟨oc9, od9, .func (PySem.W.fnOf "same_line" "same_line" (defArgs s_same_line) (defBody s_same_line) (defScope s_same_line) .none kV9 dc9 pm9 an9 cd9 ct9), sl9⟩) (c9 : PySem.W.codeIn K cd9 "same_line" = true) (k9 : PySem.W.keepIn K (.ref f9) = true)
    (a10 : PySem.W.nsIn K mainGlobals "view_of" = some (some (.ref f10))) (l10 : K.lookup f10 = some ⟨oc10, od10, .func (PySem.W.fnOf "view_of" "view_of" (defArgs s_view_of) (defBody s_view_of) (defScope s_view_of) .none kV10 dc10 pm10 an10 cd10 ct10), sl10⟩) (c10 : PySem.W.codeIn K cd10 "view_of" = true) (k10 : PySem.W.keepIn K (.ref f10) = true)
    (a11 : PySem.W.nsIn K mainGlobals "null_row" = some (some (.ref f11))) (l11 : K.lookup f11 = some ⟨oc11, od11, .func (PySem.W.fnOf "null_row" "null_row" (defArgs s_null_row) (defBody s_null_row) (defScope s_null_row) .none kV11 dc11 pm11 an11 cd11 ct11), sl11⟩) (c11 : PySem.W.codeIn K cd11 "null_row" = true) (k11 : PySem.W.keepIn K (.ref f11) = true)
    (a12 : PySem.W.nsIn K mainGlobals "box_of" = some (some (.ref f12))) (l12 : K.lookup f12 = some ⟨oc12, od12, .func (PySem.W.fnOf "box_of" "box_of" (defArgs s_box_of) (defBody s_box_of) (defScope s_box_of) .none kV12 dc12 pm12 an12 cd12 ct12), sl12⟩) (c12 : PySem.W.codeIn K cd12 "box_of" = true) (k12 : PySem.W.keepIn K (.ref f12) = true)
    (a13 : PySem.W.nsIn K mainGlobals "scaled" = some (some (.ref f13))) (l13 : K.lookup f13 = some ⟨oc13, od13, .func (PySem.W.fnOf "scaled" "scaled" (defArgs s_scaled) (defBody s_scaled) (defScope s_scaled) .none kV13 dc13 pm13 an13 cd13 ct13), sl13⟩) (c13 : PySem.W.codeIn K cd13 "scaled" = true) (k13 : PySem.W.keepIn K (.ref f13) = true)
    (a14 : PySem.W.nsIn K mainGlobals "seen_at" = some (some (.ref f14))) (l14 : K.lookup f14 = some ⟨oc14, od14, .func (PySem.W.fnOf "seen_at" "seen_at" (defArgs s_seen_at) (defBody s_seen_at) (defScope s_seen_at) .none kV14 dc14 pm14 an14 cd14 ct14), sl14⟩) (c14 : PySem.W.codeIn K cd14 "seen_at" = true) (k14 : PySem.W.keepIn K (.ref f14) = true)
    (a15 : PySem.W.nsIn K mainGlobals "ground_of" = some (some (.ref f15))) (l15 : K.lookup f15 = some ⟨oc15, od15, .func (PySem.W.fnOf "ground_of" "ground_of" (defArgs s_ground_of) (defBody s_ground_of) (defScope s_ground_of) .none kV15 dc15 pm15 an15 cd15 ct15), sl15⟩) (c15 : PySem.W.codeIn K cd15 "ground_of" = true) (k15 : PySem.W.keepIn K (.ref f15) = true)
    (a16 : PySem.W.nsIn K mainGlobals "horizon" = some (some (.ref f16))) (l16 : K.lookup f16 = some ⟨oc16, od16, .func (PySem.W.fnOf "horizon" "horizon" (defArgs s_horizon) (defBody s_horizon) (defScope s_horizon) .none kV16 dc16 pm16 an16 cd16 ct16), sl16⟩) (c16 : PySem.W.codeIn K cd16 "horizon" = true) (k16 : PySem.W.keepIn K (.ref f16) = true)
    (a17 : PySem.W.nsIn K mainGlobals "depth_of" = some (some (.ref f17))) (l17 : K.lookup f17 = some ⟨oc17, od17, .func (PySem.W.fnOf "depth_of" "depth_of" (defArgs s_depth_of) (defBody s_depth_of) (defScope s_depth_of) .none kV17 dc17 pm17 an17 cd17 ct17), sl17⟩) (c17 : PySem.W.codeIn K cd17 "depth_of" = true) (k17 : PySem.W.keepIn K (.ref f17) = true)
    (a18 : PySem.W.nsIn K mainGlobals "shadow_height" = some (some (.ref f18))) (l18 : K.lookup f18 = some ⟨oc18, od18, .func (PySem.W.fnOf "shadow_height" "shadow_height" (defArgs s_shadow_height) (defBody s_shadow_height) (defScope s_shadow_height) .none kV18 dc18 pm18 an18 cd18 ct18), sl18⟩) (c18 : PySem.W.codeIn K cd18 "shadow_height" = true) (k18 : PySem.W.keepIn K (.ref f18) = true)
    (a19 : PySem.W.nsIn K mainGlobals "mean_scale" = some (some (.ref f19))) (l19 : K.lookup f19 = some ⟨oc19, od19, .func (PySem.W.fnOf "mean_scale" "mean_scale" (defArgs s_mean_scale) (defBody s_mean_scale) (defScope s_mean_scale) .none kV19 dc19 pm19 an19 cd19 ct19), sl19⟩) (c19 : PySem.W.codeIn K cd19 "mean_scale" = true) (k19 : PySem.W.keepIn K (.ref f19) = true)
    (a20 : PySem.W.nsIn K mainGlobals "worst_bar" = some (some (.ref f20))) (l20 : K.lookup f20 = some ⟨oc20, od20, .func (PySem.W.fnOf "worst_bar" "worst_bar" (defArgs s_worst_bar) (defBody s_worst_bar) (defScope s_worst_bar) .none kV20 dc20 pm20 an20 cd20 ct20), sl20⟩) (c20 : PySem.W.codeIn K cd20 "worst_bar" = true) (k20 : PySem.W.keepIn K (.ref f20) = true)
    (a21 : PySem.W.nsIn K mainGlobals "middle_of" = some (some (.ref f21))) (l21 : K.lookup f21 = some ⟨oc21, od21, .func (PySem.W.fnOf "middle_of" "middle_of" (defArgs s_middle_of) (defBody s_middle_of) (defScope s_middle_of) .none kV21 dc21 pm21 an21 cd21 ct21), sl21⟩) (c21 : PySem.W.codeIn K cd21 "middle_of" = true) (k21 : PySem.W.keepIn K (.ref f21) = true)
    (a22 : PySem.W.nsIn K mainGlobals "steps_seen" = some (some (.ref f22))) (l22 : K.lookup f22 = some ⟨oc22, od22, .func (PySem.W.fnOf "steps_seen" "steps_seen" (defArgs s_steps_seen) (defBody s_steps_seen) (defScope s_steps_seen) .none kV22 dc22 pm22 an22 cd22 ct22), sl22⟩) (c22 : PySem.W.codeIn K cd22 "steps_seen" = true) (k22 : PySem.W.keepIn K (.ref f22) = true)
    (a23 : PySem.W.nsIn K mainGlobals "_law_cell" = some (some (.ref f23))) (l23 : K.lookup f23 = some ⟨oc23, od23, .func (PySem.W.fnOf "_law_cell" "_law_cell" (defArgs s_law_cell) (defBody s_law_cell) (defScope s_law_cell) .none kV23 dc23 pm23 an23 cd23 ct23), sl23⟩) (c23 : PySem.W.codeIn K cd23 "_law_cell" = true) (k23 : PySem.W.keepIn K (.ref f23) = true)
    (a24 : PySem.W.nsIn K mainGlobals "_law_digits" = some (some (.ref f24))) (l24 : K.lookup f24 = some ⟨oc24, od24, .func (PySem.W.fnOf "_law_digits" "_law_digits" (defArgs s_law_digits) (defBody s_law_digits) (defScope s_law_digits) .none kV24 dc24 pm24 an24 cd24 ct24), sl24⟩) (c24 : PySem.W.codeIn K cd24 "_law_digits" = true) (k24 : PySem.W.keepIn K (.ref f24) = true)
    (a25 : PySem.W.nsIn K mainGlobals "_law_draw" = some (some (.ref f25))) (l25 : K.lookup f25 = some ⟨oc25, od25, .func (PySem.W.fnOf "_law_draw" "_law_draw" (defArgs s_law_draw) (defBody s_law_draw) (defScope s_law_draw) .none kV25 dc25 pm25 an25 cd25 ct25), sl25⟩) (c25 : PySem.W.codeIn K cd25 "_law_draw" = true) (k25 : PySem.W.keepIn K (.ref f25) = true)
    (a26 : PySem.W.nsIn K mainGlobals "_law_same" = some (some (.ref f26))) (l26 : K.lookup f26 = some ⟨oc26, od26, .func (PySem.W.fnOf "_law_same" "_law_same" (defArgs s_law_same) (defBody s_law_same) (defScope s_law_same) .none kV26 dc26 pm26 an26 cd26 ct26), sl26⟩) (c26 : PySem.W.codeIn K cd26 "_law_same" = true) (k26 : PySem.W.keepIn K (.ref f26) = true)
    (a27 : PySem.W.nsIn K mainGlobals "_law_mixed" = some (some (.ref f27))) (l27 : K.lookup f27 = some ⟨oc27, od27, .func (PySem.W.fnOf "_law_mixed" "_law_mixed" (defArgs s_law_mixed) (defBody s_law_mixed) (defScope s_law_mixed) .none kV27 dc27 pm27 an27 cd27 ct27), sl27⟩) (c27 : PySem.W.codeIn K cd27 "_law_mixed" = true) (k27 : PySem.W.keepIn K (.ref f27) = true)
    (a28 : PySem.W.nsIn K mainGlobals "_law_part" = some (some (.ref f28))) (l28 : K.lookup f28 = some ⟨oc28, od28, .func (PySem.W.fnOf "_law_part" "_law_part" (defArgs s_law_part) (defBody s_law_part) (defScope s_law_part) .none kV28 dc28 pm28 an28 cd28 ct28), sl28⟩) (c28 : PySem.W.codeIn K cd28 "_law_part" = true) (k28 : PySem.W.keepIn K (.ref f28) = true)
    (a29 : PySem.W.nsIn K mainGlobals "_law_fraction" = some (some (.ref f29))) (l29 : K.lookup f29 = some ⟨oc29, od29, .func (PySem.W.fnOf "_law_fraction" "_law_fraction" (defArgs s_law_fraction) (defBody s_law_fraction) (defScope s_law_fraction) .none kV29 dc29 pm29 an29 cd29 ct29), sl29⟩) (c29 : PySem.W.codeIn K cd29 "_law_fraction" = true) (k29 : PySem.W.keepIn K (.ref f29) = true)
    (a30 : PySem.W.nsIn K mainGlobals "_law_view" = some (some (.ref f30))) (l30 : K.lookup f30 = some ⟨oc30, od30, .func (PySem.W.fnOf "_law_view" "_law_view" (defArgs s_law_view) (defBody s_law_view) (defScope s_law_view) .none kV30 dc30 pm30 an30 cd30 ct30), sl30⟩) (c30 : PySem.W.codeIn K cd30 "_law_view" = true) (k30 : PySem.W.keepIn K (.ref f30) = true)
    (a31 : PySem.W.nsIn K mainGlobals "_law_seen" = some (some (.ref f31))) (l31 : K.lookup f31 = some ⟨oc31, od31, .func (PySem.W.fnOf "_law_seen" "_law_seen" (defArgs s_law_seen) (defBody s_law_seen) (defScope s_law_seen) .none kV31 dc31 pm31 an31 cd31 ct31), sl31⟩) (c31 : PySem.W.codeIn K cd31 "_law_seen" = true) (k31 : PySem.W.keepIn K (.ref f31) = true)
    (a32 : PySem.W.nsIn K mainGlobals "_law_ground" = some (some (.ref f32))) (l32 : K.lookup f32 = some ⟨oc32, od32, .func (PySem.W.fnOf "_law_ground" "_law_ground" (defArgs s_law_ground) (defBody s_law_ground) (defScope s_law_ground) .none kV32 dc32 pm32 an32 cd32 ct32), sl32⟩) (c32 : PySem.W.codeIn K cd32 "_law_ground" = true) (k32 : PySem.W.keepIn K (.ref f32) = true)
    (a33 : PySem.W.nsIn K mainGlobals "_law_places" = some (some (.ref f33))) (l33 : K.lookup f33 = some ⟨oc33, od33, .func (PySem.W.fnOf "_law_places" "_law_places" (defArgs s_law_places) (defBody s_law_places) (defScope s_law_places) .none kV33 dc33 pm33 an33 cd33 ct33), sl33⟩) (c33 : PySem.W.codeIn K cd33 "_law_places" = true) (k33 : PySem.W.keepIn K (.ref f33) = true)
    (a34 : PySem.W.nsIn K mainGlobals "_law_cross" = some (some (.ref f34))) (l34 : K.lookup f34 = some ⟨oc34, od34, .func (PySem.W.fnOf "_law_cross" "_law_cross" (defArgs s_law_cross) (defBody s_law_cross) (defScope s_law_cross) .none kV34 dc34 pm34 an34 cd34 ct34), sl34⟩) (c34 : PySem.W.codeIn K cd34 "_law_cross" = true) (k34 : PySem.W.keepIn K (.ref f34) = true)
    (a35 : PySem.W.nsIn K mainGlobals "_law_looks" = some (some (.ref f35))) (l35 : K.lookup f35 = some ⟨oc35, od35, .func (PySem.W.fnOf "_law_looks" "_law_looks" (defArgs s_law_looks) (defBody s_law_looks) (defScope s_law_looks) .none kV35 dc35 pm35 an35 cd35 ct35), sl35⟩) (c35 : PySem.W.codeIn K cd35 "_law_looks" = true) (k35 : PySem.W.keepIn K (.ref f35) = true)
    (a36 : PySem.W.nsIn K mainGlobals "_law_lengths" = some (some (.ref f36))) (l36 : K.lookup f36 = some ⟨oc36, od36, .func (PySem.W.fnOf "_law_lengths" "_law_lengths" (defArgs s_law_lengths) (defBody s_law_lengths) (defScope s_law_lengths) .none kV36 dc36 pm36 an36 cd36 ct36), sl36⟩) (c36 : PySem.W.codeIn K cd36 "_law_lengths" = true) (k36 : PySem.W.keepIn K (.ref f36) = true)
    (a37 : PySem.W.nsIn K mainGlobals "law" = some (some (.ref f37))) (l37 : K.lookup f37 = some ⟨oc37, od37, .func (PySem.W.fnOf "law" "law" (defArgs s_law) (defBody s_law) (defScope s_law) .none kV37 dc37 pm37 an37 cd37 ct37), sl37⟩) (c37 : PySem.W.codeIn K cd37 "law" = true) (k37 : PySem.W.keepIn K (.ref f37) = true)
    (z_abs : PySem.W.nsIn K mainGlobals "abs" = some none)
    (z_bool : PySem.W.nsIn K mainGlobals "bool" = some none)
    (z_enumerate : PySem.W.nsIn K mainGlobals "enumerate" = some none)
    (z_int : PySem.W.nsIn K mainGlobals "int" = some none)
    (z_isinstance : PySem.W.nsIn K mainGlobals "isinstance" = some none)
    (z_len : PySem.W.nsIn K mainGlobals "len" = some none)
    (z_list : PySem.W.nsIn K mainGlobals "list" = some none)
    (z_range : PySem.W.nsIn K mainGlobals "range" = some none)
    (z_repr : PySem.W.nsIn K mainGlobals "repr" = some none)
    (z_str : PySem.W.nsIn K mainGlobals "str" = some none)
    (z_sum : PySem.W.nsIn K mainGlobals "sum" = some none)
    (z_tuple : PySem.W.nsIn K mainGlobals "tuple" = some none)
    (z_zip : PySem.W.nsIn K mainGlobals "zip" = some none)
    (z_gcd : PySem.W.nsIn K mainGlobals "gcd" = some (some (.builtin "math.gcd")))
    : ∃ fd : FuncData, (∀ (s : Shared) (v : Value), BindsTo s fd ⟨[v], []⟩ [("script", v)]) ∧ ∀ base : Heap, K.In base → base.Ns mainGlobals mg → FnOk l.prog w K mg base CX0 10 fa fd ["script"] (spL K) := by
  have T : Top K mg := ⟨PySem.W.mg_none_of X G z_abs, PySem.W.mg_none_of X G z_bool, PySem.W.mg_none_of X G z_enumerate, PySem.W.mg_none_of X G z_int, PySem.W.mg_none_of X G z_isinstance, PySem.W.mg_none_of X G z_len, PySem.W.mg_none_of X G z_list, PySem.W.mg_none_of X G z_range, PySem.W.mg_none_of X G z_repr, PySem.W.mg_none_of X G z_str, PySem.W.mg_none_of X G z_sum, PySem.W.mg_none_of X G z_tuple, PySem.W.mg_none_of X G z_zip, PySem.W.mg_of X G z_gcd, fn_top X G a0 l0 c0 k0 (fun _ _ _ _ _ _ us hl => match us, hl with | [_, _], _ => rfl), fn_top X G a1 l1 c1 k1 (fun _ _ _ _ _ _ us hl => match us, hl with | [_, _], _ => rfl), fn_top X G a2 l2 c2 k2 (fun _ _ _ _ _ _ us hl => match us, hl with | [_, _], _ => rfl), fn_top X G a3 l3 c3 k3 (fun _ _ _ _ _ _ us hl => match us, hl with | [_, _], _ => rfl), fn_top X G a4 l4 c4 k4 (fun _ _ _ _ _ _ us hl => match us, hl with | [_, _], _ => rfl), fn_top X G a5 l5 c5 k5 (fun _ _ _ _ _ _ us hl => match us, hl with | [_, _], _ => rfl), fn_top X G a6 l6 c6 k6 (fun _ _ _ _ _ _ us hl => match us, hl with | [_], _ => rfl), fn_top X G a7 l7 c7 k7 (fun _ _ _ _ _ _ us hl => match us, hl with | [_, _, _], _ => rfl), fn_top X G a8 l8 c8 k8 (fun _ _ _ _ _ _ us hl => match us, hl with | [_, _, _, _], _ => rfl), fn_top X G a9 l9 c9 k9 (fun _ _ _ _ _ _ us hl => match us, hl with | [_, _], _ => rfl), fn_top X G a10 l10 c10 k10 (fun _ _ _ _ _ _ us hl => match us, hl with | [_, _], _ => rfl), fn_top X G a11 l11 c11 k11 (fun _ _ _ _ _ _ us hl => match us, hl with | [_], _ => rfl), fn_top X G a12 l12 c12 k12 (fun _ _ _ _ _ _ us hl => match us, hl with | [_], _ => rfl), fn_top X G a13 l13 c13 k13 (fun _ _ _ _ _ _ us hl => match us, hl with | [_], _ => rfl), fn_top X G a14 l14 c14 k14 (fun _ _ _ _ _ _ us hl => match us, hl with | [_, _], _ => rfl), fn_top X G a15 l15 c15 k15 (fun _ _ _ _ _ _ us hl => match us, hl with | [_, _], _ => rfl), fn_top X G a16 l16 c16 k16 (fun _ _ _ _ _ _ us hl => match us, hl with | [_], _ => rfl), fn_top X G a17 l17 c17 k17 (fun _ _ _ _ _ _ us hl => match us, hl with | [_, _, _], _ => rfl), fn_top X G a18 l18 c18 k18 (fun _ _ _ _ _ _ us hl => match us, hl with | [_, _, _], _ => rfl), fn_top X G a19 l19 c19 k19 (fun _ _ _ _ _ _ us hl => match us, hl with | [_], _ => rfl), fn_top X G a20 l20 c20 k20 (fun _ _ _ _ _ _ us hl => match us, hl with | [_], _ => rfl), fn_top X G a21 l21 c21 k21 (fun _ _ _ _ _ _ us hl => match us, hl with | [_, _, _], _ => rfl), fn_top X G a22 l22 c22 k22 (fun _ _ _ _ _ _ us hl => match us, hl with | [_, _, _, _], _ => rfl), fn_top X G a23 l23 c23 k23 (fun _ _ _ _ _ _ us hl => match us, hl with | [_, _], _ => rfl), fn_top X G a24 l24 c24 k24 (fun _ _ _ _ _ _ us hl => match us, hl with | [_, _, _], _ => rfl), fn_top X G a25 l25 c25 k25 (fun _ _ _ _ _ _ us hl => match us, hl with | [_, _], _ => rfl), fn_top X G a26 l26 c26 k26 (fun _ _ _ _ _ _ us hl => match us, hl with | [_, _], _ => rfl), fn_top X G a27 l27 c27 k27 (fun _ _ _ _ _ _ us hl => match us, hl with | [_, _], _ => rfl), fn_top X G a28 l28 c28 k28 (fun _ _ _ _ _ _ us hl => match us, hl with | [_, _], _ => rfl), fn_top X G a29 l29 c29 k29 (fun _ _ _ _ _ _ us hl => match us, hl with | [_, _], _ => rfl), fn_top X G a30 l30 c30 k30 (fun _ _ _ _ _ _ us hl => match us, hl with | [_], _ => rfl), fn_top X G a31 l31 c31 k31 (fun _ _ _ _ _ _ us hl => match us, hl with | [_, _], _ => rfl), fn_top X G a32 l32 c32 k32 (fun _ _ _ _ _ _ us hl => match us, hl with | [_, _], _ => rfl), fn_top X G a33 l33 c33 k33 (fun _ _ _ _ _ _ us hl => match us, hl with | [_, _, _], _ => rfl), fn_top X G a34 l34 c34 k34 (fun _ _ _ _ _ _ us hl => match us, hl with | [_, _, _, _], _ => rfl), fn_top X G a35 l35 c35 k35 (fun _ _ _ _ _ _ us hl => match us, hl with | [_, _, _], _ => rfl), fn_top X G a36 l36 c36 k36 (fun _ _ _ _ _ _ us hl => match us, hl with | [_], _ => rfl), fn_top X G a37 l37 c37 k37 (fun _ _ _ _ _ _ us hl => match us, hl with | [_], _ => rfl)⟩
  have e := hfa.symm.trans (PySem.W.mg_of X G a37)
  cases e
  exact ⟨_, fun s v => .of_eq rfl, fun base _ _ => law_end (all_ok T) hF hfa l37⟩
end Lk62
end
section
set_option Elab.async false
set_option linter.all false
set_option maxRecDepth 100000
set_option maxHeartbeats 4000000
set_option exponentiation.threshold 5000
open PySem Mv Mv.PreA
local macro_rules | `(tactic| walk_at "ev") => `(tactic| try simp only [↓W_bCons, ↓W_bNil, ↓W_bBrk, ↓W_bCnt, ↓W_bExp, ↓W_bRet, ↓W_bRetN, ↓W_bIf, ↓W_bAsg, ↓W_bPar, ↓W_bAug, ↓W_eC, ↓W_eV, ↓W_eM, ↓W_hV, ↓W_hE, ↓W_eFz, ↓W_e1, ↓W_e2, ↓W_aNil, ↓W_aCons, ↓W_eN, ↓W_eTup, ↓W_eLst, ↓W_eCall, ↓W_eMut, ↓W_eMt, ↓W_eIf, ↓W_eAn, ↓W_eOr, ↓W_eNo, ↓W_eJ0, ↓W_eJ1, ↓W_tT, ↓W_tB, ↓W_tNo, ↓W_tAn, ↓W_tOr, ↓W_tAll, ↓W_gNm, ↓W_gsNil, ↓W_gsCons, ↓W_gTp, ↓W_gTpL, ↓W_gIx, ↓W_bFor, ↓W_bWhile, ↓W_iRg1, ↓W_iRg2, ↓W_iSq, ↓W_eLc, ↓W_eSl, ↓W_pN, ↓W_pS, ↓W_iEn, ↓W_iZp, ↓W_iRv, ↓W_iRg3, ↓W_iRgV, ↓W_eCh, ↓W_chIf, ↓W_bind, ↓W_map, ↓W_some, ↓W_none,
  Hd.get, List.getElem?_cons_zero, List.getElem?_cons_succ, List.getD_cons_zero, List.getD_cons_succ, List.set_cons_zero, List.set_cons_succ, List.length_cons, List.length_nil, List.map_cons, List.map_nil, List.replicate, List.cons_append, List.nil_append, Nat.reduceAdd, Nat.reduceSub, Nat.reduceLeDiff, Nat.zero_add,
  D.frz, D.frzL, D.fz, D.fzL, tru_b, tru_i, tru_n, tru_l, tru_t, tru_c, tms, wipeD, unw, lend, unlend, keepL, Option.map_some, Option.bind_some, Bool.and_true, Bool.true_and, Bool.not_true, Bool.not_false, ↓reduceIte, if_true, if_false, Bool.false_eq_true, true_and, and_true, ite_b, ite_nb, vv_fmtI, vv_fmtS, vv_reprI, vv_reprS, vv_addS, vv_augI, vv_augS, vv_lenS, vv_eqS, vv_neS, vv_addL, vv_addT,
  vv_add, vv_sub, vv_mul, vv_div, vv_mod, vv_pow, vv_shl, vv_shr, vv_neg, vv_lt, vv_le, vv_gt, vv_ge, vv_int, vv_intS, vv_intb, vv_abs, vv_gcd, vv_max2, vv_min2, vv_lenL, vv_lenC, vv_lenT, vv_idxL, vv_idxC, vv_idxT, vv_eqI, vv_eqB, vv_neI, vv_list, vv_listT, vv_tuple, vv_tupleT, vv_sum, vv_slL, vv_slS, vv_slT, vv_range, vv_index, vv_count, isL_l, isL_c, lenL_l, lenL_c, kindL, vv_maxL, vv_minL, vv_strI, vv_app, vv_isNN, vv_isIN, vv_isSN, vv_isBN, vv_isLN, vv_isTN, vv_isBB, vv_isNB, vv_isIB, vv_isSB, vv_isLB, vv_isTB, vv_inNN, vv_inIN, vv_inSN, vv_inBN, vv_inLN, vv_inTN, vv_inBB, atF0, atF1, atF2, atF3, atF4, atF5, okI, okB, okS, okN, okL, ix0, ix1, ix2, frzL_int, fzL_int, intsD_map, isiI_int, isiI_str, isiI_bool, isiI_list, isiI_tuple, isiS_int, isiS_str, isiS_bool, isiS_list, isiS_tuple, isiB_int, isiB_str, isiB_bool, isiB_list, isiB_tuple, isiL_int, isiL_str, isiL_bool, isiL_list, isiL_tuple, isiT_int, isiT_str, isiT_bool, isiT_list, isiT_tuple, isiN_int, isiN_str, isiN_bool, isiN_list, isiN_tuple])
local macro_rules | `(tactic| walk_at "mu") => `(tactic| repeat (first | (rw [W_ok (MulOk.right (by omega))]; walk_at "ev") | (rw [W_ok (MulOk.left (by omega))]; walk_at "ev") | (rw [W_ok (divok (by omega) (by omega))]; walk_at "ev") | (rw [W_ok (by omega)]; walk_at "ev")))
namespace Lk62
theorem eq_draw : F_law_draw = PreB.F_law_draw := rfl
theorem eq_digits : F_law_digits = PreA.F_law_digits := rfl
theorem eq_same : F_law_same = PreA.R_law_same 8 := rfl
theorem draw_ex {ds : List Int} {n m : Int} (h0 : ds ≠ []) (hn : 0 ≤ n) (hm : 0 < m) : ∃ d, F_law_draw [bx ds n, .int m] = some (.int d, [bx ds (n + 1), .int m]) ∧ 0 ≤ d ∧ d < m := ⟨_, PreB.draw_ok h0 hn hm, PreB.drw_nn hm, PreB.drw_lt hm⟩
theorem same_ex (d e : D) (h : Sm 8 d e) : F_law_same [d, e] = some (.bl true, [d, e]) := PreA.same_ok 8 d e h
theorem digits_ex {ns : List Int} {a b : Int} (hn : ns.length ≤ 63) (ha : 0 ≤ a) (hab : a < b) (hb : b ≤ 64) : ∃ ds : List Int, ds ≠ [] ∧ (∀ d ∈ ds, 0 ≤ d ∧ d < 1000) ∧ F_law_digits [.cst (ns.map D.int), .int a, .int b] = some (.lst true (ds.map D.int), [.cst (ns.map D.int), .int a, .int b]) := PreA.digits_ok hn ha hab hb
theorem eq_frac : F_fraction = Sums.F_fraction := rfl
theorem eq_plus : F_plus = Sums.F_plus := rfl
theorem eq_minus : F_minus = Sums.F_minus := rfl
theorem eq_times : F_times = Sums.F_times := rfl
theorem eq_over : F_over = Sums.F_over := rfl
theorem eq_less : F_is_less = Sums.F_is_less := rfl
theorem eq_part : F_law_part = PreB.F_law_part := rfl
theorem whole_ok {n : Int} : F_whole [.int n] = some (rt (n : Rat), [.int n]) := by
  rw [rt_int]
  apply of_W
  unfold F_whole
  rw [W_fnD rfl]
  unfold d_whole
  walk_at "ev"
def optR : Option Rat → D
  | none => .non
  | some r => rt r
def seenR (a b c d r : Rat) : Option Rat := if c * r + d = 0 then none else some ((a * r + b) / (c * r + d))
def groundR (a b c d r : Rat) : Option Rat := if a - c * r = 0 then none else some ((d * r - b) / (a - c * r))
section
variable {a b c d r : Rat} {m : Nat} (ha : Sz m a) (hb : Sz m b) (hc : Sz m c) (hd : Sz m d) (hr : Sz m r) (hm : m ≤ 200)
include ha hb hc hd hr hm
theorem seen_at_ok : F_seen_at [.tup [rt a, rt b, rt c, rt d], rt r] = some (optR (seenR a b c d r), [.tup [rt a, rt b, rt c, rt d], rt r]) := by
  have h1 := hc.mul hr
  have h2 := h1.add hd
  have h3 := ha.mul hr
  have h4 := h3.add hb
  apply of_W
  unfold F_seen_at
  rw [W_fnD rfl]
  unfold d_seen_at
  walk_at "ev"
  rw [eq_times, W_eq (timesR hc hr (by omega) (by omega))]
  walk_at "ev"
  rw [eq_plus, W_eq (plusR h1 hd (by omega) (by omega))]
  walk_at "ev"
  unfold seenR
  split
  · rename_i h
    have h := Rat.num_eq_zero.mp h
    rw [if_pos h]
    rfl
  · rename_i h
    have h : ¬ c * r + d = 0 := fun z => h (by rw [z]; rfl)
    rw [if_neg h]
    rw [W_eq (timesR ha hr (by omega) (by omega))]
    walk_at "ev"
    rw [W_eq (plusR h3 hb (by omega) (by omega))]
    walk_at "ev"
    rw [eq_over, W_eq (overR h4 h2 (by omega) (by omega) h)]
    walk_at "ev"
    rfl
end
end Lk62
end
section
set_option Elab.async false
set_option linter.all false
set_option maxRecDepth 100000
set_option maxHeartbeats 4000000
set_option exponentiation.threshold 5000
open PySem Mv Mv.PreA
local macro_rules | `(tactic| walk_at "ev") => `(tactic| try simp only [↓W_bCons, ↓W_bNil, ↓W_bBrk, ↓W_bCnt, ↓W_bExp, ↓W_bRet, ↓W_bRetN, ↓W_bIf, ↓W_bAsg, ↓W_bPar, ↓W_bAug, ↓W_eC, ↓W_eV, ↓W_eM, ↓W_hV, ↓W_hE, ↓W_eFz, ↓W_e1, ↓W_e2, ↓W_aNil, ↓W_aCons, ↓W_eN, ↓W_eTup, ↓W_eLst, ↓W_eCall, ↓W_eMut, ↓W_eMt, ↓W_eIf, ↓W_eAn, ↓W_eOr, ↓W_eNo, ↓W_eJ0, ↓W_eJ1, ↓W_tT, ↓W_tB, ↓W_tNo, ↓W_tAn, ↓W_tOr, ↓W_tAll, ↓W_gNm, ↓W_gsNil, ↓W_gsCons, ↓W_gTp, ↓W_gTpL, ↓W_gIx, ↓W_bFor, ↓W_bWhile, ↓W_iRg1, ↓W_iRg2, ↓W_iSq, ↓W_eLc, ↓W_eSl, ↓W_pN, ↓W_pS, ↓W_iEn, ↓W_iZp, ↓W_iRv, ↓W_iRg3, ↓W_iRgV, ↓W_eCh, ↓W_chIf, ↓W_bind, ↓W_map, ↓W_some, ↓W_none,
  Hd.get, List.getElem?_cons_zero, List.getElem?_cons_succ, List.getD_cons_zero, List.getD_cons_succ, List.set_cons_zero, List.set_cons_succ, List.length_cons, List.length_nil, List.map_cons, List.map_nil, List.replicate, List.cons_append, List.nil_append, Nat.reduceAdd, Nat.reduceSub, Nat.reduceLeDiff, Nat.zero_add,
  D.frz, D.frzL, D.fz, D.fzL, tru_b, tru_i, tru_n, tru_l, tru_t, tru_c, tms, wipeD, unw, lend, unlend, keepL, Option.map_some, Option.bind_some, Bool.and_true, Bool.true_and, Bool.not_true, Bool.not_false, ↓reduceIte, if_true, if_false, Bool.false_eq_true, true_and, and_true, ite_b, ite_nb, vv_fmtI, vv_fmtS, vv_reprI, vv_reprS, vv_addS, vv_augI, vv_augS, vv_lenS, vv_eqS, vv_neS, vv_addL, vv_addT,
  vv_add, vv_sub, vv_mul, vv_div, vv_mod, vv_pow, vv_shl, vv_shr, vv_neg, vv_lt, vv_le, vv_gt, vv_ge, vv_int, vv_intS, vv_intb, vv_abs, vv_gcd, vv_max2, vv_min2, vv_lenL, vv_lenC, vv_lenT, vv_idxL, vv_idxC, vv_idxT, vv_eqI, vv_eqB, vv_neI, vv_list, vv_listT, vv_tuple, vv_tupleT, vv_sum, vv_slL, vv_slS, vv_slT, vv_range, vv_index, vv_count, isL_l, isL_c, lenL_l, lenL_c, kindL, vv_maxL, vv_minL, vv_strI, vv_app, vv_isNN, vv_isIN, vv_isSN, vv_isBN, vv_isLN, vv_isTN, vv_isBB, vv_isNB, vv_isIB, vv_isSB, vv_isLB, vv_isTB, vv_inNN, vv_inIN, vv_inSN, vv_inBN, vv_inLN, vv_inTN, vv_inBB, atF0, atF1, atF2, atF3, atF4, atF5, okI, okB, okS, okN, okL, ix0, ix1, ix2, frzL_int, fzL_int, intsD_map, isiI_int, isiI_str, isiI_bool, isiI_list, isiI_tuple, isiS_int, isiS_str, isiS_bool, isiS_list, isiS_tuple, isiB_int, isiB_str, isiB_bool, isiB_list, isiB_tuple, isiL_int, isiL_str, isiL_bool, isiL_list, isiL_tuple, isiT_int, isiT_str, isiT_bool, isiT_list, isiT_tuple, isiN_int, isiN_str, isiN_bool, isiN_list, isiN_tuple])
local macro_rules | `(tactic| walk_at "mu") => `(tactic| repeat (first | (rw [W_ok (MulOk.right (by omega))]; walk_at "ev") | (rw [W_ok (MulOk.left (by omega))]; walk_at "ev") | (rw [W_ok (divok (by omega) (by omega))]; walk_at "ev") | (rw [W_ok (by omega)]; walk_at "ev")))
namespace Lk62
section
variable {a b c d r : Rat} {m : Nat} (ha : Sz m a) (hb : Sz m b) (hc : Sz m c) (hd : Sz m d) (hr : Sz m r) (hm : m ≤ 200)
include ha hb hc hd hr hm
theorem ground_of_ok : F_ground_of [.tup [rt a, rt b, rt c, rt d], rt r] = some (optR (groundR a b c d r), [.tup [rt a, rt b, rt c, rt d], rt r]) := by
  have h1 := hc.mul hr
  have h2 := ha.sub h1
  have h3 := hd.mul hr
  have h4 := h3.sub hb
  apply of_W
  unfold F_ground_of
  rw [W_fnD rfl]
  unfold d_ground_of
  walk_at "ev"
  rw [eq_times, W_eq (timesR hc hr (by omega) (by omega))]
  walk_at "ev"
  rw [eq_minus, W_eq (minusR ha h1 (by omega) (by omega))]
  walk_at "ev"
  unfold groundR
  split
  · rename_i h
    have h := Rat.num_eq_zero.mp h
    rw [if_pos h]
    rfl
  · rename_i h
    have h : ¬ a - c * r = 0 := fun z => h (by rw [z]; rfl)
    rw [if_neg h]
    rw [W_eq (timesR hd hr (by omega) (by omega))]
    walk_at "ev"
    rw [W_eq (minusR h3 hb (by omega) (by omega))]
    walk_at "ev"
    rw [eq_over, W_eq (overR h4 h2 (by omega) (by omega) h)]
    walk_at "ev"
    rfl
end
theorem okT {r : Rat} : okD (rt r) = some (rt r) := okD_of rfl
theorem horizon_ok {a b c d : Rat} {m : Nat} (ha : Sz m a) (hc : Sz m c) (hm : m ≤ 200) : F_horizon [.tup [rt a, rt b, rt c, rt d]] = some (optR (if c = 0 then none else some (a / c)), [.tup [rt a, rt b, rt c, rt d]]) := by
  apply of_W
  unfold F_horizon
  rw [W_fnD rfl]
  unfold d_horizon
  walk_at "ev"
  rw [okT]
  walk_at "ev"
  split
  · rename_i h
    have h := Rat.num_eq_zero.mp h
    rw [if_pos h]
    rfl
  · rename_i h
    have h : ¬ c = 0 := fun z => h (by rw [z]; rfl)
    rw [if_neg h]
    rw [okT]
    walk_at "ev"
    rw [okT]
    walk_at "ev"
    rw [eq_over, W_eq (overR ha hc (by omega) (by omega) h)]
    walk_at "ev"
    rfl
def crR (x y z w : Rat) : Rat := ((z - x) / (z - y)) / ((w - x) / (w - y))
theorem ne_div {p q : Rat} (h1 : p ≠ 0) (h2 : q ≠ 0) : p / q ≠ 0 := by grind
theorem cross_ok {x y z w : Rat} {m : Nat} (hx : Sz m x) (hy : Sz m y) (hz : Sz m z) (hw : Sz m w) (hm : m ≤ 200) (h1 : z - y ≠ 0) (h2 : w - y ≠ 0) (h3 : w - x ≠ 0) :
    F_cross_ratio [rt x, rt y, rt z, rt w] = some (rt (crR x y z w), [rt x, rt y, rt z, rt w]) := by
  have a1 := hz.sub hx
  have a2 := hz.sub hy
  have a3 := hw.sub hx
  have a4 := hw.sub hy
  have a5 := a1.div a2 h1
  have a6 := a3.div a4 h2
  apply of_W
  unfold F_cross_ratio
  rw [W_fnD rfl]
  unfold d_cross_ratio
  walk_at "ev"
  rw [eq_minus, W_eq (minusR hz hx (by omega) (by omega))]
  walk_at "ev"
  rw [W_eq (minusR hz hy (by omega) (by omega))]
  walk_at "ev"
  rw [eq_over, W_eq (overR a1 a2 (by omega) (by omega) h1)]
  walk_at "ev"
  rw [W_eq (minusR hw hx (by omega) (by omega))]
  walk_at "ev"
  rw [W_eq (minusR hw hy (by omega) (by omega))]
  walk_at "ev"
  rw [W_eq (overR a3 a4 (by omega) (by omega) h2)]
  walk_at "ev"
  rw [W_eq (overR a5 a6 (by omega) (by omega) (ne_div h3 h2))]
  walk_at "ev"
  rfl
section
variable {x y z : Rat} {m : Nat} (hx : Sz m x) (hy : Sz m y) (hz : Sz m z) (hm : m ≤ 200)
include hx hy hz hm
theorem by_scale_ok (h0 : y ≠ 0) : F_by_scale [rt x, rt y, rt z] = some (rt (x * z / y), [rt x, rt y, rt z]) := by
  apply of_W
  unfold F_by_scale
  rw [W_fnD rfl]
  unfold d_by_scale
  walk_at "ev"
  rw [eq_times, W_eq (timesR hx hz (by omega) (by omega))]
  walk_at "ev"
  rw [eq_over, W_eq (overR (hx.mul hz) hy (by omega) (by omega) h0)]
  walk_at "ev"
theorem depth_ok (h0 : z ≠ 0) : F_depth_of [rt x, rt y, rt z] = some (rt (x * y / z), [rt x, rt y, rt z]) := by
  apply of_W
  unfold F_depth_of
  rw [W_fnD rfl]
  unfold d_depth_of
  walk_at "ev"
  rw [eq_times, W_eq (timesR hx hy (by omega) (by omega))]
  walk_at "ev"
  rw [eq_over, W_eq (overR (hx.mul hy) hz (by omega) (by omega) h0)]
  walk_at "ev"
theorem shadow_ok (h0 : z ≠ 0) : F_shadow_height [rt x, rt y, rt z] = some (rt (y * x / z), [rt x, rt y, rt z]) := by
  apply of_W
  unfold F_shadow_height
  rw [W_fnD rfl]
  unfold d_shadow_height
  walk_at "ev"
  rw [eq_times, W_eq (timesR hy hx (by omega) (by omega))]
  walk_at "ev"
  rw [eq_over, W_eq (overR (hy.mul hx) hz (by omega) (by omega) h0)]
  walk_at "ev"
end
theorem sz_two : Sz 2 ((2 : Int) : Rat) := ⟨by rw [Rat.num_intCast]; decide, by rw [Rat.den_intCast]; decide⟩
theorem sz_int {n : Int} {m : Nat} (h : n.natAbs < 2 ^ m) (hm : 1 ≤ m) : Sz m (n : Rat) := ⟨by rw [Rat.num_intCast]; exact h, by rw [Rat.den_intCast]; exact Nat.lt_of_lt_of_le (show 1 < 2 ^ 1 by decide) (Nat.pow_le_pow_right (by decide) hm)⟩
theorem two_ne : ((2 : Int) : Rat) ≠ 0 := cast_ne (by decide)
theorem middle_ok {a b c d x y : Rat} {m : Nat} (ha : Sz m a) (hb : Sz m b) (hc : Sz m c) (hd : Sz m d) (hx : Sz m x) (hy : Sz m y) (hm : m ≤ 40) :
    F_middle_of [.tup [rt a, rt b, rt c, rt d], rt x, rt y] = some (optR (seenR a b c d ((x + y) / ((2 : Int) : Rat))), [.tup [rt a, rt b, rt c, rt d], rt x, rt y]) := by
  have h1 := hx.add hy
  have h2 := h1.div sz_two two_ne
  apply of_W
  unfold F_middle_of
  rw [W_fnD rfl]
  unfold d_middle_of
  walk_at "ev"
  rw [eq_plus, W_eq (plusR hx hy (by omega) (by omega))]
  walk_at "ev"
  rw [W_eq (whole_ok (n := 2))]
  walk_at "ev"
  rw [eq_over, W_eq (overR h1 sz_two (by omega) (by omega) two_ne)]
  walk_at "ev"
  rw [W_eq (seen_at_ok (m := 200) (ha.mono (by omega)) (hb.mono (by omega)) (hc.mono (by omega)) (hd.mono (by omega)) (h2.mono (by omega)) (by omega))]
  walk_at "ev"
theorem optR_frz (o : Option Rat) : (optR o).frz = true := by cases o <;> rfl
theorem optR_fz (o : Option Rat) : (optR o).fz = optR o := by cases o <;> rfl
theorem steps_ok {a b c d x y : Rat} {m : Nat} {k : Nat} (ha : Sz m a) (hb : Sz m b) (hc : Sz m c) (hd : Sz m d) (hx : Sz m x) (hy : Sz m y) (hm : m ≤ 40) (h1 : 1 ≤ m) (hk : k ≤ 5) :
    F_steps_seen [.tup [rt a, rt b, rt c, rt d], rt x, rt y, .int (k : Nat)] = some (.lst true ((ilist 0 k).map fun i : Int => optR (seenR a b c d (x + y * (i : Rat)))), [.tup [rt a, rt b, rt c, rt d], rt x, rt y, .int (k : Nat)]) := by
  apply of_W
  unfold F_steps_seen
  rw [W_fnD rfl]
  unfold d_steps_seen
  walk_at "ev"
  rw [W_ok (by omega)]
  refine W_compI (fun _ => true) (fun i => optR (seenR a b c d (x + y * (i : Rat)))) (by omega) ?_ ?_
  · intro i hi1 hi2
    have s1 := sz_int (n := i) (m := 8) (by omega) (by omega)
    have s2 := hy.mul s1
    have s3 := hx.add s2
    walk_at "ev"
    rw [W_eq (whole_ok (n := i))]
    walk_at "ev"
    rw [eq_times, W_eq (timesR hy s1 (by omega) (by omega))]
    walk_at "ev"
    rw [eq_plus, W_eq (plusR hx s2 (by omega) (by omega))]
    walk_at "ev"
    rw [W_eq (seen_at_ok (m := 200) (ha.mono (by omega)) (hb.mono (by omega)) (hc.mono (by omega)) (hd.mono (by omega)) (s3.mono (by omega)) (by omega))]
    walk_at "ev"
    rw [optR_fz]
    try rfl
  · rw [List.filter_eq_self.mpr (fun _ _ => rfl), Int.toNat_natCast]
    walk_at "ev"
end Lk62
end
section
set_option Elab.async false
set_option linter.all false
set_option maxRecDepth 100000
set_option maxHeartbeats 4000000
set_option exponentiation.threshold 5000
open PySem Mv Mv.PreA
local macro_rules | `(tactic| walk_at "ev") => `(tactic| try simp only [↓W_bCons, ↓W_bNil, ↓W_bBrk, ↓W_bCnt, ↓W_bExp, ↓W_bRet, ↓W_bRetN, ↓W_bIf, ↓W_bAsg, ↓W_bPar, ↓W_bAug, ↓W_eC, ↓W_eV, ↓W_eM, ↓W_hV, ↓W_hE, ↓W_eFz, ↓W_e1, ↓W_e2, ↓W_aNil, ↓W_aCons, ↓W_eN, ↓W_eTup, ↓W_eLst, ↓W_eCall, ↓W_eMut, ↓W_eMt, ↓W_eIf, ↓W_eAn, ↓W_eOr, ↓W_eNo, ↓W_eJ0, ↓W_eJ1, ↓W_tT, ↓W_tB, ↓W_tNo, ↓W_tAn, ↓W_tOr, ↓W_tAll, ↓W_gNm, ↓W_gsNil, ↓W_gsCons, ↓W_gTp, ↓W_gTpL, ↓W_gIx, ↓W_bFor, ↓W_bWhile, ↓W_iRg1, ↓W_iRg2, ↓W_iSq, ↓W_eLc, ↓W_eSl, ↓W_pN, ↓W_pS, ↓W_iEn, ↓W_iZp, ↓W_iRv, ↓W_iRg3, ↓W_iRgV, ↓W_eCh, ↓W_chIf, ↓W_bind, ↓W_map, ↓W_some, ↓W_none,
  Hd.get, List.getElem?_cons_zero, List.getElem?_cons_succ, List.getD_cons_zero, List.getD_cons_succ, List.set_cons_zero, List.set_cons_succ, List.length_cons, List.length_nil, List.map_cons, List.map_nil, List.replicate, List.cons_append, List.nil_append, Nat.reduceAdd, Nat.reduceSub, Nat.reduceLeDiff, Nat.zero_add,
  D.frz, D.frzL, D.fz, D.fzL, tru_b, tru_i, tru_n, tru_l, tru_t, tru_c, tms, wipeD, unw, lend, unlend, keepL, Option.map_some, Option.bind_some, Bool.and_true, Bool.true_and, Bool.not_true, Bool.not_false, ↓reduceIte, if_true, if_false, Bool.false_eq_true, true_and, and_true, ite_b, ite_nb, vv_fmtI, vv_fmtS, vv_reprI, vv_reprS, vv_addS, vv_augI, vv_augS, vv_lenS, vv_eqS, vv_neS, vv_addL, vv_addT,
  vv_add, vv_sub, vv_mul, vv_div, vv_mod, vv_pow, vv_shl, vv_shr, vv_neg, vv_lt, vv_le, vv_gt, vv_ge, vv_int, vv_intS, vv_intb, vv_abs, vv_gcd, vv_max2, vv_min2, vv_lenL, vv_lenC, vv_lenT, vv_idxL, vv_idxC, vv_idxT, vv_eqI, vv_eqB, vv_neI, vv_list, vv_listT, vv_tuple, vv_tupleT, vv_sum, vv_slL, vv_slS, vv_slT, vv_range, vv_index, vv_count, isL_l, isL_c, lenL_l, lenL_c, kindL, vv_maxL, vv_minL, vv_strI, vv_app, vv_isNN, vv_isIN, vv_isSN, vv_isBN, vv_isLN, vv_isTN, vv_isBB, vv_isNB, vv_isIB, vv_isSB, vv_isLB, vv_isTB, vv_inNN, vv_inIN, vv_inSN, vv_inBN, vv_inLN, vv_inTN, vv_inBB, atF0, atF1, atF2, atF3, atF4, atF5, okI, okB, okS, okN, okL, ix0, ix1, ix2, frzL_int, fzL_int, intsD_map, isiI_int, isiI_str, isiI_bool, isiI_list, isiI_tuple, isiS_int, isiS_str, isiS_bool, isiS_list, isiS_tuple, isiB_int, isiB_str, isiB_bool, isiB_list, isiB_tuple, isiL_int, isiL_str, isiL_bool, isiL_list, isiL_tuple, isiT_int, isiT_str, isiT_bool, isiT_list, isiT_tuple, isiN_int, isiN_str, isiN_bool, isiN_list, isiN_tuple])
local macro_rules | `(tactic| walk_at "mu") => `(tactic| repeat (first | (rw [W_ok (MulOk.right (by omega))]; walk_at "ev") | (rw [W_ok (MulOk.left (by omega))]; walk_at "ev") | (rw [W_ok (divok (by omega) (by omega))]; walk_at "ev") | (rw [W_ok (by omega)]; walk_at "ev")))
namespace Lk62
theorem lin {c d : Int} {r : Rat} : ((c * r.num + d * (r.den : Int) : Int) : Rat) = ((c : Rat) * r + (d : Rat)) * ((r.den : Int) : Rat) := by
  have h1 := rat_nd r
  have h3 := cast_ne (den_ne r)
  rw [Rat.intCast_add, Rat.intCast_mul, Rat.intCast_mul]
  generalize ((r.den : Int) : Rat) = e at *
  generalize (r.num : Rat) = n at *
  grind
theorem lin' {c d : Int} {r : Rat} : ((c * (r.den : Int) - d * r.num : Int) : Rat) = ((c : Rat) - (d : Rat) * r) * ((r.den : Int) : Rat) := by
  have h1 := rat_nd r
  have h3 := cast_ne (den_ne r)
  rw [Rat.intCast_sub, Rat.intCast_mul, Rat.intCast_mul]
  generalize ((r.den : Int) : Rat) = e at *
  generalize (r.num : Rat) = n at *
  grind
theorem lin'' {c d : Int} {r : Rat} : ((c * r.num - d * (r.den : Int) : Int) : Rat) = ((c : Rat) * r - (d : Rat)) * ((r.den : Int) : Rat) := by
  have h1 := rat_nd r
  have h3 := cast_ne (den_ne r)
  rw [Rat.intCast_sub, Rat.intCast_mul, Rat.intCast_mul]
  generalize ((r.den : Int) : Rat) = e at *
  generalize (r.num : Rat) = n at *
  grind
theorem cast_zero_iff {n : Int} {x e : Rat} (h : (n : Rat) = x * e) (he : e ≠ 0) : n = 0 ↔ x = 0 := by
  rw [← Rat.intCast_eq_zero_iff, h]
  constructor
  · intro z; grind
  · intro z; grind
theorem div_can {x y e : Rat} (he : e ≠ 0) (hy : y ≠ 0) : (x * e) / (y * e) = x / y := by grind
section
variable {a b c d : Int} {r : Rat} (ha : a.natAbs < 2 ^ 20) (hb : b.natAbs < 2 ^ 20) (hc : c.natAbs < 2 ^ 20) (hd : d.natAbs < 2 ^ 20) (hr : Sz 64 r)
include ha hb hc hd hr
theorem law_seen_ok : F_law_seen [.tup [.int a, .int b, .int c, .int d], rt r] = some (optR (seenR a b c d r), [.tup [.int a, .int b, .int c, .int d], rt r]) := by
  have hq := hr.1
  have hp := hr.den
  have s1 := add_sz (mul_sz hc hr.1) (mul_sz hd hr.den)
  apply of_W
  unfold F_law_seen
  rw [W_fnD rfl]
  unfold d_law_seen
  walk_at "ev"
  rw [W_ok (MulOk.left (by omega))]
  walk_at "ev"
  rw [W_ok (MulOk.left (by omega))]
  walk_at "ev"
  unfold seenR
  have hz := cast_zero_iff (lin (c := c) (d := d) (r := r)) (cast_ne (den_ne r))
  split
  · rename_i h
    rw [if_pos (hz.mp h)]
    rfl
  · rename_i h
    have h' : ¬ (c : Rat) * r + (d : Rat) = 0 := fun z => h (hz.mpr z)
    rw [if_neg h']
    rw [W_ok (MulOk.left (by omega))]
    walk_at "ev"
    rw [W_ok (MulOk.left (by omega))]
    walk_at "ev"
    rw [eq_part, W_eq (PreB.part_rt h (up_sz s1 (by decide)))]
    walk_at "ev"
    rw [lin, lin, div_can (cast_ne (den_ne r)) h']
    rfl
theorem law_ground_ok : F_law_ground [.tup [.int a, .int b, .int c, .int d], rt r] = some (optR (groundR a b c d r), [.tup [.int a, .int b, .int c, .int d], rt r]) := by
  have hq := hr.1
  have hp := hr.den
  have s1 := sub_sz (mul_sz ha hr.den) (mul_sz hc hr.1)
  apply of_W
  unfold F_law_ground
  rw [W_fnD rfl]
  unfold d_law_ground
  walk_at "ev"
  rw [W_ok (MulOk.left (by omega))]
  walk_at "ev"
  rw [W_ok (MulOk.left (by omega))]
  walk_at "ev"
  unfold groundR
  have hz := cast_zero_iff (lin' (c := a) (d := c) (r := r)) (cast_ne (den_ne r))
  split
  · rename_i h
    rw [if_pos (hz.mp h)]
    rfl
  · rename_i h
    have h' : ¬ (a : Rat) - (c : Rat) * r = 0 := fun z => h (hz.mpr z)
    rw [if_neg h']
    rw [W_ok (MulOk.left (by omega))]
    walk_at "ev"
    rw [W_ok (MulOk.left (by omega))]
    walk_at "ev"
    rw [eq_part, W_eq (PreB.part_rt h (up_sz s1 (by decide)))]
    walk_at "ev"
    rw [lin'', lin', div_can (cast_ne (den_ne r)) h']
    rfl
end
theorem dif {x y : Rat} : ((x.num * (y.den : Int) - y.num * (x.den : Int) : Int) : Rat) = (x - y) * (((x.den : Int) : Rat) * ((y.den : Int) : Rat)) := by
  have h1 := rat_nd x
  have h2 := rat_nd y
  have h3 := cast_ne (den_ne x)
  have h4 := cast_ne (den_ne y)
  rw [Rat.intCast_sub, Rat.intCast_mul, Rat.intCast_mul]
  generalize ((x.den : Int) : Rat) = e at *
  generalize (x.num : Rat) = n at *
  generalize ((y.den : Int) : Rat) = e' at *
  generalize (y.num : Rat) = n' at *
  grind
theorem dif_ne {x y : Rat} (h : x - y ≠ 0) : x.num * (y.den : Int) - y.num * (x.den : Int) ≠ 0 := fun z => by
  have e := dif (x := x) (y := y)
  rw [z] at e
  have h3 := cast_ne (den_ne x)
  have h4 := cast_ne (den_ne y)
  have : ((0 : Int) : Rat) = 0 := rfl
  grind
theorem dif_sz {x y : Rat} {m : Nat} (hx : Sz m x) (hy : Sz m y) : (x.num * (y.den : Int) - y.num * (x.den : Int)).natAbs < 2 ^ (m + m + 1) := sub_sz (mul_sz hx.1 hy.den) (mul_sz hy.1 hx.den)
theorem ne_mul {p q : Rat} (h1 : p ≠ 0) (h2 : q ≠ 0) : p * q ≠ 0 := by grind
theorem cr_frac {A B C E : Rat} (hB : B ≠ 0) (hC : C ≠ 0) (hE : E ≠ 0) : (A * E) / (B * C) = (A / B) / (C / E) := by
  have h1 := ne_mul hB hC
  have h2 := ne_div hC hE
  grind
theorem cr_alg {x y z w p q r s : Rat} (hp : p ≠ 0) (hq : q ≠ 0) (hr : r ≠ 0) (hs : s ≠ 0) (h1 : z - y ≠ 0) (h2 : w - y ≠ 0) (h3 : w - x ≠ 0) :
    ((z - x) * (r * p) * q * ((w - y) * (s * q)) * p) / ((z - y) * (r * q) * p * ((w - x) * (s * p)) * q) = ((z - x) / (z - y)) / ((w - x) / (w - y)) := by
  generalize z - x = A
  generalize z - y = B at *
  generalize w - x = C at *
  generalize w - y = E at *
  have hK : r * p * q * (s * q * p) ≠ 0 := ne_mul (ne_mul (ne_mul hr hp) hq) (ne_mul (ne_mul hs hq) hp)
  have e1 : A * (r * p) * q * (E * (s * q)) * p = (A * E) * (r * p * q * (s * q * p)) := by grind
  have e2 : B * (r * q) * p * (C * (s * p)) * q = (B * C) * (r * p * q * (s * q * p)) := by grind
  rw [e1, e2, div_can hK (ne_mul h1 h3), cr_frac h1 h3 h2]
theorem law_cross_ok {x y z w : Rat} {m : Nat} (hx : Sz m x) (hy : Sz m y) (hz : Sz m z) (hw : Sz m w) (hm : m ≤ 64) (h1 : z - y ≠ 0) (h2 : w - y ≠ 0) (h3 : w - x ≠ 0) :
    F_law_cross [rt x, rt y, rt z, rt w] = some (rt (crR x y z w), [rt x, rt y, rt z, rt w]) := by
  have up : ∀ {i : Int} {k : Nat}, i.natAbs < 2 ^ k → k ≤ 4000 → i.natAbs < 2 ^ 4000 := fun h k => up_sz h k
  have a1 := dif_sz hz hx
  have a2 := mul_sz a1 hy.den
  have a3 := dif_sz hw hy
  have a4 := mul_sz a2 a3
  have b1 := dif_sz hz hy
  have b2 := mul_sz b1 hx.den
  have b3 := dif_sz hw hx
  have b4 := mul_sz b2 b3
  have b5 := mul_sz b4 hy.den
  have ux := up hx.1 (by omega)
  have uy := up hy.1 (by omega)
  have uz := up hz.1 (by omega)
  have uw := up hw.1 (by omega)
  have vx := up hx.den (by omega)
  have vy := up hy.den (by omega)
  have vz := up hz.den (by omega)
  have vw := up hw.den (by omega)
  have k1 := cast_ne (den_ne x)
  have k2 := cast_ne (den_ne y)
  have k3 := cast_ne (den_ne z)
  have k4 := cast_ne (den_ne w)
  have hb : (z.num * (y.den : Int) - y.num * (z.den : Int)) * (x.den : Int) * (w.num * (x.den : Int) - x.num * (w.den : Int)) * (y.den : Int) ≠ 0 := Int.mul_ne_zero (Int.mul_ne_zero (Int.mul_ne_zero (dif_ne h1) (den_ne x)) (dif_ne h3)) (den_ne y)
  apply of_W
  unfold F_law_cross
  rw [W_fnD rfl]
  unfold d_law_cross
  walk_at "ev"
  rw [W_ok (MulOk.both uz vx)]
  walk_at "ev"
  rw [W_ok (MulOk.both ux vz)]
  walk_at "ev"
  rw [W_ok (MulOk.both (up a1 (by omega)) vy)]
  walk_at "ev"
  rw [W_ok (MulOk.both uw vy)]
  walk_at "ev"
  rw [W_ok (MulOk.both uy vw)]
  walk_at "ev"
  rw [W_ok (MulOk.both (up a2 (by omega)) (up a3 (by omega)))]
  walk_at "ev"
  rw [W_ok (MulOk.both (up a4 (by omega)) vx)]
  walk_at "ev"
  rw [W_ok (MulOk.both uz vy)]
  walk_at "ev"
  rw [W_ok (MulOk.both uy vz)]
  walk_at "ev"
  rw [W_ok (MulOk.both (up b1 (by omega)) vx)]
  walk_at "ev"
  rw [W_ok (MulOk.both uw vx)]
  walk_at "ev"
  rw [W_ok (MulOk.both ux vw)]
  walk_at "ev"
  rw [W_ok (MulOk.both (up b2 (by omega)) (up b3 (by omega)))]
  walk_at "ev"
  rw [W_ok (MulOk.both (up b4 (by omega)) vy)]
  walk_at "ev"
  rw [eq_part, W_eq (PreB.part_rt hb (up b5 (by omega)))]
  walk_at "ev"
  rw [Rat.intCast_mul, Rat.intCast_mul, Rat.intCast_mul, dif, dif, Rat.intCast_mul, Rat.intCast_mul, Rat.intCast_mul, dif, dif, cr_alg k1 k2 k3 k4 h1 h2 h3]
  rfl
end Lk62
end
section
set_option Elab.async false
set_option linter.all false
set_option maxRecDepth 100000
set_option maxHeartbeats 4000000
set_option exponentiation.threshold 5000
open PySem Mv Mv.PreA
local macro_rules | `(tactic| walk_at "ev") => `(tactic| try simp only [↓W_bCons, ↓W_bNil, ↓W_bBrk, ↓W_bCnt, ↓W_bExp, ↓W_bRet, ↓W_bRetN, ↓W_bIf, ↓W_bAsg, ↓W_bPar, ↓W_bAug, ↓W_eC, ↓W_eV, ↓W_eM, ↓W_hV, ↓W_hE, ↓W_eFz, ↓W_e1, ↓W_e2, ↓W_aNil, ↓W_aCons, ↓W_eN, ↓W_eTup, ↓W_eLst, ↓W_eCall, ↓W_eMut, ↓W_eMt, ↓W_eIf, ↓W_eAn, ↓W_eOr, ↓W_eNo, ↓W_eJ0, ↓W_eJ1, ↓W_tT, ↓W_tB, ↓W_tNo, ↓W_tAn, ↓W_tOr, ↓W_tAll, ↓W_gNm, ↓W_gsNil, ↓W_gsCons, ↓W_gTp, ↓W_gTpL, ↓W_gIx, ↓W_bFor, ↓W_bWhile, ↓W_iRg1, ↓W_iRg2, ↓W_iSq, ↓W_eLc, ↓W_eSl, ↓W_pN, ↓W_pS, ↓W_iEn, ↓W_iZp, ↓W_iRv, ↓W_iRg3, ↓W_iRgV, ↓W_eCh, ↓W_chIf, ↓W_bind, ↓W_map, ↓W_some, ↓W_none,
  Hd.get, List.getElem?_cons_zero, List.getElem?_cons_succ, List.getD_cons_zero, List.getD_cons_succ, List.set_cons_zero, List.set_cons_succ, List.length_cons, List.length_nil, List.map_cons, List.map_nil, List.replicate, List.cons_append, List.nil_append, Nat.reduceAdd, Nat.reduceSub, Nat.reduceLeDiff, Nat.zero_add,
  D.frz, D.frzL, D.fz, D.fzL, tru_b, tru_i, tru_n, tru_l, tru_t, tru_c, tms, wipeD, unw, lend, unlend, keepL, Option.map_some, Option.bind_some, Bool.and_true, Bool.true_and, Bool.not_true, Bool.not_false, ↓reduceIte, if_true, if_false, Bool.false_eq_true, true_and, and_true, ite_b, ite_nb, vv_fmtI, vv_fmtS, vv_reprI, vv_reprS, vv_addS, vv_augI, vv_augS, vv_lenS, vv_eqS, vv_neS, vv_addL, vv_addT,
  vv_add, vv_sub, vv_mul, vv_div, vv_mod, vv_pow, vv_shl, vv_shr, vv_neg, vv_lt, vv_le, vv_gt, vv_ge, vv_int, vv_intS, vv_intb, vv_abs, vv_gcd, vv_max2, vv_min2, vv_lenL, vv_lenC, vv_lenT, vv_idxL, vv_idxC, vv_idxT, vv_eqI, vv_eqB, vv_neI, vv_list, vv_listT, vv_tuple, vv_tupleT, vv_sum, vv_slL, vv_slS, vv_slT, vv_range, vv_index, vv_count, isL_l, isL_c, lenL_l, lenL_c, kindL, vv_maxL, vv_minL, vv_strI, vv_app, vv_isNN, vv_isIN, vv_isSN, vv_isBN, vv_isLN, vv_isTN, vv_isBB, vv_isNB, vv_isIB, vv_isSB, vv_isLB, vv_isTB, vv_inNN, vv_inIN, vv_inSN, vv_inBN, vv_inLN, vv_inTN, vv_inBB, atF0, atF1, atF2, atF3, atF4, atF5, okI, okB, okS, okN, okL, ix0, ix1, ix2, frzL_int, fzL_int, intsD_map, isiI_int, isiI_str, isiI_bool, isiI_list, isiI_tuple, isiS_int, isiS_str, isiS_bool, isiS_list, isiS_tuple, isiB_int, isiB_str, isiB_bool, isiB_list, isiB_tuple, isiL_int, isiL_str, isiL_bool, isiL_list, isiL_tuple, isiT_int, isiT_str, isiT_bool, isiT_list, isiT_tuple, isiN_int, isiN_str, isiN_bool, isiN_list, isiN_tuple])
local macro_rules | `(tactic| walk_at "mu") => `(tactic| repeat (first | (rw [W_ok (MulOk.right (by omega))]; walk_at "ev") | (rw [W_ok (MulOk.left (by omega))]; walk_at "ev") | (rw [W_ok (divok (by omega) (by omega))]; walk_at "ev") | (rw [W_ok (by omega)]; walk_at "ev")))
namespace Lk62
theorem fraction_ex {ds : List Int} {n size : Int} (h0 : ds ≠ []) (hn : 0 ≤ n) (hs : 0 ≤ size) (hs2 : size ≤ 12) : W (F_law_fraction [bx ds n, .int size]) fun r => ∃ p e n' : Int, r = (rt ((p : Rat) / (e : Rat)), [bx ds n', .int size]) ∧ -size ≤ p ∧ p ≤ size ∧ 1 ≤ e ∧ e ≤ 3 ∧ n ≤ n' := by
  unfold F_law_fraction
  rw [W_fnD rfl]
  unfold d_law_fraction
  walk_at "ev"
  rw [W_ok (MulOk.left (by decide))]
  walk_at "ev"
  obtain ⟨x, e, x1, x2⟩ := draw_ex (ds := ds) (n := n) (m := 2 * size + 1) h0 (by omega) (by omega)
  rw [W_eq e]
  walk_at "ev"
  obtain ⟨y, e, y1, y2⟩ := draw_ex (ds := ds) (n := n + 1) (m := 3) h0 (by omega) (by omega)
  rw [W_eq e]
  walk_at "ev"
  rw [eq_part, W_eq (PreB.part_rt (by omega) (by omega))]
  walk_at "ev"
  exact ⟨_, _, _, rfl, by omega, by omega, by omega, by omega, by omega⟩
theorem sz_frac {p e size : Int} (h1 : -size ≤ p) (h2 : p ≤ size) (hs : size ≤ 31) (h3 : 1 ≤ e) (h4 : e ≤ 3) : Sz 5 ((p : Rat) / (e : Rat)) := sz_of (by omega) (by omega) (by omega)
structure View (a b c d : Int) : Prop where
  a1 : -4 ≤ a
  a2 : a ≤ 4
  b1 : -4 ≤ b
  b2 : b ≤ 4
  c1 : -4 ≤ c
  c2 : c ≤ 4
  d1 : -4 ≤ d
  d2 : d ≤ 4
  ne : a * d ≠ b * c
theorem four {l : List Int} (h : l.length = 4) : ∃ a b c d, l = [a, b, c, d] := by
  match l, h with
  | [a, b, c, d], _ => exact ⟨a, b, c, d, rfl⟩
theorem view_ex {ds : List Int} {n : Int} (h0 : ds ≠ []) (hn : 0 ≤ n) : W (F_law_view [bx ds n]) fun r => ∃ a b c d n' : Int, r = (.tup [.int a, .int b, .int c, .int d], [bx ds n']) ∧ View a b c d ∧ n ≤ n' := by
  unfold F_law_view
  rw [W_fnD rfl]
  unfold d_law_view
  walk_at "ev"
  rw [W_ok (by omega)]
  refine W_range (lo := 0) (fun k ρ => ∃ (n' : Int) (x1 x2 x3 x4 x5 x6 : D), ρ = [bx ds n', x1, x2, x3, x4, x5, x6] ∧ n ≤ n') ⟨_, _, _, _, _, _, _, rfl, by omega⟩ ?_ ?_
  · rintro k ρ hk ⟨n', x1, x2, x3, x4, x5, x6, rfl, hn'⟩
    generalize hlap : (0 : Int) + (k : Int) = lap
    walk_at "ev"
    rw [W_ok (by omega)]
    refine W_compR (fun j acc ρ => ∃ (n2 : Int) (l : List Int), ρ = [bx ds n2, .int lap, x2, x3, x4, x5, x6] ∧ n ≤ n2 ∧ acc = l.map D.int ∧ l.length = j ∧ ∀ x ∈ l, -4 ≤ x ∧ x ≤ 4) ⟨_, [], rfl, by omega, rfl, rfl, fun _ h => absurd h List.not_mem_nil⟩ ?_ ?_
    · rintro j acc ρ hj ⟨n2, l, rfl, hn2, rfl, hl, hb⟩
      have hj : j < 4 := hj
      walk_at "ev"
      obtain ⟨x, e, x7, x8⟩ := draw_ex (ds := ds) (n := n2) (m := 9) h0 (by omega) (by omega)
      rw [W_eq e]
      walk_at "ev"
      refine ⟨by rw [List.length_map]; omega, _, l ++ [x - 4], rfl, by omega, by rw [List.map_append]; rfl, by rw [List.length_append, hl]; rfl, fun y hy => ?_⟩
      rcases List.mem_append.mp hy with h | h
      · exact hb y h
      · rw [List.mem_singleton.mp h]; omega
    · rintro acc ρ ⟨n2, l, rfl, hn2, rfl, hl, hb⟩
      have hl : l.length = 4 := hl
      obtain ⟨a, b, c, d, rfl⟩ := four hl
      have ha := hb a (by simp)
      have hb' := hb b (by simp)
      have hc := hb c (by simp)
      have hd := hb d (by simp)
      walk_at "ev"
      have fin : ∀ (n3 c' : Int), n ≤ n3 → -4 ≤ c' → c' ≤ 4 → a * d ≠ b * c' → View a b c' d := fun n3 c' h1 h2 h3 h4 => ⟨ha.1, ha.2, hb'.1, hb'.2, h2, h3, hd.1, hd.2, h4⟩
      split
      · obtain ⟨w, e, w1, w2⟩ := draw_ex (ds := ds) (n := n2) (m := 3) h0 (by omega) (by omega)
        rw [W_eq e]
        walk_at "ev"
        split
        · rw [W_ok (MulOk.left (by omega))]
          walk_at "ev"
          rw [W_ok (MulOk.left (by omega))]
          walk_at "ev"
          split
          · rename_i hne
            first
              | exact ⟨a, b, 0, d, _, rfl, fin n2 _ hn2 (by omega) (by omega) hne, by omega⟩
              | exact ⟨_, _, _, _, _, _, _, rfl, by omega⟩
          · rename_i hne
            first
              | exact ⟨a, b, 0, d, _, rfl, fin n2 _ hn2 (by omega) (by omega) hne, by omega⟩
              | exact ⟨_, _, _, _, _, _, _, rfl, by omega⟩
        · rw [W_ok (MulOk.left (by omega))]
          walk_at "ev"
          rw [W_ok (MulOk.left (by omega))]
          walk_at "ev"
          split
          · rename_i hne
            first
              | exact ⟨a, b, c, d, _, rfl, fin n2 _ hn2 (by omega) (by omega) hne, by omega⟩
              | exact ⟨_, _, _, _, _, _, _, rfl, by omega⟩
          · rename_i hne
            first
              | exact ⟨a, b, c, d, _, rfl, fin n2 _ hn2 (by omega) (by omega) hne, by omega⟩
              | exact ⟨_, _, _, _, _, _, _, rfl, by omega⟩
      · rw [W_ok (MulOk.left (by omega))]
        walk_at "ev"
        rw [W_ok (MulOk.left (by omega))]
        walk_at "ev"
        split
        · rename_i hne
          first
            | exact ⟨a, b, c, d, _, rfl, fin n2 _ hn2 (by omega) (by omega) hne, by omega⟩
            | exact ⟨_, _, _, _, _, _, _, rfl, by omega⟩
        · rename_i hne
          first
            | exact ⟨a, b, c, d, _, rfl, fin n2 _ hn2 (by omega) (by omega) hne, by omega⟩
            | exact ⟨_, _, _, _, _, _, _, rfl, by omega⟩
  · rintro ρ ⟨n', x1, x2, x3, x4, x5, x6, rfl, hn'⟩
    walk_at "ev"
    exact ⟨2, 1, 1, 3, n', rfl, ⟨by omega, by omega, by omega, by omega, by omega, by omega, by omega, by omega, by decide⟩, hn'⟩
theorem emb_rt : Emb rt := ⟨fun r => ok_tup fun d hd => by
    simp only [List.mem_cons, List.not_mem_nil, or_false] at hd
    rcases hd with rfl | rfl <;> exact ok_int, fun x y => by
  show PyData.eqv (D.pd (.tup [.int x.num, .int (x.den : Int)])) (D.pd (.tup [.int y.num, .int (y.den : Int)])) = _
  simp only [D.pd, D.pdL, PyData.eqv, PyData.eqvAll, Bool.and_true]
  by_cases h : x = y
  · subst h; simp
  · rw [decide_eq_false h]
    refine Bool.eq_false_iff.mpr fun z => h ?_
    rw [Bool.and_eq_true] at z
    rw [rat_nd x, rat_nd y, eq_of_beq z.1, eq_of_beq z.2]⟩
structure Pl (c d : Int) (hi : Int) (l : List Rat) : Prop where
  nd : l.Nodup
  ok : ∀ r ∈ l, (c : Rat) * r + (d : Rat) ≠ 0 ∧ Sz 5 r ∧ r < (hi : Rat)
theorem pl_add {c d hi hi' : Int} {l : List Rat} {r : Rat} (h : Pl c d hi l) (hr : r ∉ l) (h1 : (c : Rat) * r + (d : Rat) ≠ 0) (h2 : Sz 5 r) (h3 : r < (hi' : Rat)) (h4 : hi ≤ hi') : Pl c d hi' (l ++ [r]) := by
  refine ⟨?_, fun x hx => ?_⟩
  · rw [List.nodup_append]
    refine ⟨h.nd, List.nodup_cons.mpr ⟨List.not_mem_nil, List.nodup_nil⟩, fun a ha b hb => ?_⟩
    rw [List.mem_singleton.mp hb]
    intro z
    exact hr (z ▸ ha)
  · rcases List.mem_append.mp hx with hx | hx
    · obtain ⟨k1, k2, k3⟩ := h.ok x hx
      have : (hi : Rat) ≤ (hi' : Rat) := Rat.intCast_le_intCast.mpr h4
      exact ⟨k1, k2, by grind⟩
    · rw [List.mem_singleton.mp hx]
      exact ⟨h1, h2, h3⟩
theorem pl_up {c d hi hi' : Int} {l : List Rat} (h : Pl c d hi l) (h4 : hi ≤ hi') : Pl c d hi' l := ⟨h.nd, fun x hx => by
  obtain ⟨k1, k2, k3⟩ := h.ok x hx
  have : (hi : Rat) ≤ (hi' : Rat) := Rat.intCast_le_intCast.mpr h4
  exact ⟨k1, k2, by grind⟩⟩
theorem frac_lt {p e : Int} (h : p ≤ 9) (h1 : 1 ≤ e) : (p : Rat) / (e : Rat) < ((10 : Int) : Rat) := by
  have h2 : (0 : Rat) < (e : Rat) := Rat.intCast_pos.mpr (by omega)
  have h3 : (p : Rat) < ((10 : Int) : Rat) * (e : Rat) := by
    rw [← Rat.intCast_mul]
    exact Rat.intCast_lt_intCast.mpr (by omega)
  have h4 : (p : Rat) = (p : Rat) / (e : Rat) * (e : Rat) := by grind
  generalize (p : Rat) / (e : Rat) = q at *
  by_cases hq : q < ((10 : Int) : Rat)
  · exact hq
  · exfalso
    have h5 : ((10 : Int) : Rat) ≤ q := by grind
    have h6 : ((10 : Int) : Rat) * (e : Rat) ≤ q * (e : Rat) := Rat.mul_le_mul_of_nonneg_right h5 (by grind)
    grind
theorem places_ex {ds : List Int} {n a b c d : Int} (h0 : ds ≠ []) (hn : 0 ≤ n) (hv : View a b c d) : W (F_law_places [bx ds n, .tup [.int a, .int b, .int c, .int d], .int 4]) fun r => ∃ (l : List Rat) (n' : Int), r = (.lst true (l.map rt), [bx ds n', .tup [.int a, .int b, .int c, .int d], .int 4]) ∧ l.length = 4 ∧ Pl c d 30 l ∧ n ≤ n' := by
  have ha : a.natAbs < 2 ^ 20 := by have := hv.a1; have := hv.a2; omega
  have hb : b.natAbs < 2 ^ 20 := by have := hv.b1; have := hv.b2; omega
  have hc : c.natAbs < 2 ^ 20 := by have := hv.c1; have := hv.c2; omega
  have hd : d.natAbs < 2 ^ 20 := by have := hv.d1; have := hv.d2; omega
  unfold F_law_places
  rw [W_fnD rfl]
  unfold d_law_places
  walk_at "ev"
  rw [W_ok (by omega)]
  refine W_range (lo := 0) (fun k ρ => ∃ (n' : Int) (l : List Rat) (x4 x5 x6 : D), ρ = [bx ds n', .tup [.int a, .int b, .int c, .int d], .int 4, .lst true (l.map rt), x4, x5, x6] ∧ n ≤ n' ∧ l.length ≤ 4 ∧ Pl c d 10 l) ⟨_, [], _, _, _, rfl, by omega, by simp, ⟨List.nodup_nil, fun _ h => absurd h List.not_mem_nil⟩⟩ ?_ ?_
  · rintro k ρ hk ⟨n', l, x4, x5, x6, rfl, hn', hl, hp⟩
    walk_at "ev"
    refine W_mono (fraction_ex (ds := ds) (n := n') (size := 9) h0 (by omega) (by omega) (by omega)) ?_
    rintro r ⟨p, e, n2, rfl, p1, p2, e1, e2, hn2⟩
    have s1 := sz_frac p1 p2 (by omega) e1 e2
    have s2 := frac_lt p2 e1
    generalize (p : Rat) / (e : Rat) = q at *
    walk_at "ev"
    rw [List.length_map]
    split
    · rename_i hlt
      rw [gIn_map emb_rt]
      walk_at "ev"
      by_cases hq : q ∈ l
      · rw [if_pos hq]
        exact ⟨_, _, _, _, _, rfl, by omega, hl, hp⟩
      · rw [if_neg hq]
        rw [W_eq (law_seen_ok ha hb hc hd (s1.mono (by omega)))]
        unfold seenR
        by_cases hz : (c : Rat) * q + (d : Rat) = 0
        · rw [if_pos hz]
          unfold optR
          walk_at "ev"
          exact ⟨_, _, _, _, _, rfl, by omega, hl, hp⟩
        · rw [if_neg hz]
          unfold optR
          walk_at "ev"
          rw [W_ok (by rw [List.length_map]; omega)]
          walk_at "ev"
          exact ⟨_, l ++ [q], _, _, _, by rw [List.map_append]; rfl, by omega, by rw [List.length_append]; show l.length + 1 ≤ 4; omega, pl_add hp hq hz s1 s2 (by omega)⟩
    · exact ⟨_, _, _, _, _, rfl, by omega, hl, hp⟩
  · rintro ρ ⟨n', l, x4, x5, x6, rfl, hn', hl, hp⟩
    walk_at "ev"
    rw [W_ok (by omega)]
    refine W_range (lo := 10) (fun i ρ => ∃ (n' : Int) (l : List Rat) (x6 : D), ρ = [bx ds n', .tup [.int a, .int b, .int c, .int d], .int 4, .lst true (l.map rt), x4, x5, x6] ∧ n ≤ n' ∧ l.length ≤ 4 ∧ Pl c d (10 + (i : Int)) l ∧ (4 ≤ l.length ∨ i ≤ l.length ∨ (i ≤ l.length + 1 ∧ ∃ j : Int, j < 10 + (i : Int) ∧ (c : Rat) * (j : Rat) + (d : Rat) = 0))) ⟨_, l, _, rfl, hn', hl, pl_up hp (by omega), .inr (.inl (by omega))⟩ ?_ ?_
    · rintro i ρ hi ⟨n', l, x6, rfl, hn', hl, hp, hg⟩
      have hi : i < 20 := hi
      generalize hj : (10 : Int) + (i : Int) = j at *
      walk_at "ev"
      rw [List.length_map]
      split
      · rename_i hlt
        rw [show D.tup [D.int j, D.int 1] = rt (j : Rat) from (rt_int _).symm]
        have s1 : Sz 5 (j : Rat) := sz_int (by omega) (by omega)
        rw [W_eq (law_seen_ok ha hb hc hd (s1.mono (by omega)))]
        unfold seenR
        by_cases hz : (c : Rat) * (j : Rat) + (d : Rat) = 0
        · rw [if_pos hz]
          unfold optR
          walk_at "ev"
          refine ⟨_, l, _, rfl, by omega, hl, pl_up hp (by omega), ?_⟩
          rcases hg with h | h | ⟨h, j', hj', hz'⟩
          · exact .inl h
          · exact .inr (.inr ⟨by omega, j, by omega, hz⟩)
          · exfalso
            have h1 : ((j' : Rat)) < (j : Rat) := Rat.intCast_lt_intCast.mpr hj'
            have h2 : (c : Rat) = 0 := by
              have e : (c : Rat) * ((j : Rat) - (j' : Rat)) = 0 := by grind
              have e2 : (j : Rat) - (j' : Rat) ≠ 0 := by grind
              grind
            have h3 : (d : Rat) = 0 := by grind
            have h4 := Rat.intCast_eq_zero_iff.mp h2
            have h5 := Rat.intCast_eq_zero_iff.mp h3
            exact hv.ne (by rw [h4, h5]; omega)
        · rw [if_neg hz]
          unfold optR
          walk_at "ev"
          rw [W_ok (by rw [List.length_map]; omega)]
          walk_at "ev"
          rw [show D.tup [D.int j, D.int 1] = rt (j : Rat) from (rt_int _).symm]
          have hnot : (j : Rat) ∉ l := fun hm => by
            have := (hp.ok _ hm).2.2
            grind
          refine ⟨_, l ++ [(j : Rat)], _, by rw [List.map_append]; rfl, by omega, by rw [List.length_append]; show l.length + 1 ≤ 4; omega, pl_add hp hnot hz s1 (Rat.intCast_lt_intCast.mpr (by omega)) (by omega), ?_⟩
          rw [List.length_append]
          have h1' : [(j : Rat)].length = 1 := rfl
          rw [h1']
          rcases hg with h | h | ⟨h, j', hj', hz'⟩
          · exact .inl (by omega)
          · exact .inr (.inl (by omega))
          · exact .inr (.inr ⟨by omega, j', by omega, hz'⟩)
      · refine ⟨_, l, _, rfl, by omega, hl, pl_up hp (by omega), ?_⟩
        exact .inl (by omega)
    · rintro ρ ⟨n', l, x6, rfl, hn', hl, hp, hg⟩
      walk_at "ev"
      have hg : 4 ≤ l.length ∨ 20 ≤ l.length ∨ (20 ≤ l.length + 1 ∧ _) := hg
      exact ⟨l, n', rfl, by omega, pl_up hp (by decide), hn'⟩
end Lk62
end
section
set_option Elab.async false
set_option linter.all false
set_option maxRecDepth 100000
set_option maxHeartbeats 4000000
set_option exponentiation.threshold 5000
open PySem Mv Mv.PreA
local macro_rules | `(tactic| walk_at "ev") => `(tactic| try simp only [↓W_bCons, ↓W_bNil, ↓W_bBrk, ↓W_bCnt, ↓W_bExp, ↓W_bRet, ↓W_bRetN, ↓W_bIf, ↓W_bAsg, ↓W_bPar, ↓W_bAug, ↓W_eC, ↓W_eV, ↓W_eM, ↓W_hV, ↓W_hE, ↓W_eFz, ↓W_e1, ↓W_e2, ↓W_aNil, ↓W_aCons, ↓W_eN, ↓W_eTup, ↓W_eLst, ↓W_eCall, ↓W_eMut, ↓W_eMt, ↓W_eIf, ↓W_eAn, ↓W_eOr, ↓W_eNo, ↓W_eJ0, ↓W_eJ1, ↓W_tT, ↓W_tB, ↓W_tNo, ↓W_tAn, ↓W_tOr, ↓W_tAll, ↓W_gNm, ↓W_gsNil, ↓W_gsCons, ↓W_gTp, ↓W_gTpL, ↓W_gIx, ↓W_bFor, ↓W_bWhile, ↓W_iRg1, ↓W_iRg2, ↓W_iSq, ↓W_eLc, ↓W_eSl, ↓W_pN, ↓W_pS, ↓W_iEn, ↓W_iZp, ↓W_iRv, ↓W_iRg3, ↓W_iRgV, ↓W_eCh, ↓W_chIf, ↓W_bind, ↓W_map, ↓W_some, ↓W_none,
  Hd.get, List.getElem?_cons_zero, List.getElem?_cons_succ, List.getD_cons_zero, List.getD_cons_succ, List.set_cons_zero, List.set_cons_succ, List.length_cons, List.length_nil, List.map_cons, List.map_nil, List.replicate, List.cons_append, List.nil_append, Nat.reduceAdd, Nat.reduceSub, Nat.reduceLeDiff, Nat.zero_add,
  D.frz, D.frzL, D.fz, D.fzL, tru_b, tru_i, tru_n, tru_l, tru_t, tru_c, tms, wipeD, unw, lend, unlend, keepL, Option.map_some, Option.bind_some, Bool.and_true, Bool.true_and, Bool.not_true, Bool.not_false, ↓reduceIte, if_true, if_false, Bool.false_eq_true, true_and, and_true, ite_b, ite_nb, vv_fmtI, vv_fmtS, vv_reprI, vv_reprS, vv_addS, vv_augI, vv_augS, vv_lenS, vv_eqS, vv_neS, vv_addL, vv_addT,
  vv_add, vv_sub, vv_mul, vv_div, vv_mod, vv_pow, vv_shl, vv_shr, vv_neg, vv_lt, vv_le, vv_gt, vv_ge, vv_int, vv_intS, vv_intb, vv_abs, vv_gcd, vv_max2, vv_min2, vv_lenL, vv_lenC, vv_lenT, vv_idxL, vv_idxC, vv_idxT, vv_eqI, vv_eqB, vv_neI, vv_list, vv_listT, vv_tuple, vv_tupleT, vv_sum, vv_slL, vv_slS, vv_slT, vv_range, vv_index, vv_count, isL_l, isL_c, lenL_l, lenL_c, kindL, vv_maxL, vv_minL, vv_strI, vv_app, vv_isNN, vv_isIN, vv_isSN, vv_isBN, vv_isLN, vv_isTN, vv_isBB, vv_isNB, vv_isIB, vv_isSB, vv_isLB, vv_isTB, vv_inNN, vv_inIN, vv_inSN, vv_inBN, vv_inLN, vv_inTN, vv_inBB, atF0, atF1, atF2, atF3, atF4, atF5, okI, okB, okS, okN, okL, ix0, ix1, ix2, frzL_int, fzL_int, intsD_map, isiI_int, isiI_str, isiI_bool, isiI_list, isiI_tuple, isiS_int, isiS_str, isiS_bool, isiS_list, isiS_tuple, isiB_int, isiB_str, isiB_bool, isiB_list, isiB_tuple, isiL_int, isiL_str, isiL_bool, isiL_list, isiL_tuple, isiT_int, isiT_str, isiT_bool, isiT_list, isiT_tuple, isiN_int, isiN_str, isiN_bool, isiN_list, isiN_tuple])
local macro_rules | `(tactic| walk_at "mu") => `(tactic| repeat (first | (rw [W_ok (MulOk.right (by omega))]; walk_at "ev") | (rw [W_ok (MulOk.left (by omega))]; walk_at "ev") | (rw [W_ok (divok (by omega) (by omega))]; walk_at "ev") | (rw [W_ok (by omega)]; walk_at "ev")))
namespace Lk62
def det (a b c d e f g h i : Rat) : Rat := (a * (e * i - f * h) - b * (d * i - f * g)) + c * (d * h - e * g)
theorem box_ok {o : Bool} {a b c d e f g h i : Rat} {m : Nat} (ha : Sz m a) (hb : Sz m b) (hc : Sz m c) (hd : Sz m d) (he : Sz m e) (hf : Sz m f) (hg : Sz m g) (hh : Sz m h) (hi : Sz m i) (hm : m ≤ 40) :
    F_box_of [.lst o [.lst false [rt a, rt b, rt c], .lst false [rt d, rt e, rt f], .lst false [rt g, rt h, rt i]]] = some (rt (det a b c d e f g h i), [.lst false [.lst false [rt a, rt b, rt c], .lst false [rt d, rt e, rt f], .lst false [rt g, rt h, rt i]]]) := by
  have s1 := he.mul hi
  have s2 := hf.mul hh
  have s3 := s1.sub s2
  have s4 := ha.mul s3
  have t1 := hd.mul hi
  have t2 := hf.mul hg
  have t3 := t1.sub t2
  have t4 := hb.mul t3
  have u1 := hd.mul hh
  have u2 := he.mul hg
  have u3 := u1.sub u2
  have u4 := hc.mul u3
  have v1 := s4.sub t4
  apply of_W
  unfold F_box_of
  rw [W_fnD rfl]
  unfold d_box_of
  cases o
  all_goals
    walk_at "ev"
    rw [eq_times, W_eq (timesR he hi (by omega) (by omega))]
    walk_at "ev"
    rw [W_eq (timesR hf hh (by omega) (by omega))]
    walk_at "ev"
    rw [eq_minus, W_eq (minusR s1 s2 (by omega) (by omega))]
    walk_at "ev"
    rw [W_eq (timesR ha s3 (by omega) (by omega))]
    walk_at "ev"
    rw [W_eq (timesR hd hi (by omega) (by omega))]
    walk_at "ev"
    rw [W_eq (timesR hf hg (by omega) (by omega))]
    walk_at "ev"
    rw [W_eq (minusR t1 t2 (by omega) (by omega))]
    walk_at "ev"
    rw [W_eq (timesR hb t3 (by omega) (by omega))]
    walk_at "ev"
    rw [W_eq (minusR s4 t4 (by omega) (by omega))]
    walk_at "ev"
    rw [W_eq (timesR hd hh (by omega) (by omega))]
    walk_at "ev"
    rw [W_eq (timesR he hg (by omega) (by omega))]
    walk_at "ev"
    rw [W_eq (minusR u1 u2 (by omega) (by omega))]
    walk_at "ev"
    rw [W_eq (timesR hc u3 (by omega) (by omega))]
    walk_at "ev"
    rw [eq_plus, W_eq (plusR v1 u4 (by omega) (by omega))]
    walk_at "ev"
    try rfl
abbrev Q4 := Rat × Rat × Rat × Rat
abbrev rowE (w : Q4) : D := .lst false [rt w.1, rt w.2.1, rt w.2.2.1, rt w.2.2.2]
def nums (w : Q4) : List (Int × Rat) := [(0, w.1), (1, w.2.1), (2, w.2.2.1), (3, w.2.2.2)]
def cols (w : Q4) (col : Int) : List Rat := ((nums w).filter fun e => decide (e.1 ≠ col)).map Prod.snd
theorem cols0 (w : Q4) : cols w 0 = [w.2.1, w.2.2.1, w.2.2.2] := by unfold cols nums; simp
theorem cols1 (w : Q4) : cols w 1 = [w.1, w.2.2.1, w.2.2.2] := by unfold cols nums; simp
theorem cols2 (w : Q4) : cols w 2 = [w.1, w.2.1, w.2.2.2] := by unfold cols nums; simp
theorem cols3 (w : Q4) : cols w 3 = [w.1, w.2.1, w.2.2.1] := by unfold cols nums; simp
theorem frz_rts : ∀ l : List Rat, D.frzL (l.map rt) = true := fun l => frzL_of fun d hd => by
  obtain ⟨r, _, rfl⟩ := List.mem_map.mp hd; rfl
theorem fzL_rts : ∀ l : List Rat, D.fzL (l.map rt) = l.map rt
  | [] => rfl
  | r :: l => by show rt r :: D.fzL (l.map rt) = _; rw [fzL_rts l]; rfl
def minor (w1 w2 w3 : Q4) (k : Nat) : Rat := match k with
  | 0 => det w1.2.1 w1.2.2.1 w1.2.2.2 w2.2.1 w2.2.2.1 w2.2.2.2 w3.2.1 w3.2.2.1 w3.2.2.2
  | 1 => ((0 : Int) : Rat) - det w1.1 w1.2.2.1 w1.2.2.2 w2.1 w2.2.2.1 w2.2.2.2 w3.1 w3.2.2.1 w3.2.2.2
  | 2 => det w1.1 w1.2.1 w1.2.2.2 w2.1 w2.2.1 w2.2.2.2 w3.1 w3.2.1 w3.2.2.2
  | _ => ((0 : Int) : Rat) - det w1.1 w1.2.1 w1.2.2.1 w2.1 w2.2.1 w2.2.2.1 w3.1 w3.2.1 w3.2.2.1
structure SzQ (m : Nat) (w : Q4) : Prop where
  a : Sz m w.1
  b : Sz m w.2.1
  c : Sz m w.2.2.1
  d : Sz m w.2.2.2
theorem sz_det {a b c d e f g h i : Rat} {m : Nat} (ha : Sz m a) (hb : Sz m b) (hc : Sz m c) (hd : Sz m d) (he : Sz m e) (hf : Sz m f) (hg : Sz m g) (hh : Sz m h) (hi : Sz m i) (hm : m ≤ 40) : Sz 700 (det a b c d e f g h i) := by
  have s3 := (he.mul hi).sub (hf.mul hh)
  have t3 := (hd.mul hi).sub (hf.mul hg)
  have u3 := (hd.mul hh).sub (he.mul hg)
  exact (((ha.mul s3).sub (hb.mul t3)).add (hc.mul u3)).mono (by omega)
theorem sz_zero : Sz 1 ((0 : Int) : Rat) := sz_int (by decide) (by decide)
theorem null_ok {w1 w2 w3 : Q4} {m : Nat} (h1 : SzQ m w1) (h2 : SzQ m w2) (h3 : SzQ m w3) (hm : m ≤ 40) :
    F_null_row [.lst true ([w1, w2, w3].map rowE)] = some (.lst true (((List.range 4).map (minor w1 w2 w3)).map rt), [.lst true ([w1, w2, w3].map rowE)]) := by
  apply of_W
  unfold F_null_row
  rw [W_fnD rfl]
  unfold d_null_row
  walk_at "ev"
  rw [W_ok (by omega)]
  refine W_range (lo := 0) (fun k ρ => ∃ x2 x3 x4 x5 x6 x7, ρ = [.lst true ([w1, w2, w3].map rowE), .lst true (((List.range k).map (minor w1 w2 w3)).map rt), x2, x3, x4, x5, x6, x7]) ⟨_, _, _, _, _, _, rfl⟩ ?_ ?_
  · rintro k ρ hk ⟨x2, x3, x4, x5, x6, x7, rfl⟩
    have hk : k < 4 := hk
    generalize hcol : (0 : Int) + (k : Int) = col
    walk_at "ev"
    refine W_compM rowE [w1, w2, w3] (fun _ => true) (fun w => .lst false ((cols w col).map rt)) (by show 3 ≤ _; decide) ?_ ?_ ?_
    · intro j
      exact itK_lst rfl rfl j
    · intro w hw
      walk_at "ev"
      refine W_compM (fun e : Int × Rat => D.tup [.int e.1, rt e.2]) (nums w) (fun e => decide (e.1 ≠ col)) (fun e => rt e.2) (by show 4 ≤ _; decide) ?_ ?_ ?_
      · intro j
        rw [itE_at (xs := [rt w.1, rt w.2.1, rt w.2.2.1, rt w.2.2.2]) (fun k => itK_lst rfl rfl k)]
        rfl
      · rintro ⟨i, q⟩ hq
        walk_at "ev"
        refine ⟨by simp, by split <;> trivial⟩
      · walk_at "ev"
        have e : ((nums w).filter fun e => decide (e.1 ≠ col)).map (fun e => rt e.2) = (cols w col).map rt := by unfold cols; rw [List.map_map]; rfl
        rw [e, fzL_rts]
    · rw [List.filter_eq_self.mpr (fun _ _ => rfl)]
      have hcol' : col = 0 ∨ col = 1 ∨ col = 2 ∨ col = 3 := by omega
      rcases hcol' with rfl | rfl | rfl | rfl
      · obtain rfl : k = 0 := by omega
        simp only [List.map_cons, List.map_nil, cols0]
        walk_at "ev"
        rw [W_eq (box_ok h1.b h1.c h1.d h2.b h2.c h2.d h3.b h3.c h3.d hm)]
        walk_at "ev"
        rw [W_ok (by decide)]
        walk_at "ev"
        rw [if_pos (by decide)]
        walk_at "ev"
        try rw [W_ok (by rw [List.length_map, List.length_map, List.length_range]; decide)]
        walk_at "ev"
        exact ⟨_, _, _, _, _, _, rfl⟩
      · obtain rfl : k = 1 := by omega
        simp only [List.map_cons, List.map_nil, cols1]
        walk_at "ev"
        rw [W_eq (box_ok h1.a h1.c h1.d h2.a h2.c h2.d h3.a h3.c h3.d hm)]
        walk_at "ev"
        rw [W_ok (by decide)]
        walk_at "ev"
        rw [if_neg (by decide)]
        rw [eq_minus, show D.tup [D.int 0, D.int 1] = rt ((0 : Int) : Rat) from (rt_int 0).symm, W_eq (minusR sz_zero (sz_det h1.a h1.c h1.d h2.a h2.c h2.d h3.a h3.c h3.d hm) (by decide) (by decide))]
        walk_at "ev"
        try rw [W_ok (by rw [List.length_map, List.length_map, List.length_range]; decide)]
        walk_at "ev"
        exact ⟨_, _, _, _, _, _, rfl⟩
      · obtain rfl : k = 2 := by omega
        simp only [List.map_cons, List.map_nil, cols2]
        walk_at "ev"
        rw [W_eq (box_ok h1.a h1.b h1.d h2.a h2.b h2.d h3.a h3.b h3.d hm)]
        walk_at "ev"
        rw [W_ok (by decide)]
        walk_at "ev"
        rw [if_pos (by decide)]
        walk_at "ev"
        try rw [W_ok (by rw [List.length_map, List.length_map, List.length_range]; decide)]
        walk_at "ev"
        exact ⟨_, _, _, _, _, _, rfl⟩
      · obtain rfl : k = 3 := by omega
        simp only [List.map_cons, List.map_nil, cols3]
        walk_at "ev"
        rw [W_eq (box_ok h1.a h1.b h1.c h2.a h2.b h2.c h3.a h3.b h3.c hm)]
        walk_at "ev"
        rw [W_ok (by decide)]
        walk_at "ev"
        rw [if_neg (by decide)]
        rw [eq_minus, show D.tup [D.int 0, D.int 1] = rt ((0 : Int) : Rat) from (rt_int 0).symm, W_eq (minusR sz_zero (sz_det h1.a h1.b h1.c h2.a h2.b h2.c h3.a h3.b h3.c hm) (by decide) (by decide))]
        walk_at "ev"
        try rw [W_ok (by rw [List.length_map, List.length_map, List.length_range]; decide)]
        walk_at "ev"
        exact ⟨_, _, _, _, _, _, rfl⟩
  · rintro ρ ⟨x2, x3, x4, x5, x6, x7, rfl⟩
    walk_at "ev"
    try rfl
end Lk62
end
section
set_option Elab.async false
set_option linter.all false
set_option maxRecDepth 100000
set_option maxHeartbeats 4000000
set_option exponentiation.threshold 5000
open PySem Mv Mv.PreA
local macro_rules | `(tactic| walk_at "ev") => `(tactic| try simp only [↓W_bCons, ↓W_bNil, ↓W_bBrk, ↓W_bCnt, ↓W_bExp, ↓W_bRet, ↓W_bRetN, ↓W_bIf, ↓W_bAsg, ↓W_bPar, ↓W_bAug, ↓W_eC, ↓W_eV, ↓W_eM, ↓W_hV, ↓W_hE, ↓W_eFz, ↓W_e1, ↓W_e2, ↓W_aNil, ↓W_aCons, ↓W_eN, ↓W_eTup, ↓W_eLst, ↓W_eCall, ↓W_eMut, ↓W_eMt, ↓W_eIf, ↓W_eAn, ↓W_eOr, ↓W_eNo, ↓W_eJ0, ↓W_eJ1, ↓W_tT, ↓W_tB, ↓W_tNo, ↓W_tAn, ↓W_tOr, ↓W_tAll, ↓W_gNm, ↓W_gsNil, ↓W_gsCons, ↓W_gTp, ↓W_gTpL, ↓W_gIx, ↓W_bFor, ↓W_bWhile, ↓W_iRg1, ↓W_iRg2, ↓W_iSq, ↓W_eLc, ↓W_eSl, ↓W_pN, ↓W_pS, ↓W_iEn, ↓W_iZp, ↓W_iRv, ↓W_iRg3, ↓W_iRgV, ↓W_eCh, ↓W_chIf, ↓W_bind, ↓W_map, ↓W_some, ↓W_none,
  Hd.get, List.getElem?_cons_zero, List.getElem?_cons_succ, List.getD_cons_zero, List.getD_cons_succ, List.set_cons_zero, List.set_cons_succ, List.length_cons, List.length_nil, List.map_cons, List.map_nil, List.replicate, List.cons_append, List.nil_append, Nat.reduceAdd, Nat.reduceSub, Nat.reduceLeDiff, Nat.zero_add,
  D.frz, D.frzL, D.fz, D.fzL, tru_b, tru_i, tru_n, tru_l, tru_t, tru_c, tms, wipeD, unw, lend, unlend, keepL, Option.map_some, Option.bind_some, Bool.and_true, Bool.true_and, Bool.not_true, Bool.not_false, ↓reduceIte, if_true, if_false, Bool.false_eq_true, true_and, and_true, ite_b, ite_nb, vv_fmtI, vv_fmtS, vv_reprI, vv_reprS, vv_addS, vv_augI, vv_augS, vv_lenS, vv_eqS, vv_neS, vv_addL, vv_addT,
  vv_add, vv_sub, vv_mul, vv_div, vv_mod, vv_pow, vv_shl, vv_shr, vv_neg, vv_lt, vv_le, vv_gt, vv_ge, vv_int, vv_intS, vv_intb, vv_abs, vv_gcd, vv_max2, vv_min2, vv_lenL, vv_lenC, vv_lenT, vv_idxL, vv_idxC, vv_idxT, vv_eqI, vv_eqB, vv_neI, vv_list, vv_listT, vv_tuple, vv_tupleT, vv_sum, vv_slL, vv_slS, vv_slT, vv_range, vv_index, vv_count, isL_l, isL_c, lenL_l, lenL_c, kindL, vv_maxL, vv_minL, vv_strI, vv_app, vv_isNN, vv_isIN, vv_isSN, vv_isBN, vv_isLN, vv_isTN, vv_isBB, vv_isNB, vv_isIB, vv_isSB, vv_isLB, vv_isTB, vv_inNN, vv_inIN, vv_inSN, vv_inBN, vv_inLN, vv_inTN, vv_inBB, atF0, atF1, atF2, atF3, atF4, atF5, okI, okB, okS, okN, okL, ix0, ix1, ix2, frzL_int, fzL_int, intsD_map, isiI_int, isiI_str, isiI_bool, isiI_list, isiI_tuple, isiS_int, isiS_str, isiS_bool, isiS_list, isiS_tuple, isiB_int, isiB_str, isiB_bool, isiB_list, isiB_tuple, isiL_int, isiL_str, isiL_bool, isiL_list, isiL_tuple, isiT_int, isiT_str, isiT_bool, isiT_list, isiT_tuple, isiN_int, isiN_str, isiN_bool, isiN_list, isiN_tuple])
local macro_rules | `(tactic| walk_at "mu") => `(tactic| repeat (first | (rw [W_ok (MulOk.right (by omega))]; walk_at "ev") | (rw [W_ok (MulOk.left (by omega))]; walk_at "ev") | (rw [W_ok (divok (by omega) (by omega))]; walk_at "ev") | (rw [W_ok (by omega)]; walk_at "ev")))
namespace Lk62
theorem ne_num (r : Rat) : (!decide (r.num = 0)) = decide (r ≠ 0) := by
  by_cases h : r = 0
  · subst h; rfl
  · have : ¬ r.num = 0 := num_ne h
    simp [h, this]
theorem scaled_ok {p q r s h : Rat} {rest : List Rat} {m : Nat} (hp : Sz m p) (hq : Sz m q) (hr : Sz m r) (hs : Sz m s) (hm : m ≤ 1000) (hf : [p, q, r, s].filter (fun x => decide (x ≠ 0)) = h :: rest) :
    F_scaled [.lst false ([p, q, r, s].map rt)] = some (.tup ([p, q, r, s].map fun x => rt (x / h)), [.lst false ([p, q, r, s].map rt)]) := by
  have hin : h ∈ [p, q, r, s].filter (fun x => decide (x ≠ 0)) := by rw [hf]; exact List.mem_cons_self
  obtain ⟨hin, hne⟩ := List.mem_filter.mp hin
  have hne : h ≠ 0 := of_decide_eq_true hne
  have all : ∀ x ∈ [p, q, r, s], Sz m x := fun x hx => by
    simp only [List.mem_cons, List.not_mem_nil, or_false] at hx
    rcases hx with rfl | rfl | rfl | rfl <;> assumption
  have sh := all h hin
  apply of_W
  unfold F_scaled
  rw [W_fnD rfl]
  unfold d_scaled
  walk_at "ev"
  refine W_compM rt [p, q, r, s] (fun x => decide (x ≠ 0)) rt (by show 4 ≤ _; decide) ?_ ?_ ?_
  · intro k
    exact itK_lst rfl rfl k
  · intro x hx
    walk_at "ev"
    refine ⟨ne_num x, ?_⟩
    split <;> trivial
  · rw [hf]
    walk_at "ev"
    rw [okT]
    walk_at "ev"
    refine W_compM rt [p, q, r, s] (fun _ => true) (fun x => rt (x / h)) (by show 4 ≤ _; decide) ?_ ?_ ?_
    · intro k
      exact itK_lst rfl rfl k
    · intro x hx
      walk_at "ev"
      rw [eq_over, W_eq (overR (all x hx) sh (by omega) (by omega) hne)]
      walk_at "ev"
      try rfl
    · rw [List.filter_eq_self.mpr (fun _ _ => rfl)]
      walk_at "ev"
theorem det_scale (p q r a b c d e f g h i : Rat) : p * q * r * det a b c d e f g h i = det (p * a) (p * b) (p * c) (q * d) (q * e) (q * f) (r * g) (r * h) (r * i) := by
  unfold det; grind
theorem d0 (a b c d x y z : Rat) : det (c*x+d) (-(x*(a*x+b))) (-(a*x+b)) (c*y+d) (-(y*(a*y+b))) (-(a*y+b)) (c*z+d) (-(z*(a*z+b))) (-(a*z+b)) = -a * ((a*d-b*c) * ((y-x)*(z-x)*(z-y))) := by
  unfold det; grind
theorem d1 (a b c d x y z : Rat) : det (x*(c*x+d)) (-(x*(a*x+b))) (-(a*x+b)) (y*(c*y+d)) (-(y*(a*y+b))) (-(a*y+b)) (z*(c*z+d)) (-(z*(a*z+b))) (-(a*z+b)) = b * ((a*d-b*c) * ((y-x)*(z-x)*(z-y))) := by
  unfold det; grind
theorem d2 (a b c d x y z : Rat) : det (x*(c*x+d)) (c*x+d) (-(a*x+b)) (y*(c*y+d)) (c*y+d) (-(a*y+b)) (z*(c*z+d)) (c*z+d) (-(a*z+b)) = -c * ((a*d-b*c) * ((y-x)*(z-x)*(z-y))) := by
  unfold det; grind
theorem d3 (a b c d x y z : Rat) : det (x*(c*x+d)) (c*x+d) (-(x*(a*x+b))) (y*(c*y+d)) (c*y+d) (-(y*(a*y+b))) (z*(c*z+d)) (c*z+d) (-(z*(a*z+b))) = d * ((a*d-b*c) * ((y-x)*(z-x)*(z-y))) := by
  unfold det; grind
def wq (e : Rat × Rat) : Q4 := (e.1, ((1 : Int) : Rat), ((0 : Int) : Rat) - e.1 * e.2, ((0 : Int) : Rat) - e.2)
def yR (a b c d x : Rat) : Rat := (a * x + b) / (c * x + d)
theorem yR_mul {a b c d x : Rat} (h : c * x + d ≠ 0) : (c * x + d) * yR a b c d x = a * x + b := by unfold yR; grind
theorem minors {a b c d x y z : Rat} (hx : c * x + d ≠ 0) (hy : c * y + d ≠ 0) (hz : c * z + d ≠ 0) (hD : a * d - b * c ≠ 0) (h1 : y - x ≠ 0) (h2 : z - x ≠ 0) (h3 : z - y ≠ 0) :
    ∃ k : Rat, k ≠ 0 ∧ ∀ n, n < 4 → minor (wq (x, yR a b c d x)) (wq (y, yR a b c d y)) (wq (z, yR a b c d z)) n = k * [a, b, c, d].getD n 0 := by
  have e1 := yR_mul (a := a) (b := b) hx
  have e2 := yR_mul (a := a) (b := b) hy
  have e3 := yR_mul (a := a) (b := b) hz
  have hE : (c * x + d) * (c * y + d) * (c * z + d) ≠ 0 := ne_mul (ne_mul hx hy) hz
  have hV : (a * d - b * c) * ((y - x) * (z - x) * (z - y)) ≠ 0 := ne_mul hD (ne_mul (ne_mul h1 h2) h3)
  have z0 : ((0 : Int) : Rat) = 0 := rfl
  have z1 : ((1 : Int) : Rat) = 1 := rfl
  have f0 := d0 a b c d x y z
  have f1 := d1 a b c d x y z
  have f2 := d2 a b c d x y z
  have f3 := d3 a b c d x y z
  refine ⟨-((a * d - b * c) * ((y - x) * (z - x) * (z - y))) / ((c * x + d) * (c * y + d) * (c * z + d)), ?_, ?_⟩
  · generalize (a * d - b * c) * ((y - x) * (z - x) * (z - y)) = V at *
    generalize (c * x + d) * (c * y + d) * (c * z + d) = E at *
    grind
  · have p1 : ∀ {e y n : Rat}, e * y = n → ∀ x : Rat, e * ((0 : Rat) - x * y) = -(x * n) := fun h x => by grind
    have p2 : ∀ {e y n : Rat}, e * y = n → e * ((0 : Rat) - y) = -n := fun h => by grind
    have g : ∀ {E D V t : Rat}, E ≠ 0 → E * D = -t * V → D = -V / E * t := fun h k => by grind
    have g' : ∀ {E D V t : Rat}, E ≠ 0 → E * D = t * V → 0 - D = -V / E * t := fun h k => by grind
    intro n hn
    match n, hn with
    | 0, _ =>
      show det _ _ _ _ _ _ _ _ _ = _ * a
      refine g hE ?_
      rw [det_scale]
      simp only [wq]
      rw [z0, z1, p1 e1, p1 e2, p1 e3, p2 e1, p2 e2, p2 e3, Rat.mul_one, Rat.mul_one, Rat.mul_one]
      exact f0
    | 1, _ =>
      show ((0 : Int) : Rat) - det _ _ _ _ _ _ _ _ _ = _ * b
      rw [z0]
      refine g' hE ?_
      rw [det_scale]
      simp only [wq]
      rw [z0, p1 e1, p1 e2, p1 e3, p2 e1, p2 e2, p2 e3, Rat.mul_comm _ x, Rat.mul_comm _ y, Rat.mul_comm _ z]
      exact f1
    | 2, _ =>
      show det _ _ _ _ _ _ _ _ _ = _ * c
      refine g hE ?_
      rw [det_scale]
      simp only [wq]
      rw [z0, z1, p2 e1, p2 e2, p2 e3, Rat.mul_one, Rat.mul_one, Rat.mul_one]
      rw [Rat.mul_comm (c * x + d) x, Rat.mul_comm (c * y + d) y, Rat.mul_comm (c * z + d) z]
      exact f2
    | 3, _ =>
      show ((0 : Int) : Rat) - det _ _ _ _ _ _ _ _ _ = _ * d
      rw [z0]
      refine g' hE ?_
      rw [det_scale]
      simp only [wq]
      rw [z0, z1, p1 e1, p1 e2, p1 e3, Rat.mul_one, Rat.mul_one, Rat.mul_one]
      rw [Rat.mul_comm (c * x + d) x, Rat.mul_comm (c * y + d) y, Rat.mul_comm (c * z + d) z]
      exact f3
end Lk62
end
section
set_option Elab.async false
set_option linter.all false
set_option maxRecDepth 100000
set_option maxHeartbeats 4000000
set_option exponentiation.threshold 5000
open PySem Mv Mv.PreA
local macro_rules | `(tactic| walk_at "ev") => `(tactic| try simp only [↓W_bCons, ↓W_bNil, ↓W_bBrk, ↓W_bCnt, ↓W_bExp, ↓W_bRet, ↓W_bRetN, ↓W_bIf, ↓W_bAsg, ↓W_bPar, ↓W_bAug, ↓W_eC, ↓W_eV, ↓W_eM, ↓W_hV, ↓W_hE, ↓W_eFz, ↓W_e1, ↓W_e2, ↓W_aNil, ↓W_aCons, ↓W_eN, ↓W_eTup, ↓W_eLst, ↓W_eCall, ↓W_eMut, ↓W_eMt, ↓W_eIf, ↓W_eAn, ↓W_eOr, ↓W_eNo, ↓W_eJ0, ↓W_eJ1, ↓W_tT, ↓W_tB, ↓W_tNo, ↓W_tAn, ↓W_tOr, ↓W_tAll, ↓W_gNm, ↓W_gsNil, ↓W_gsCons, ↓W_gTp, ↓W_gTpL, ↓W_gIx, ↓W_bFor, ↓W_bWhile, ↓W_iRg1, ↓W_iRg2, ↓W_iSq, ↓W_eLc, ↓W_eSl, ↓W_pN, ↓W_pS, ↓W_iEn, ↓W_iZp, ↓W_iRv, ↓W_iRg3, ↓W_iRgV, ↓W_eCh, ↓W_chIf, ↓W_bind, ↓W_map, ↓W_some, ↓W_none,
  Hd.get, List.getElem?_cons_zero, List.getElem?_cons_succ, List.getD_cons_zero, List.getD_cons_succ, List.set_cons_zero, List.set_cons_succ, List.length_cons, List.length_nil, List.map_cons, List.map_nil, List.replicate, List.cons_append, List.nil_append, Nat.reduceAdd, Nat.reduceSub, Nat.reduceLeDiff, Nat.zero_add,
  D.frz, D.frzL, D.fz, D.fzL, tru_b, tru_i, tru_n, tru_l, tru_t, tru_c, tms, wipeD, unw, lend, unlend, keepL, Option.map_some, Option.bind_some, Bool.and_true, Bool.true_and, Bool.not_true, Bool.not_false, ↓reduceIte, if_true, if_false, Bool.false_eq_true, true_and, and_true, ite_b, ite_nb, vv_fmtI, vv_fmtS, vv_reprI, vv_reprS, vv_addS, vv_augI, vv_augS, vv_lenS, vv_eqS, vv_neS, vv_addL, vv_addT,
  vv_add, vv_sub, vv_mul, vv_div, vv_mod, vv_pow, vv_shl, vv_shr, vv_neg, vv_lt, vv_le, vv_gt, vv_ge, vv_int, vv_intS, vv_intb, vv_abs, vv_gcd, vv_max2, vv_min2, vv_lenL, vv_lenC, vv_lenT, vv_idxL, vv_idxC, vv_idxT, vv_eqI, vv_eqB, vv_neI, vv_list, vv_listT, vv_tuple, vv_tupleT, vv_sum, vv_slL, vv_slS, vv_slT, vv_range, vv_index, vv_count, isL_l, isL_c, lenL_l, lenL_c, kindL, vv_maxL, vv_minL, vv_strI, vv_app, vv_isNN, vv_isIN, vv_isSN, vv_isBN, vv_isLN, vv_isTN, vv_isBB, vv_isNB, vv_isIB, vv_isSB, vv_isLB, vv_isTB, vv_inNN, vv_inIN, vv_inSN, vv_inBN, vv_inLN, vv_inTN, vv_inBB, atF0, atF1, atF2, atF3, atF4, atF5, okI, okB, okS, okN, okL, ix0, ix1, ix2, frzL_int, fzL_int, intsD_map, isiI_int, isiI_str, isiI_bool, isiI_list, isiI_tuple, isiS_int, isiS_str, isiS_bool, isiS_list, isiS_tuple, isiB_int, isiB_str, isiB_bool, isiB_list, isiB_tuple, isiL_int, isiL_str, isiL_bool, isiL_list, isiL_tuple, isiT_int, isiT_str, isiT_bool, isiT_list, isiT_tuple, isiN_int, isiN_str, isiN_bool, isiN_list, isiN_tuple])
local macro_rules | `(tactic| walk_at "mu") => `(tactic| repeat (first | (rw [W_ok (MulOk.right (by omega))]; walk_at "ev") | (rw [W_ok (MulOk.left (by omega))]; walk_at "ev") | (rw [W_ok (divok (by omega) (by omega))]; walk_at "ev") | (rw [W_ok (by omega)]; walk_at "ev")))
namespace Lk62
theorem filter_cast {f : Int → Rat} (hf : ∀ x, f x ≠ 0 ↔ x ≠ 0) (l : List Int) : (l.map f).filter (fun x => decide (x ≠ 0)) = (l.filter (fun x => decide (x ≠ 0))).map f := by
  induction l with
  | nil => rfl
  | cons x l ih =>
    by_cases h : x = 0
    · have h2 : ¬ f x ≠ 0 := fun z => (hf x).mp z h
      rw [List.map_cons, List.filter_cons_of_neg (by simpa using h2), List.filter_cons_of_neg (by simpa using h), ih]
    · have h2 : f x ≠ 0 := (hf x).mpr h
      rw [List.map_cons, List.filter_cons_of_pos (by simpa using h2), List.filter_cons_of_pos (by simpa using h), ih, List.map_cons]
theorem head_ex {a b c d : Int} (hv : View a b c d) : ∃ h rest, [a, b, c, d].filter (fun x => decide (x ≠ 0)) = h :: rest ∧ h ≠ 0 ∧ h ∈ [a, b, c, d] := by
  cases e : [a, b, c, d].filter (fun x => decide (x ≠ 0)) with
  | nil =>
    exfalso
    rw [List.filter_eq_nil_iff] at e
    have h1 := e a (by simp)
    have h2 := e b (by simp)
    have h3 : a = 0 := by simpa using h1
    have h4 : b = 0 := by simpa using h2
    exact hv.ne (by rw [h3, h4]; omega)
  | cons h rest =>
    have hin : h ∈ [a, b, c, d].filter (fun x => decide (x ≠ 0)) := by rw [e]; exact List.mem_cons_self
    obtain ⟨h1, h2⟩ := List.mem_filter.mp hin
    exact ⟨h, rest, rfl, of_decide_eq_true h2, h1⟩
theorem view_rat {a b c d : Int} (hv : View a b c d) : (a : Rat) * (d : Rat) - (b : Rat) * (c : Rat) ≠ 0 := fun z => hv.ne (by
  have e : ((a * d : Int) : Rat) = ((b * c : Int) : Rat) := by rw [Rat.intCast_mul, Rat.intCast_mul]; grind
  exact Rat.intCast_inj.mp e)
theorem sz_view {x : Int} (h1 : -4 ≤ x) (h2 : x ≤ 4) : Sz 3 (x : Rat) := sz_int (by omega) (by decide)
theorem all_view {a b c d : Int} (hv : View a b c d) : ∀ x ∈ [a, b, c, d], -4 ≤ x ∧ x ≤ 4 := fun x hx => by
  obtain ⟨h1, h2, h3, h4, h5, h6, h7, h8, _⟩ := hv
  simp only [List.mem_cons, List.not_mem_nil, or_false] at hx
  rcases hx with rfl | rfl | rfl | rfl <;> omega
abbrev toldV (a b c d h : Int) : D := .tup [rt ((a : Rat) / (h : Rat)), rt ((b : Rat) / (h : Rat)), rt ((c : Rat) / (h : Rat)), rt ((d : Rat) / (h : Rat))]
theorem sz_y {a b c d : Int} {x : Rat} (hv : View a b c d) (hx : Sz 5 x) (h : (c : Rat) * x + (d : Rat) ≠ 0) : Sz 24 (yR a b c d x) := by
  have s1 := ((sz_view hv.a1 hv.a2).mul hx).add (sz_view hv.b1 hv.b2)
  have s2 := ((sz_view hv.c1 hv.c2).mul hx).add (sz_view hv.d1 hv.d2)
  exact s1.div s2 h
theorem szq {x y : Rat} (hx : Sz 5 x) (hy : Sz 24 y) : SzQ 40 (wq (x, y)) := ⟨hx.mono (by decide), sz_int (by decide) (by decide), (sz_zero.sub (hx.mul hy)).mono (by decide), (sz_zero.sub hy).mono (by decide)⟩
theorem view_of_ok {o o' : Bool} {a b c d h : Int} {rest : List Int} {x y z : Rat} (hv : View a b c d) (hh : [a, b, c, d].filter (fun x => decide (x ≠ 0)) = h :: rest)
    (hx : (c : Rat) * x + (d : Rat) ≠ 0) (hy : (c : Rat) * y + (d : Rat) ≠ 0) (hz : (c : Rat) * z + (d : Rat) ≠ 0) (h1 : y - x ≠ 0) (h2 : z - x ≠ 0) (h3 : z - y ≠ 0) (sx : Sz 5 x) (sy : Sz 5 y) (sz : Sz 5 z) :
    F_view_of [.lst o ([x, y, z].map rt), .lst o' ([x, y, z].map fun x => rt (yR a b c d x))] = some (toldV a b c d h, [.lst o ([x, y, z].map rt), .lst o' ([x, y, z].map fun x => rt (yR a b c d x))]) := by
  obtain ⟨k, hk, hm⟩ := minors (a := a) (b := b) hx hy hz (view_rat hv) h1 h2 h3
  have qx := szq sx (sz_y hv sx hx)
  have qy := szq sy (sz_y hv sy hy)
  have qz := szq sz (sz_y hv sz hz)
  apply of_W
  unfold F_view_of
  rw [W_fnD rfl]
  unfold d_view_of
  walk_at "ev"
  refine W_list (ds := [(x, yR a b c d x), (y, yR a b c d y), (z, yR a b c d z)].map fun e : Rat × Rat => D.tup [rt e.1, rt e.2]) (fun k ρ => ∃ x3 x4, ρ = [.lst o ([x, y, z].map rt), .lst o' ([x, y, z].map fun x => rt (yR a b c d x)), .lst true ((([(x, yR a b c d x), (y, yR a b c d y), (z, yR a b c d z)].take k).map wq).map rowE), x3, x4]) ⟨_, _, rfl⟩ ?_ ?_ ?_
  · rintro j ρ ⟨x3, x4, rfl⟩
    rw [itZ_at (xs := [x, y, z].map rt) (ys := [x, y, z].map fun x => rt (yR a b c d x)) (fun k => itK_lst rfl rfl k) (fun k => itK_lst rfl rfl k)]
    rfl
  · rintro j dd ρ hd ⟨x3, x4, rfl⟩
    rw [List.getElem?_map] at hd
    obtain ⟨⟨u, v⟩, he, rfl⟩ := Option.map_eq_some_iff.mp hd
    have hj := (List.getElem?_eq_some_iff.mp he).1
    have hj : j < 3 := hj
    have hmem := List.mem_of_getElem? he
    have suv : Sz 5 u ∧ Sz 24 v := by
      simp only [List.mem_cons, List.not_mem_nil, or_false, Prod.mk.injEq] at hmem
      rcases hmem with ⟨rfl, rfl⟩ | ⟨rfl, rfl⟩ | ⟨rfl, rfl⟩
      · exact ⟨sx, sz_y hv sx hx⟩
      · exact ⟨sy, sz_y hv sy hy⟩
      · exact ⟨sz, sz_y hv sz hz⟩
    walk_at "ev"
    rw [eq_times, W_eq (timesR suv.1 suv.2 (by omega) (by omega))]
    walk_at "ev"
    rw [eq_minus, show D.tup [D.int 0, D.int 1] = rt ((0 : Int) : Rat) from (rt_int 0).symm, W_eq (minusR sz_zero (suv.1.mul suv.2) (by omega) (by omega))]
    walk_at "ev"
    rw [show D.tup [D.int 0, D.int 1] = rt ((0 : Int) : Rat) from (rt_int 0).symm, W_eq (minusR sz_zero suv.2 (by omega) (by omega))]
    walk_at "ev"
    rw [W_ok (by rw [List.length_map, List.length_map, List.length_take]; omega)]
    walk_at "ev"
    rw [List.take_succ (i := j), he, List.map_append, List.map_append]
    exact ⟨rt u, rt v, rfl⟩
  · rintro ρ ⟨x3, x4, rfl⟩
    walk_at "ev"
    have e0 := null_ok qx qy qz (by decide)
    rw [show [wq (x, yR a b c d x), wq (y, yR a b c d y), wq (z, yR a b c d z)].map rowE = ((([(x, yR a b c d x), (y, yR a b c d y), (z, yR a b c d z)] : List (Rat × Rat)).take 3).map wq).map rowE from rfl] at e0
    rw [W_eq e0]
    walk_at "ev"
    have e4 : (List.range 4).map (minor (wq (x, yR a b c d x)) (wq (y, yR a b c d y)) (wq (z, yR a b c d z))) = [k * (a : Rat), k * (b : Rat), k * (c : Rat), k * (d : Rat)] := by
      show [minor _ _ _ 0, minor _ _ _ 1, minor _ _ _ 2, minor _ _ _ 3] = _
      rw [hm 0 (by decide), hm 1 (by decide), hm 2 (by decide), hm 3 (by decide)]
      rfl
    have sm : ∀ n, n < 4 → Sz 702 (minor (wq (x, yR a b c d x)) (wq (y, yR a b c d y)) (wq (z, yR a b c d z)) n) := by
      intro n hn
      match n, hn with
      | 0, _ => exact (sz_det qx.b qx.c qx.d qy.b qy.c qy.d qz.b qz.c qz.d (by decide)).mono (by decide)
      | 1, _ => exact (sz_zero.sub (sz_det qx.a qx.c qx.d qy.a qy.c qy.d qz.a qz.c qz.d (by decide))).mono (by decide)
      | 2, _ => exact (sz_det qx.a qx.b qx.d qy.a qy.b qy.d qz.a qz.b qz.d (by decide)).mono (by decide)
      | 3, _ => exact (sz_zero.sub (sz_det qx.a qx.b qx.c qy.a qy.b qy.c qz.a qz.b qz.c (by decide))).mono (by decide)
    have t0 := sm 0 (by decide)
    have t1 := sm 1 (by decide)
    have t2 := sm 2 (by decide)
    have t3 := sm 3 (by decide)
    rw [hm 0 (by decide)] at t0
    rw [hm 1 (by decide)] at t1
    rw [hm 2 (by decide)] at t2
    rw [hm 3 (by decide)] at t3
    have hfil : [k * (a : Rat), k * (b : Rat), k * (c : Rat), k * (d : Rat)].filter (fun x => decide (x ≠ 0)) = k * (h : Rat) :: rest.map (fun x : Int => k * (x : Rat)) := by
      have := filter_cast (f := fun x : Int => k * (x : Rat)) (fun x => ⟨fun z w => z (by rw [w]; grind), fun z => ne_mul hk (cast_ne z)⟩) [a, b, c, d]
      rw [hh] at this
      exact this
    have hh0 : (h : Rat) ≠ 0 := by
      have hin : h ∈ [a, b, c, d].filter (fun x => decide (x ≠ 0)) := by rw [hh]; exact List.mem_cons_self
      exact cast_ne (of_decide_eq_true (List.mem_filter.mp hin).2)
    have kk : ∀ x : Rat, (k * x) / (k * (h : Rat)) = x / (h : Rat) := fun x => by
      rw [Rat.mul_comm k, Rat.mul_comm k, div_can hk hh0]
    have e5 := scaled_ok (p := k * (a : Rat)) (q := k * (b : Rat)) (r := k * (c : Rat)) (s := k * (d : Rat)) t0 t1 t2 t3 (by decide) hfil
    rw [e4, fzL_rts]
    rw [W_eq e5]
    walk_at "ev"
    rw [kk, kk, kk, kk]
end Lk62
end
section
set_option Elab.async false
set_option linter.all false
set_option maxRecDepth 100000
set_option maxHeartbeats 4000000
set_option exponentiation.threshold 5000
open PySem Mv Mv.PreA
local macro_rules | `(tactic| walk_at "ev") => `(tactic| try simp only [↓W_bCons, ↓W_bNil, ↓W_bBrk, ↓W_bCnt, ↓W_bExp, ↓W_bRet, ↓W_bRetN, ↓W_bIf, ↓W_bAsg, ↓W_bPar, ↓W_bAug, ↓W_eC, ↓W_eV, ↓W_eM, ↓W_hV, ↓W_hE, ↓W_eFz, ↓W_e1, ↓W_e2, ↓W_aNil, ↓W_aCons, ↓W_eN, ↓W_eTup, ↓W_eLst, ↓W_eCall, ↓W_eMut, ↓W_eMt, ↓W_eIf, ↓W_eAn, ↓W_eOr, ↓W_eNo, ↓W_eJ0, ↓W_eJ1, ↓W_tT, ↓W_tB, ↓W_tNo, ↓W_tAn, ↓W_tOr, ↓W_tAll, ↓W_gNm, ↓W_gsNil, ↓W_gsCons, ↓W_gTp, ↓W_gTpL, ↓W_gIx, ↓W_bFor, ↓W_bWhile, ↓W_iRg1, ↓W_iRg2, ↓W_iSq, ↓W_eLc, ↓W_eSl, ↓W_pN, ↓W_pS, ↓W_iEn, ↓W_iZp, ↓W_iRv, ↓W_iRg3, ↓W_iRgV, ↓W_eCh, ↓W_chIf, ↓W_bind, ↓W_map, ↓W_some, ↓W_none,
  Hd.get, List.getElem?_cons_zero, List.getElem?_cons_succ, List.getD_cons_zero, List.getD_cons_succ, List.set_cons_zero, List.set_cons_succ, List.length_cons, List.length_nil, List.map_cons, List.map_nil, List.replicate, List.cons_append, List.nil_append, Nat.reduceAdd, Nat.reduceSub, Nat.reduceLeDiff, Nat.zero_add,
  D.frz, D.frzL, D.fz, D.fzL, tru_b, tru_i, tru_n, tru_l, tru_t, tru_c, tms, wipeD, unw, lend, unlend, keepL, Option.map_some, Option.bind_some, Bool.and_true, Bool.true_and, Bool.not_true, Bool.not_false, ↓reduceIte, if_true, if_false, Bool.false_eq_true, true_and, and_true, ite_b, ite_nb, vv_fmtI, vv_fmtS, vv_reprI, vv_reprS, vv_addS, vv_augI, vv_augS, vv_lenS, vv_eqS, vv_neS, vv_addL, vv_addT,
  vv_add, vv_sub, vv_mul, vv_div, vv_mod, vv_pow, vv_shl, vv_shr, vv_neg, vv_lt, vv_le, vv_gt, vv_ge, vv_int, vv_intS, vv_intb, vv_abs, vv_gcd, vv_max2, vv_min2, vv_lenL, vv_lenC, vv_lenT, vv_idxL, vv_idxC, vv_idxT, vv_eqI, vv_eqB, vv_neI, vv_list, vv_listT, vv_tuple, vv_tupleT, vv_sum, vv_slL, vv_slS, vv_slT, vv_range, vv_index, vv_count, isL_l, isL_c, lenL_l, lenL_c, kindL, vv_maxL, vv_minL, vv_strI, vv_app, vv_isNN, vv_isIN, vv_isSN, vv_isBN, vv_isLN, vv_isTN, vv_isBB, vv_isNB, vv_isIB, vv_isSB, vv_isLB, vv_isTB, vv_inNN, vv_inIN, vv_inSN, vv_inBN, vv_inLN, vv_inTN, vv_inBB, atF0, atF1, atF2, atF3, atF4, atF5, okI, okB, okS, okN, okL, ix0, ix1, ix2, frzL_int, fzL_int, intsD_map, isiI_int, isiI_str, isiI_bool, isiI_list, isiI_tuple, isiS_int, isiS_str, isiS_bool, isiS_list, isiS_tuple, isiB_int, isiB_str, isiB_bool, isiB_list, isiB_tuple, isiL_int, isiL_str, isiL_bool, isiL_list, isiL_tuple, isiT_int, isiT_str, isiT_bool, isiT_list, isiT_tuple, isiN_int, isiN_str, isiN_bool, isiN_list, isiN_tuple])
local macro_rules | `(tactic| walk_at "mu") => `(tactic| repeat (first | (rw [W_ok (MulOk.right (by omega))]; walk_at "ev") | (rw [W_ok (MulOk.left (by omega))]; walk_at "ev") | (rw [W_ok (divok (by omega) (by omega))]; walk_at "ev") | (rw [W_ok (by omega)]; walk_at "ev")))
namespace Lk62
noncomputable def looksP1 : Ev → Option Out := bAsg (e2 gAdd (hE (eLc [8] (iRg1 (aCons (hE (eC (.int 3))) aNil)) (gNm 8) (tAll) (eFz (eCall 2 F_law_fraction (aCons (hV 0) (aCons (hE (eC (.int 12))) aNil)))))) (hE (eIf (tB' (e2 gNe (hV 5) (hE (eC (.int 0))))) (eLst (aCons (hE (eFz (eCall 2 F_law_part (aCons (hE (e2 gSubt (hE (eC (.int 0))) (hV 6))) (aCons (hV 5) aNil))))) aNil)) (eLst (aNil))))) (gNm 7)
noncomputable def looksP2 : Ev → Option Out := bAsg (e2 gAdd (hE (eLc [8] (iRg1 (aCons (hE (eC (.int 3))) aNil)) (gNm 8) (tAll) (eFz (eCall 2 F_law_fraction (aCons (hV 0) (aCons (hE (eC (.int 12))) aNil)))))) (hE (eIf (tB' (e2 gNe (hV 5) (hE (eC (.int 0))))) (eLst (aCons (hE (eFz (eCall 2 F_law_part (aCons (hV 3) (aCons (hV 5) aNil))))) aNil)) (eLst (aNil))))) (gNm 7)
noncomputable def looksH : Ev → Option Out := bIf (tNo (tT (hE (eCall 2 F_law_same (aCons (hE (eFz (eCall 1 F_horizon (aCons (hV 2) aNil)))) (aCons (hE (eFz (eIf (tB' (e2 gNe (hV 5) (hE (eC (.int 0))))) (eCall 2 F_law_part (aCons (hV 3) (aCons (hV 5) aNil))) (eC .non)))) aNil)))))) (bRet (eC (.bl false))) (bNil)
noncomputable def looksI : Ev → Option Out := bIf (tAn (tB' (e2 gNe (hV 5) (hE (eC (.int 0))))) (tB' (e2 gEq (hE (eCall 2 F_law_draw (aCons (hV 0) (aCons (hE (eC (.int 2))) aNil)))) (hE (eC (.int 0)))))) (bAsg (eCall 2 F_law_part (aCons (hE (e2 gSubt (hE (e2 gSubt (hE (eC (.int 0))) (hE (e2 gMul (hV 6) (hE (e2 gIdx (hV 11) (hE (eC (.int 1))))))))) (hE (e2 gMul (hE (e2 gMul (hE (eC (.int 2))) (hE (e2 gIdx (hV 11) (hE (eC (.int 0))))))) (hV 5))))) (aCons (hE (e2 gMul (hV 5) (hE (e2 gIdx (hV 11) (hE (eC (.int 1))))))) aNil))) (gNm 10)) (bNil)
theorem d_looks_eq : d_law_looks = bCons (bAsg (eV 1) (gTp 4 (gsCons (gNm 3) (gsCons (gNm 4) (gsCons (gNm 5) (gsCons (gNm 6) gsNil)))))) (bCons looksP1 (bCons (bFor (iSq (hV 7)) (gNm 9) (bIf (tNo (tT (hE (eCall 2 F_law_same (aCons (hE (eFz (eCall 2 F_seen_at (aCons (hV 2) (aCons (hV 9) aNil))))) (aCons (hE (eFz (eCall 2 F_law_seen (aCons (hV 1) (aCons (hV 9) aNil))))) aNil)))))) (bRet (eC (.bl false))) (bNil))) (bCons looksP2 (bCons (bFor (iSq (hV 7)) (gNm 9) (bIf (tNo (tT (hE (eCall 2 F_law_same (aCons (hE (eFz (eCall 2 F_ground_of (aCons (hV 2) (aCons (hV 9) aNil))))) (aCons (hE (eFz (eCall 2 F_law_ground (aCons (hV 1) (aCons (hV 9) aNil))))) aNil)))))) (bRet (eC (.bl false))) (bNil))) (bCons looksH (bCons (bAsg (eTup (aCons (hE (eFz (eCall 2 F_law_fraction (aCons (hV 0) (aCons (hE (eC (.int 9))) aNil))))) (aCons (hE (eFz (eCall 2 F_law_fraction (aCons (hV 0) (aCons (hE (eC (.int 4))) aNil))))) aNil))) (gTp 2 (gsCons (gNm 10) (gsCons (gNm 11) gsNil)))) (bCons looksI (bCons (bAsg (eCall 2 F_law_part (aCons (hE (e2 gAdd (hE (e2 gMul (hE (e2 gIdx (hV 10) (hE (eC (.int 0))))) (hE (e2 gIdx (hV 11) (hE (eC (.int 1))))))) (hE (e2 gMul (hE (e2 gMul (hE (eC (.int 4))) (hE (e2 gIdx (hV 11) (hE (eC (.int 0))))))) (hE (e2 gIdx (hV 10) (hE (eC (.int 1))))))))) (aCons (hE (e2 gMul (hE (e2 gIdx (hV 10) (hE (eC (.int 1))))) (hE (e2 gIdx (hV 11) (hE (eC (.int 1))))))) aNil))) (gNm 12)) (bCons (bAsg (eCall 2 F_law_part (aCons (hE (e2 gAdd (hE (e2 gMul (hE (e2 gIdx (hV 10) (hE (eC (.int 0))))) (hE (e2 gIdx (hV 12) (hE (eC (.int 1))))))) (hE (e2 gMul (hE (e2 gIdx (hV 12) (hE (eC (.int 0))))) (hE (e2 gIdx (hV 10) (hE (eC (.int 1))))))))) (aCons (hE (e2 gMul (hE (e2 gMul (hE (eC (.int 2))) (hE (e2 gIdx (hV 10) (hE (eC (.int 1))))))) (hE (e2 gIdx (hV 12) (hE (eC (.int 1))))))) aNil))) (gNm 13)) (bCons (bIf (tNo (tT (hE (eCall 2 F_law_same (aCons (hE (eFz (eCall 3 F_middle_of (aCons (hV 2) (aCons (hV 10) (aCons (hV 12) aNil)))))) (aCons (hE (eFz (eCall 2 F_law_seen (aCons (hV 1) (aCons (hV 13) aNil))))) aNil)))))) (bRet (eC (.bl false))) (bNil)) (bCons (bAsg (eLc [8] (iRg1 (aCons (hE (eC (.int 5))) aNil)) (gNm 8) (tAll) (eFz (eCall 2 F_law_seen (aCons (hV 1) (aCons (hE (eFz (eCall 2 F_law_part (aCons (hE (e2 gAdd (hE (e2 gMul (hE (e2 gIdx (hV 10) (hE (eC (.int 0))))) (hE (e2 gIdx (hV 11) (hE (eC (.int 1))))))) (hE (e2 gMul (hE (e2 gMul (hV 8) (hE (e2 gIdx (hV 11) (hE (eC (.int 0))))))) (hE (e2 gIdx (hV 10) (hE (eC (.int 1))))))))) (aCons (hE (e2 gMul (hE (e2 gIdx (hV 10) (hE (eC (.int 1))))) (hE (e2 gIdx (hV 11) (hE (eC (.int 1))))))) aNil))))) aNil))))) (gNm 14)) (bRet (eAn (eCall 2 F_law_same (aCons (hE (eFz (eCall 4 F_steps_seen (aCons (hV 2) (aCons (hV 10) (aCons (hV 11) (aCons (hE (eC (.int 5))) aNil))))))) (aCons (hV 14) aNil))) (eCall 2 F_law_same (aCons (hE (eFz (eCall 4 F_steps_seen (aCons (hV 2) (aCons (hV 10) (aCons (hV 11) (aCons (hE (eC (.int 0))) aNil))))))) (aCons (hE (eFz (eLst (aNil)))) aNil)))))))))))))))) := rfl
theorem seenR_scale {a b c d h r : Rat} (h0 : h ≠ 0) : seenR (a / h) (b / h) (c / h) (d / h) r = seenR a b c d r := by
  unfold seenR
  have e1 : c / h * r + d / h = (c * r + d) / h := by grind
  have e2 : a / h * r + b / h = (a * r + b) / h := by grind
  rw [e1, e2]
  by_cases z : c * r + d = 0
  · rw [if_pos z, if_pos (by rw [z]; grind)]
  · rw [if_neg z, if_neg (ne_div z h0)]
    congr 1
    generalize c * r + d = y at *
    generalize a * r + b = x at *
    grind
theorem groundR_scale {a b c d h r : Rat} (h0 : h ≠ 0) : groundR (a / h) (b / h) (c / h) (d / h) r = groundR a b c d r := by
  unfold groundR
  have e1 : a / h - c / h * r = (a - c * r) / h := by grind
  have e2 : d / h * r - b / h = (d * r - b) / h := by grind
  rw [e1, e2]
  by_cases z : a - c * r = 0
  · rw [if_pos z, if_pos (by rw [z]; grind)]
  · rw [if_neg z, if_neg (ne_div z h0)]
    congr 1
    generalize a - c * r = y at *
    generalize d * r - b = x at *
    grind
theorem hor_scale {a c h : Rat} (h0 : h ≠ 0) : (if c / h = 0 then none else some (a / h / (c / h))) = if c = 0 then none else some (a / c) := by
  by_cases z : c = 0
  · rw [if_pos z, if_pos (by rw [z]; grind)]
  · rw [if_neg z, if_neg (ne_div z h0)]
    congr 1
    grind
theorem sz_lin {a b c d : Int} {r : Rat} {k : Nat} (ha : a.natAbs < 2 ^ 3) (hb : b.natAbs < 2 ^ 3) (hc : c.natAbs < 2 ^ 3) (hd : d.natAbs < 2 ^ 3) (hr : Sz k r) (hz : (c : Rat) * r + (d : Rat) ≠ 0) : Sz (k + 4) (((a : Rat) * r + (b : Rat)) / ((c : Rat) * r + (d : Rat))) := by
  rw [← div_can (cast_ne (den_ne r)) hz, ← lin, ← lin]
  have hne : c * r.num + d * (r.den : Int) ≠ 0 := fun z => hz ((cast_zero_iff (lin (c := c) (d := d) (r := r)) (cast_ne (den_ne r))).mp z)
  exact sz_of hne (up_sz (add_sz (mul_sz ha hr.1) (mul_sz hb hr.den)) (by omega)) (up_sz (add_sz (mul_sz hc hr.1) (mul_sz hd hr.den)) (by omega))
theorem sm_opt {n m : Nat} {o : Option Rat} (h : ∀ r, o = some r → Sz m r) (hm : m ≤ 64) : Sm (n + 2) (optR o) (optR o) := by
  cases o with
  | none => exact sm_non
  | some r => exact sm_rt (h r rfl) hm
structure ViewN (a b c d : Int) : Prop where
  a : a.natAbs < 2 ^ 3
  b : b.natAbs < 2 ^ 3
  c : c.natAbs < 2 ^ 3
  d : d.natAbs < 2 ^ 3
theorem view_n {a b c d : Int} (hv : View a b c d) : ViewN a b c d := by
  obtain ⟨h1, h2, h3, h4, h5, h6, h7, h8, _⟩ := hv
  exact ⟨by omega, by omega, by omega, by omega⟩
theorem sm_seen {n k : Nat} {a b c d : Int} {r : Rat} (hv : View a b c d) (hr : Sz k r) (hk : k ≤ 60) : Sm (n + 2) (optR (seenR a b c d r)) (optR (seenR a b c d r)) := by
  obtain ⟨v1, v2, v3, v4⟩ := view_n hv
  refine sm_opt (m := k + 4) (fun x hx => ?_) (by omega)
  unfold seenR at hx
  split at hx
  · cases hx
  · rename_i hz
    cases hx
    exact sz_lin v1 v2 v3 v4 hr hz
theorem sm_ground {n k : Nat} {a b c d : Int} {r : Rat} (hv : View a b c d) (hr : Sz k r) (hk : k ≤ 20) : Sm (n + 2) (optR (groundR a b c d r)) (optR (groundR a b c d r)) := by
  refine sm_opt (m := (3 + k + 3 + 1) + (3 + (3 + k) + 1)) (fun x hx => ?_) (by omega)
  unfold groundR at hx
  split at hx
  · cases hx
  · rename_i hz
    cases hx
    exact (((sz_view hv.d1 hv.d2).mul hr).sub (sz_view hv.b1 hv.b2)).div ((sz_view hv.a1 hv.a2).sub ((sz_view hv.c1 hv.c2).mul hr)) hz
section
variable {ds : List Int} {n a b c d : Int} {v t x7 x8 x9 x10 x11 x12 x13 x14 : D} (h0 : ds ≠ []) (hn : 0 ≤ n) (hv : View a b c d)
include h0 hn hv
theorem looksP1_ok : W (looksP1 [bx ds n, v, t, .int a, .int b, .int c, .int d, x7, x8, x9, x10, x11, x12, x13, x14]) fun o => ∃ (n' : Int) (l : List Rat), o = .nx [bx ds n', v, t, .int a, .int b, .int c, .int d, .lst true (l.map rt), x8, x9, x10, x11, x12, x13, x14] ∧ n ≤ n' ∧ ∀ r ∈ l, Sz 8 r := by
  unfold looksP1
  walk_at "ev"
  rw [W_ok (by omega)]
  refine W_compR (fun j acc ρ => ∃ (n2 : Int) (l : List Rat), ρ = [bx ds n2, v, t, .int a, .int b, .int c, .int d, x7, x8, x9, x10, x11, x12, x13, x14] ∧ n ≤ n2 ∧ acc = l.map rt ∧ l.length = j ∧ ∀ r ∈ l, Sz 8 r) ⟨_, [], rfl, by omega, rfl, rfl, fun _ h => absurd h List.not_mem_nil⟩ ?_ ?_
  · rintro j acc ρ hj ⟨n2, l, rfl, hn2, rfl, hl, hs⟩
    have hj : j < 3 := hj
    walk_at "ev"
    refine W_mono (fraction_ex (ds := ds) (n := n2) (size := 12) h0 (by omega) (by omega) (by omega)) ?_
    rintro r ⟨p, e, n3, rfl, p1, p2, e1, e2, hn3⟩
    have s1 := sz_frac p1 p2 (by omega) e1 e2
    generalize (p : Rat) / (e : Rat) = q at *
    walk_at "ev"
    refine ⟨by rw [List.length_map]; omega, _, l ++ [q], rfl, by omega, by rw [List.map_append]; rfl, by rw [List.length_append, hl]; rfl, fun y hy => ?_⟩
    rcases List.mem_append.mp hy with h | h
    · exact hs y h
    · rw [List.mem_singleton.mp h]; exact s1.mono (by decide)
  · rintro acc ρ ⟨n2, l, rfl, hn2, rfl, hl, hs⟩
    have hl : l.length = 3 := hl
    obtain ⟨v1, v2, v3, v4⟩ := view_n hv
    walk_at "ev"
    split
    · walk_at "ev"
      rw [W_ok ⟨frz_rts l, by rw [List.length_map]; omega⟩]
      walk_at "ev"
      exact ⟨_, l, by rw [List.append_nil], by omega, hs⟩
    · rename_i hc
      rw [eq_part, W_eq (PreB.part_rt hc (by omega))]
      have s2 : Sz 8 (((0 - d : Int) : Rat) / (c : Rat)) := sz_of hc (by omega) (by omega)
      generalize ((0 - d : Int) : Rat) / (c : Rat) = q at *
      walk_at "ev"
      rw [W_ok ⟨frz_rts l, by rw [List.length_map]; omega⟩]
      walk_at "ev"
      refine ⟨_, l ++ [q], by rw [List.map_append]; rfl, by omega, fun y hy => ?_⟩
      rcases List.mem_append.mp hy with h | h
      · exact hs y h
      · rw [List.mem_singleton.mp h]; exact s2
theorem looksP2_ok : W (looksP2 [bx ds n, v, t, .int a, .int b, .int c, .int d, x7, x8, x9, x10, x11, x12, x13, x14]) fun o => ∃ (n' : Int) (l : List Rat), o = .nx [bx ds n', v, t, .int a, .int b, .int c, .int d, .lst true (l.map rt), x8, x9, x10, x11, x12, x13, x14] ∧ n ≤ n' ∧ ∀ r ∈ l, Sz 8 r := by
  unfold looksP2
  walk_at "ev"
  rw [W_ok (by omega)]
  refine W_compR (fun j acc ρ => ∃ (n2 : Int) (l : List Rat), ρ = [bx ds n2, v, t, .int a, .int b, .int c, .int d, x7, x8, x9, x10, x11, x12, x13, x14] ∧ n ≤ n2 ∧ acc = l.map rt ∧ l.length = j ∧ ∀ r ∈ l, Sz 8 r) ⟨_, [], rfl, by omega, rfl, rfl, fun _ h => absurd h List.not_mem_nil⟩ ?_ ?_
  · rintro j acc ρ hj ⟨n2, l, rfl, hn2, rfl, hl, hs⟩
    have hj : j < 3 := hj
    walk_at "ev"
    refine W_mono (fraction_ex (ds := ds) (n := n2) (size := 12) h0 (by omega) (by omega) (by omega)) ?_
    rintro r ⟨p, e, n3, rfl, p1, p2, e1, e2, hn3⟩
    have s1 := sz_frac p1 p2 (by omega) e1 e2
    generalize (p : Rat) / (e : Rat) = q at *
    walk_at "ev"
    refine ⟨by rw [List.length_map]; omega, _, l ++ [q], rfl, by omega, by rw [List.map_append]; rfl, by rw [List.length_append, hl]; rfl, fun y hy => ?_⟩
    rcases List.mem_append.mp hy with h | h
    · exact hs y h
    · rw [List.mem_singleton.mp h]; exact s1.mono (by decide)
  · rintro acc ρ ⟨n2, l, rfl, hn2, rfl, hl, hs⟩
    have hl : l.length = 3 := hl
    obtain ⟨v1, v2, v3, v4⟩ := view_n hv
    walk_at "ev"
    split
    · walk_at "ev"
      rw [W_ok ⟨frz_rts l, by rw [List.length_map]; omega⟩]
      walk_at "ev"
      exact ⟨_, l, by rw [List.append_nil], by omega, hs⟩
    · rename_i hc
      rw [eq_part, W_eq (PreB.part_rt hc (by omega))]
      have s2 : Sz 8 (((a : Int) : Rat) / (c : Rat)) := sz_of hc (by omega) (by omega)
      generalize ((a : Int) : Rat) / (c : Rat) = q at *
      walk_at "ev"
      rw [W_ok ⟨frz_rts l, by rw [List.length_map]; omega⟩]
      walk_at "ev"
      refine ⟨_, l ++ [q], by rw [List.map_append]; rfl, by omega, fun y hy => ?_⟩
      rcases List.mem_append.mp hy with h | h
      · exact hs y h
      · rw [List.mem_singleton.mp h]; exact s2
theorem looksH_ok {h : Int} (hh : h ≠ 0) (h4 : -4 ≤ h ∧ h ≤ 4) : W (looksH [bx ds n, v, toldV a b c d h, .int a, .int b, .int c, .int d, x7, x8, x9, x10, x11, x12, x13, x14]) fun o => o = .nx [bx ds n, v, toldV a b c d h, .int a, .int b, .int c, .int d, x7, x8, x9, x10, x11, x12, x13, x14] := by
  obtain ⟨v1, v2, v3, v4⟩ := view_n hv
  have sh := sz_view h4.1 h4.2
  have hr := cast_ne hh
  have sa := (sz_view hv.a1 hv.a2).div sh hr
  have sc := (sz_view hv.c1 hv.c2).div sh hr
  unfold looksH
  walk_at "ev"
  rw [W_eq (horizon_ok sa sc (by omega)), hor_scale hr]
  walk_at "ev"
  rw [optR_fz]
  split
  · rename_i hc
    rw [if_pos (by rw [hc]; rfl)]
    walk_at "ev"
    rw [W_eq (same_ex _ _ (show Sm 8 (optR none) .non from sm_non))]
    walk_at "ev"
  · rename_i hc
    rw [if_neg (cast_ne hc)]
    walk_at "ev"
    rw [eq_part, W_eq (PreB.part_rt hc (by omega))]
    walk_at "ev"
    rw [W_eq (same_ex _ _ (show Sm 8 (optR (some ((a : Rat) / (c : Rat)))) (rt ((a : Rat) / (c : Rat))) from sm_rt (m := 6) ((sz_view hv.a1 hv.a2).div (sz_view hv.c1 hv.c2) (cast_ne hc)) (by decide)))]
    walk_at "ev"
theorem looksI_ok {x y : Rat} (hx : Sz 5 x) (hy : Sz 5 y) : W (looksI [bx ds n, v, t, .int a, .int b, .int c, .int d, x7, x8, x9, rt x, rt y, x12, x13, x14]) fun o => ∃ (n' : Int) (z : Rat), o = .nx [bx ds n', v, t, .int a, .int b, .int c, .int d, x7, x8, x9, rt z, rt y, x12, x13, x14] ∧ n ≤ n' ∧ Sz 12 z := by
  obtain ⟨v1, v2, v3, v4⟩ := view_n hv
  have y1 := hy.1
  have y2 := hy.den
  unfold looksI
  walk_at "ev"
  split
  · exact ⟨_, x, rfl, by omega, hx.mono (by decide)⟩
  · rename_i hc
    obtain ⟨w, e, w1, w2⟩ := draw_ex (ds := ds) (n := n) (m := 2) h0 (by omega) (by omega)
    rw [W_eq e]
    walk_at "ev"
    split
    · rw [W_ok (MulOk.left (by omega))]
      walk_at "ev"
      rw [W_ok (MulOk.left (by decide))]
      walk_at "ev"
      rw [W_ok (MulOk.right (by omega))]
      walk_at "ev"
      rw [W_ok (MulOk.left (by omega))]
      walk_at "ev"
      have hb0 : c * (y.den : Int) ≠ 0 := Int.mul_ne_zero hc (den_ne y)
      have t1 := mul_sz v4 y2
      have t2 := mul_sz (mul_sz (show (2 : Int).natAbs < 2 ^ 2 by decide) y1) v3
      have t3 := mul_sz v3 y2
      have t0 : (0 - d * (y.den : Int)).natAbs < 2 ^ 10 := by
        have := up_sz t1 (show 3 + 5 ≤ 10 by decide)
        omega
      have t4 := sub_sz t0 t2
      rw [eq_part, W_eq (PreB.part_rt hb0 (up_sz t3 (by decide)))]
      walk_at "ev"
      exact ⟨_, _, rfl, by omega, sz_of hb0 (up_sz t4 (by decide)) (up_sz t3 (by decide))⟩
    · exact ⟨_, x, rfl, by omega, hx.mono (by decide)⟩
end
end Lk62
end
section
set_option Elab.async false
set_option linter.all false
set_option maxRecDepth 100000
set_option maxHeartbeats 4000000
set_option exponentiation.threshold 5000
open PySem Mv Mv.PreA
local macro_rules | `(tactic| walk_at "ev") => `(tactic| try simp only [↓W_bCons, ↓W_bNil, ↓W_bBrk, ↓W_bCnt, ↓W_bExp, ↓W_bRet, ↓W_bRetN, ↓W_bIf, ↓W_bAsg, ↓W_bPar, ↓W_bAug, ↓W_eC, ↓W_eV, ↓W_eM, ↓W_hV, ↓W_hE, ↓W_eFz, ↓W_e1, ↓W_e2, ↓W_aNil, ↓W_aCons, ↓W_eN, ↓W_eTup, ↓W_eLst, ↓W_eCall, ↓W_eMut, ↓W_eMt, ↓W_eIf, ↓W_eAn, ↓W_eOr, ↓W_eNo, ↓W_eJ0, ↓W_eJ1, ↓W_tT, ↓W_tB, ↓W_tNo, ↓W_tAn, ↓W_tOr, ↓W_tAll, ↓W_gNm, ↓W_gsNil, ↓W_gsCons, ↓W_gTp, ↓W_gTpL, ↓W_gIx, ↓W_bFor, ↓W_bWhile, ↓W_iRg1, ↓W_iRg2, ↓W_iSq, ↓W_eLc, ↓W_eSl, ↓W_pN, ↓W_pS, ↓W_iEn, ↓W_iZp, ↓W_iRv, ↓W_iRg3, ↓W_iRgV, ↓W_eCh, ↓W_chIf, ↓W_bind, ↓W_map, ↓W_some, ↓W_none,
  Hd.get, List.getElem?_cons_zero, List.getElem?_cons_succ, List.getD_cons_zero, List.getD_cons_succ, List.set_cons_zero, List.set_cons_succ, List.length_cons, List.length_nil, List.map_cons, List.map_nil, List.replicate, List.cons_append, List.nil_append, Nat.reduceAdd, Nat.reduceSub, Nat.reduceLeDiff, Nat.zero_add,
  D.frz, D.frzL, D.fz, D.fzL, tru_b, tru_i, tru_n, tru_l, tru_t, tru_c, tms, wipeD, unw, lend, unlend, keepL, Option.map_some, Option.bind_some, Bool.and_true, Bool.true_and, Bool.not_true, Bool.not_false, ↓reduceIte, if_true, if_false, Bool.false_eq_true, true_and, and_true, ite_b, ite_nb, vv_fmtI, vv_fmtS, vv_reprI, vv_reprS, vv_addS, vv_augI, vv_augS, vv_lenS, vv_eqS, vv_neS, vv_addL, vv_addT,
  vv_add, vv_sub, vv_mul, vv_div, vv_mod, vv_pow, vv_shl, vv_shr, vv_neg, vv_lt, vv_le, vv_gt, vv_ge, vv_int, vv_intS, vv_intb, vv_abs, vv_gcd, vv_max2, vv_min2, vv_lenL, vv_lenC, vv_lenT, vv_idxL, vv_idxC, vv_idxT, vv_eqI, vv_eqB, vv_neI, vv_list, vv_listT, vv_tuple, vv_tupleT, vv_sum, vv_slL, vv_slS, vv_slT, vv_range, vv_index, vv_count, isL_l, isL_c, lenL_l, lenL_c, kindL, vv_maxL, vv_minL, vv_strI, vv_app, vv_isNN, vv_isIN, vv_isSN, vv_isBN, vv_isLN, vv_isTN, vv_isBB, vv_isNB, vv_isIB, vv_isSB, vv_isLB, vv_isTB, vv_inNN, vv_inIN, vv_inSN, vv_inBN, vv_inLN, vv_inTN, vv_inBB, atF0, atF1, atF2, atF3, atF4, atF5, okI, okB, okS, okN, okL, ix0, ix1, ix2, frzL_int, fzL_int, intsD_map, isiI_int, isiI_str, isiI_bool, isiI_list, isiI_tuple, isiS_int, isiS_str, isiS_bool, isiS_list, isiS_tuple, isiB_int, isiB_str, isiB_bool, isiB_list, isiB_tuple, isiL_int, isiL_str, isiL_bool, isiL_list, isiL_tuple, isiT_int, isiT_str, isiT_bool, isiT_list, isiT_tuple, isiN_int, isiN_str, isiN_bool, isiN_list, isiN_tuple])
local macro_rules | `(tactic| walk_at "mu") => `(tactic| repeat (first | (rw [W_ok (MulOk.right (by omega))]; walk_at "ev") | (rw [W_ok (MulOk.left (by omega))]; walk_at "ev") | (rw [W_ok (divok (by omega) (by omega))]; walk_at "ev") | (rw [W_ok (by omega)]; walk_at "ev")))
namespace Lk62
theorem mid_eq {x y : Rat} : ((x.num * (y.den : Int) + y.num * (x.den : Int) : Int) : Rat) / ((2 * (x.den : Int) * (y.den : Int) : Int) : Rat) = (x + y) / ((2 : Int) : Rat) := by
  have h1 := rat_nd x
  have h2 := rat_nd y
  have h3 := cast_ne (den_ne x)
  have h4 := cast_ne (den_ne y)
  have h5 := two_ne
  rw [Rat.intCast_add, Rat.intCast_mul, Rat.intCast_mul, Rat.intCast_mul, Rat.intCast_mul]
  generalize ((x.den : Int) : Rat) = e at *
  generalize (x.num : Rat) = m at *
  generalize ((y.den : Int) : Rat) = e' at *
  generalize (y.num : Rat) = m' at *
  generalize ((2 : Int) : Rat) = t at *
  have h6 := ne_mul (ne_mul h5 h3) h4
  grind
theorem step_eq {x y : Rat} {k : Int} : ((x.num * (y.den : Int) + k * y.num * (x.den : Int) : Int) : Rat) / (((x.den : Int) * (y.den : Int) : Int) : Rat) = x + y * (k : Rat) := by
  have h1 := rat_nd x
  have h2 := rat_nd y
  have h3 := cast_ne (den_ne x)
  have h4 := cast_ne (den_ne y)
  rw [Rat.intCast_add, Rat.intCast_mul, Rat.intCast_mul, Rat.intCast_mul, Rat.intCast_mul]
  generalize ((x.den : Int) : Rat) = e at *
  generalize (x.num : Rat) = m at *
  generalize ((y.den : Int) : Rat) = e' at *
  generalize (y.num : Rat) = m' at *
  have h6 := ne_mul h3 h4
  grind
theorem fzL_opt (g : Int → Option Rat) : ∀ l : List Int, D.fzL (l.map fun i => optR (g i)) = l.map fun i => optR (g i)
  | [] => rfl
  | i :: l => by show (optR (g i)).fz :: D.fzL (l.map fun i => optR (g i)) = _; rw [fzL_opt g l, optR_fz]; rfl
theorem looks_ok {ds : List Int} {n a b c d h : Int} (h0 : ds ≠ []) (hn : 0 ≤ n) (hv : View a b c d) (hh : h ≠ 0) (h4 : -4 ≤ h ∧ h ≤ 4) :
    W (F_law_looks [bx ds n, .tup [.int a, .int b, .int c, .int d], toldV a b c d h]) fun r => ∃ n', r = (.bl true, [bx ds n', .tup [.int a, .int b, .int c, .int d], toldV a b c d h]) ∧ n ≤ n' := by
  obtain ⟨v1, v2, v3, v4⟩ := view_n hv
  have v1' : a.natAbs < 2 ^ 20 := by omega
  have v2' : b.natAbs < 2 ^ 20 := by omega
  have v3' : c.natAbs < 2 ^ 20 := by omega
  have v4' : d.natAbs < 2 ^ 20 := by omega
  have hr := cast_ne hh
  have sh := sz_view h4.1 h4.2
  have sa : Sz 6 _ := (sz_view hv.a1 hv.a2).div sh hr
  have sb : Sz 6 _ := (sz_view hv.b1 hv.b2).div sh hr
  have sc : Sz 6 _ := (sz_view hv.c1 hv.c2).div sh hr
  have sd : Sz 6 _ := (sz_view hv.d1 hv.d2).div sh hr
  unfold F_law_looks
  rw [W_fnD rfl]
  rw [d_looks_eq]
  walk_at "ev"
  refine W_mono (looksP1_ok h0 hn hv) ?_
  rintro o ⟨n1, l1, rfl, hn1, hs1⟩
  walk_at "ev"
  refine W_list (ds := l1.map rt) (fun k ρ => ∃ x9, ρ = [bx ds n1, .tup [.int a, .int b, .int c, .int d], toldV a b c d h, .int a, .int b, .int c, .int d, .lst true (l1.map rt), .any, x9, .any, .any, .any, .any, .any]) ⟨_, rfl⟩ ?_ ?_ ?_
  · rintro k ρ ⟨x9, rfl⟩
    exact itK_lst rfl (frz_rts _) k
  · rintro k dd ρ hd ⟨x9, rfl⟩
    obtain ⟨r, hr', rfl⟩ := List.mem_map.mp (List.mem_of_getElem? hd)
    have sr := hs1 r hr'
    walk_at "ev"
    rw [W_eq (seen_at_ok (m := 8) (sa.mono (by decide)) (sb.mono (by decide)) (sc.mono (by decide)) (sd.mono (by decide)) sr (by decide)), seenR_scale hr]
    walk_at "ev"
    rw [optR_fz, W_eq (law_seen_ok v1' v2' v3' v4' (sr.mono (by decide)))]
    walk_at "ev"
    rw [optR_fz, W_eq (same_ex _ _ (sm_seen hv sr (by decide)))]
    walk_at "ev"
    exact ⟨_, rfl⟩
  · rintro ρ ⟨x9, rfl⟩
    walk_at "ev"
    refine W_mono (looksP2_ok h0 (by omega) hv) ?_
    rintro o ⟨n2, l2, rfl, hn2, hs2⟩
    walk_at "ev"
    refine W_list (ds := l2.map rt) (fun k ρ => ∃ x9, ρ = [bx ds n2, .tup [.int a, .int b, .int c, .int d], toldV a b c d h, .int a, .int b, .int c, .int d, .lst true (l2.map rt), .any, x9, .any, .any, .any, .any, .any]) ⟨_, rfl⟩ ?_ ?_ ?_
    · rintro k ρ ⟨x9, rfl⟩
      exact itK_lst rfl (frz_rts _) k
    · rintro k dd ρ hd ⟨x9, rfl⟩
      obtain ⟨r, hr', rfl⟩ := List.mem_map.mp (List.mem_of_getElem? hd)
      have sr := hs2 r hr'
      walk_at "ev"
      rw [W_eq (ground_of_ok (m := 8) (sa.mono (by decide)) (sb.mono (by decide)) (sc.mono (by decide)) (sd.mono (by decide)) sr (by decide)), groundR_scale hr]
      walk_at "ev"
      rw [optR_fz, W_eq (law_ground_ok v1' v2' v3' v4' (sr.mono (by decide)))]
      walk_at "ev"
      rw [optR_fz, W_eq (same_ex _ _ (sm_ground hv sr (by decide)))]
      walk_at "ev"
      exact ⟨_, rfl⟩
    · rintro ρ ⟨x9, rfl⟩
      walk_at "ev"
      refine W_mono (looksH_ok h0 (by omega) hv hh h4) ?_
      rintro o rfl
      walk_at "ev"
      refine W_mono (fraction_ex (ds := ds) (n := n2) (size := 9) h0 (by omega) (by omega) (by omega)) ?_
      rintro r ⟨p, e, n3, rfl, p1, p2, e1, e2, hn3⟩
      have s1 := sz_frac p1 p2 (by omega) e1 e2
      generalize (p : Rat) / (e : Rat) = x at *
      walk_at "ev"
      refine W_mono (fraction_ex (ds := ds) (n := n3) (size := 4) h0 (by omega) (by omega) (by omega)) ?_
      rintro r ⟨p', e', n4, rfl, p1', p2', e1', e2', hn4⟩
      have s2 := sz_frac p1' p2' (by omega) e1' e2'
      generalize (p' : Rat) / (e' : Rat) = y at *
      walk_at "ev"
      refine W_mono (looksI_ok h0 (by omega) hv s1 s2) ?_
      rintro o ⟨n5, z, rfl, hn5, s3⟩
      have z1 := s3.1
      have z2 := s3.den
      have y1 := s2.1
      have y2 := s2.den
      walk_at "ev"
      rw [W_ok (MulOk.left (by omega))]
      walk_at "ev"
      rw [W_ok (MulOk.left (by decide))]
      walk_at "ev"
      rw [W_ok (MulOk.right (by omega))]
      walk_at "ev"
      rw [W_ok (MulOk.left (by omega))]
      walk_at "ev"
      have hb0 : (z.den : Int) * (y.den : Int) ≠ 0 := Int.mul_ne_zero (den_ne z) (den_ne y)
      rw [eq_part, W_eq (PreB.part_rt hb0 (up_sz (mul_sz z2 y2) (by decide)))]
      rw [step_eq]
      have s4 := s3.add (s2.mul (sz_int (n := 4) (m := 3) (by decide) (by decide)))
      generalize z + y * ((4 : Int) : Rat) = u at *
      have u1 := s4.1
      have u2 := s4.den
      walk_at "ev"
      rw [W_ok (MulOk.left (by omega))]
      walk_at "ev"
      rw [W_ok (MulOk.right (by omega))]
      walk_at "ev"
      rw [W_ok (MulOk.left (by decide))]
      walk_at "ev"
      rw [W_ok (MulOk.right (by omega))]
      walk_at "ev"
      have hb1 : 2 * (z.den : Int) * (u.den : Int) ≠ 0 := Int.mul_ne_zero (Int.mul_ne_zero (by decide) (den_ne z)) (den_ne u)
      rw [W_eq (PreB.part_rt hb1 (up_sz (mul_sz (mul_sz (show (2 : Int).natAbs < 2 ^ 2 by decide) z2) u2) (by decide))), mid_eq]
      have s5 := (s3.add s4).div sz_two two_ne
      walk_at "ev"
      rw [W_eq (middle_ok (m := 40) (sa.mono (by decide)) (sb.mono (by decide)) (sc.mono (by decide)) (sd.mono (by decide)) (s3.mono (by decide)) (s4.mono (by decide)) (by decide)), seenR_scale hr]
      walk_at "ev"
      rw [optR_fz, W_eq (law_seen_ok v1' v2' v3' v4' (s5.mono (by decide)))]
      walk_at "ev"
      rw [optR_fz, W_eq (same_ex _ _ (sm_seen hv s5 (by decide)))]
      walk_at "ev"
      rw [W_ok (by omega)]
      refine W_compI (fun _ => true) (fun i => optR (seenR a b c d (z + y * (i : Rat)))) (by decide) ?_ ?_
      · intro i hi1 hi2
        have hi2 : i < 5 := by simpa using hi2
        have si := sz_int (n := i) (m := 3) (by omega) (by decide)
        have s6 := s3.add (s2.mul si)
        walk_at "ev"
        rw [W_ok (MulOk.left (by omega))]
        walk_at "ev"
        rw [W_ok (MulOk.left (by omega))]
        walk_at "ev"
        rw [W_ok (MulOk.right (by omega))]
        walk_at "ev"
        rw [W_ok (MulOk.left (by omega))]
        walk_at "ev"
        rw [W_eq (PreB.part_rt hb0 (up_sz (mul_sz z2 y2) (by decide))), step_eq]
        walk_at "ev"
        rw [W_eq (law_seen_ok v1' v2' v3' v4' (s6.mono (by decide)))]
        walk_at "ev"
        rw [optR_fz]
        try rfl
      · rw [List.filter_eq_self.mpr (fun _ _ => rfl)]
        walk_at "ev"
        have st5 : F_steps_seen [toldV a b c d h, rt z, rt y, .int 5] = some (.lst true ((ilist 0 (Int.toNat 5)).map fun i : Int => optR (seenR a b c d (z + y * (i : Rat)))), [toldV a b c d h, rt z, rt y, .int 5]) := by
          have := steps_ok (k := 5) (m := 40) (sa.mono (by decide)) (sb.mono (by decide)) (sc.mono (by decide)) (sd.mono (by decide)) (s3.mono (by decide)) (s2.mono (by decide)) (by decide) (by decide) (by decide)
          simp only [seenR_scale hr] at this
          exact this
        have st0 : F_steps_seen [toldV a b c d h, rt z, rt y, .int 0] = some (.lst true [], [toldV a b c d h, rt z, rt y, .int 0]) :=
          steps_ok (k := 0) (m := 40) (sa.mono (by decide)) (sb.mono (by decide)) (sc.mono (by decide)) (sd.mono (by decide)) (s3.mono (by decide)) (s2.mono (by decide)) (by decide) (by decide) (by decide)
        rw [W_eq st5]
        walk_at "ev"
        rw [fzL_opt]
        have smL : Sm 8 (.lst false ((ilist 0 (Int.toNat 5)).map fun i : Int => optR (seenR a b c d (z + y * (i : Rat))))) (.lst true ((ilist 0 (Int.toNat 5)).map fun i : Int => optR (seenR a b c d (z + y * (i : Rat))))) := by
          refine sm_lst (ilist 0 (Int.toNat 5)) (fun i : Int => optR (seenR a b c d (z + y * (i : Rat)))) (by rw [ilist_len]; decide) fun i hi => ⟨?_, optR_frz _⟩
          obtain ⟨i1, i2⟩ := mem_ilist.mp hi
          have i2 : i < 0 + 5 := i2
          exact sm_seen hv (s3.add (s2.mul (sz_int (n := i) (m := 3) (by omega) (by decide)))) (by decide)
        rw [W_eq (same_ex _ _ smL)]
        walk_at "ev"
        rw [W_eq st0]
        walk_at "ev"
        rw [W_eq (same_ex _ _ (show Sm 8 (.lst false []) (.lst false []) from sm_ints (l := []) (by decide) (by simp)))]
        walk_at "ev"
        exact ⟨_, rfl, by omega⟩
end Lk62
end
section
set_option Elab.async false
set_option linter.all false
set_option maxRecDepth 100000
set_option maxHeartbeats 4000000
set_option exponentiation.threshold 5000
open PySem Mv Mv.PreA
local macro_rules | `(tactic| walk_at "ev") => `(tactic| try simp only [↓W_bCons, ↓W_bNil, ↓W_bBrk, ↓W_bCnt, ↓W_bExp, ↓W_bRet, ↓W_bRetN, ↓W_bIf, ↓W_bAsg, ↓W_bPar, ↓W_bAug, ↓W_eC, ↓W_eV, ↓W_eM, ↓W_hV, ↓W_hE, ↓W_eFz, ↓W_e1, ↓W_e2, ↓W_aNil, ↓W_aCons, ↓W_eN, ↓W_eTup, ↓W_eLst, ↓W_eCall, ↓W_eMut, ↓W_eMt, ↓W_eIf, ↓W_eAn, ↓W_eOr, ↓W_eNo, ↓W_eJ0, ↓W_eJ1, ↓W_tT, ↓W_tB, ↓W_tNo, ↓W_tAn, ↓W_tOr, ↓W_tAll, ↓W_gNm, ↓W_gsNil, ↓W_gsCons, ↓W_gTp, ↓W_gTpL, ↓W_gIx, ↓W_bFor, ↓W_bWhile, ↓W_iRg1, ↓W_iRg2, ↓W_iSq, ↓W_eLc, ↓W_eSl, ↓W_pN, ↓W_pS, ↓W_iEn, ↓W_iZp, ↓W_iRv, ↓W_iRg3, ↓W_iRgV, ↓W_eCh, ↓W_chIf, ↓W_bind, ↓W_map, ↓W_some, ↓W_none,
  Hd.get, List.getElem?_cons_zero, List.getElem?_cons_succ, List.getD_cons_zero, List.getD_cons_succ, List.set_cons_zero, List.set_cons_succ, List.length_cons, List.length_nil, List.map_cons, List.map_nil, List.replicate, List.cons_append, List.nil_append, Nat.reduceAdd, Nat.reduceSub, Nat.reduceLeDiff, Nat.zero_add,
  D.frz, D.frzL, D.fz, D.fzL, tru_b, tru_i, tru_n, tru_l, tru_t, tru_c, tms, wipeD, unw, lend, unlend, keepL, Option.map_some, Option.bind_some, Bool.and_true, Bool.true_and, Bool.not_true, Bool.not_false, ↓reduceIte, if_true, if_false, Bool.false_eq_true, true_and, and_true, ite_b, ite_nb, vv_fmtI, vv_fmtS, vv_reprI, vv_reprS, vv_addS, vv_augI, vv_augS, vv_lenS, vv_eqS, vv_neS, vv_addL, vv_addT,
  vv_add, vv_sub, vv_mul, vv_div, vv_mod, vv_pow, vv_shl, vv_shr, vv_neg, vv_lt, vv_le, vv_gt, vv_ge, vv_int, vv_intS, vv_intb, vv_abs, vv_gcd, vv_max2, vv_min2, vv_lenL, vv_lenC, vv_lenT, vv_idxL, vv_idxC, vv_idxT, vv_eqI, vv_eqB, vv_neI, vv_list, vv_listT, vv_tuple, vv_tupleT, vv_sum, vv_slL, vv_slS, vv_slT, vv_range, vv_index, vv_count, isL_l, isL_c, lenL_l, lenL_c, kindL, vv_maxL, vv_minL, vv_strI, vv_app, vv_isNN, vv_isIN, vv_isSN, vv_isBN, vv_isLN, vv_isTN, vv_isBB, vv_isNB, vv_isIB, vv_isSB, vv_isLB, vv_isTB, vv_inNN, vv_inIN, vv_inSN, vv_inBN, vv_inLN, vv_inTN, vv_inBB, atF0, atF1, atF2, atF3, atF4, atF5, okI, okB, okS, okN, okL, ix0, ix1, ix2, frzL_int, fzL_int, intsD_map, isiI_int, isiI_str, isiI_bool, isiI_list, isiI_tuple, isiS_int, isiS_str, isiS_bool, isiS_list, isiS_tuple, isiB_int, isiB_str, isiB_bool, isiB_list, isiB_tuple, isiL_int, isiL_str, isiL_bool, isiL_list, isiL_tuple, isiT_int, isiT_str, isiT_bool, isiT_list, isiT_tuple, isiN_int, isiN_str, isiN_bool, isiN_list, isiN_tuple])
local macro_rules | `(tactic| walk_at "mu") => `(tactic| repeat (first | (rw [W_ok (MulOk.right (by omega))]; walk_at "ev") | (rw [W_ok (MulOk.left (by omega))]; walk_at "ev") | (rw [W_ok (divok (by omega) (by omega))]; walk_at "ev") | (rw [W_ok (by omega)]; walk_at "ev")))
namespace Lk62
theorem erase_map {α β : Type} (f : α → β) : ∀ (l : List α) (k : Nat), (l.map f).eraseIdx k = (l.eraseIdx k).map f
  | [], _ => rfl
  | _ :: _, 0 => rfl
  | x :: l, k + 1 => by show f x :: (l.map f).eraseIdx k = f x :: (l.eraseIdx k).map f; rw [erase_map f l k]
theorem mixed_ok {α : Type} (f : α → D) (hf : ∀ x, (f x).frz = true) (hfz : ∀ x, (f x).fz = f x) {ds : List Int} {n : Int} (l : List α) (h0 : ds ≠ []) (hn : 0 ≤ n) (hl : l.length ≤ 1000) : W (F_law_mixed [bx ds n, .lst true (l.map f)]) fun r => ∃ (l' : List α) (n' : Int), r = (.lst true (l'.map f), [bx ds n', .lst true (l.map f)]) ∧ n ≤ n' ∧ l'.length = l.length ∧ ∀ x ∈ l', x ∈ l := by
  have hz : ∀ l : List α, D.frzL (l.map f) = true := fun l => frzL_of fun d hd => by obtain ⟨x, _, rfl⟩ := List.mem_map.mp hd; exact hf x
  unfold F_law_mixed
  rw [W_fnD rfl]
  unfold d_law_mixed
  walk_at "ev"
  rw [W_ok (hz l)]
  walk_at "ev"
  rw [W_ok (by rw [List.length_map]; omega)]
  rw [List.length_map]
  refine W_range (lo := 0) (fun k ρ => ∃ (n' : Int) (a b : List α) (x4 : D), ρ = [bx ds n', .lst true (l.map f), .lst true (a.map f), .lst true (b.map f), x4] ∧ n ≤ n' ∧ a.length + b.length = l.length ∧ b.length = k ∧ (∀ x ∈ a, x ∈ l) ∧ ∀ x ∈ b, x ∈ l) ⟨_, l, [], _, rfl, by omega, by simp, rfl, fun _ h => h, fun _ h => absurd h List.not_mem_nil⟩ ?_ ?_
  · rintro k ρ hk ⟨n', a, b, x4, rfl, hn', hab, hb, ha, hbm⟩
    have hk : k < l.length := by simpa using hk
    walk_at "ev"
    rw [List.length_map]
    obtain ⟨d, e, d1, d2⟩ := draw_ex (ds := ds) (n := n') (m := (a.length : Int)) h0 (by omega) (by omega)
    rw [W_eq e]
    obtain ⟨d, rfl⟩ := Int.eq_ofNat_of_zero_le d1
    walk_at "ev"
    have hd : d < (a.map f).length := by rw [List.length_map]; omega
    rw [gPopAt_nat hd (by rw [List.length_map] at hd; omega)]
    have hd' : d < a.length := by omega
    have e1 : (a.map f)[d] = f a[d] := List.getElem_map ..
    have e2 : (a.map f).eraseIdx d = (a.eraseIdx d).map f := erase_map f a d
    rw [e1, e2]
    walk_at "ev"
    rw [W_ok (by rw [List.length_map]; omega), hfz]
    walk_at "ev"
    refine ⟨_, a.eraseIdx d, b ++ [a[d]], _, by rw [List.map_append]; rfl, by omega, ?_, by rw [List.length_append, hb]; rfl, fun x hx => ha x (List.mem_of_mem_eraseIdx hx), fun x hx => ?_⟩
    · rw [List.length_append, List.length_eraseIdx, if_pos hd']
      show a.length - 1 + (b.length + 1) = l.length
      omega
    · rcases List.mem_append.mp hx with hx | hx
      · exact hbm x hx
      · rw [List.mem_singleton.mp hx]; exact ha _ (List.getElem_mem hd')
  · rintro ρ ⟨n', a, b, x4, rfl, hn', hab, hb, ha, hbm⟩
    walk_at "ev"
    exact ⟨b, n', rfl, hn', by rw [hb]; simp, hbm⟩
abbrev pI (e : Int × Int) : D := .tup [.int e.1, .int e.2]
theorem pI_frz (e : Int × Int) : (pI e).frz = true := rfl
theorem pI_fz (e : Int × Int) : (pI e).fz = pI e := rfl
theorem frz_pI (l : List (Int × Int)) : D.frzL (l.map pI) = true := frzL_of fun d hd => by obtain ⟨x, _, rfl⟩ := List.mem_map.mp hd; rfl
theorem ok_pI (l : List (Int × Int)) : D.ok 64 (.lst true (l.map pI)) := ok_mono (n := 2) (ok_lst fun d hd => by
  obtain ⟨x, _, rfl⟩ := List.mem_map.mp hd
  refine ok_tup fun d hd => ?_
  simp only [List.mem_cons, List.not_mem_nil, or_false] at hd
  rcases hd with rfl | rfl <;> exact ok_int) (by decide)
def Bars (l : List (Int × Int)) : Prop := l ≠ [] ∧ l.length ≤ 10 ∧ ∀ e ∈ l, 1 ≤ e.1 ∧ e.1 ≤ 9 ∧ 1 ≤ e.2 ∧ e.2 ≤ 9
def sF (l : List (Int × Int)) : Int := (l.map fun e => e.1).sum
def sS (l : List (Int × Int)) : Int := (l.map fun e => e.2).sum
theorem sum_b : ∀ {l : List Int}, (∀ x ∈ l, 1 ≤ x ∧ x ≤ 9) → (l.length : Int) ≤ l.sum ∧ l.sum ≤ 9 * l.length
  | [], _ => by simp
  | x :: l, h => by
    have i := sum_b (l := l) fun y hy => h y (List.mem_cons_of_mem _ hy)
    have j := h x List.mem_cons_self
    rw [List.sum_cons, List.length_cons]
    omega
theorem sF_b {l : List (Int × Int)} (h : Bars l) : 1 ≤ sF l ∧ sF l ≤ 90 := by
  obtain ⟨h1, h2, h3⟩ := h
  have := sum_b (l := l.map fun e => e.1) fun x hx => by obtain ⟨e, he, rfl⟩ := List.mem_map.mp hx; have := h3 e he; omega
  have hp := List.length_pos_iff.mpr h1
  rw [List.length_map] at this
  unfold sF
  omega
theorem sS_b {l : List (Int × Int)} (h : Bars l) : 1 ≤ sS l ∧ sS l ≤ 90 := by
  obtain ⟨h1, h2, h3⟩ := h
  have := sum_b (l := l.map fun e => e.2) fun x hx => by obtain ⟨e, he, rfl⟩ := List.mem_map.mp hx; have := h3 e he; omega
  have hp := List.length_pos_iff.mpr h1
  rw [List.length_map] at this
  unfold sS
  omega
theorem map_int {α : Type} (f : α → Int) {l : List α} : (l.map fun x => D.int (f x)) = (l.map f).map D.int := by rw [List.map_map]; rfl
theorem mean_scale_ok {o : Bool} {l : List (Int × Int)} (h : Bars l) : F_mean_scale [.lst o (l.map pI)] = some (rt ((sS l : Rat) / (sF l : Rat)), [.lst o (l.map pI)]) := by
  have b1 := sF_b h
  have b2 := sS_b h
  have hl := h.2.1
  apply of_W
  unfold F_mean_scale
  rw [W_fnD rfl]
  unfold d_mean_scale
  cases o
  all_goals
    walk_at "ev"
    refine W_compM pI l (fun _ => true) (fun e => .int e.2) (by omega) ?_ ?_ ?_
    · intro k
      exact itK_lst rfl (frz_pI l) k
    · rintro ⟨x, y⟩ hx
      walk_at "ev"
      try rfl
    · rw [List.filter_eq_self.mpr (fun _ _ => rfl), map_int (fun e : Int × Int => e.2)]
      walk_at "ev"
      refine W_compM pI l (fun _ => true) (fun e => .int e.1) (by omega) ?_ ?_ ?_
      · intro k
        exact itK_lst rfl (frz_pI l) k
      · rintro ⟨x, y⟩ hx
        walk_at "ev"
        try rfl
      · rw [List.filter_eq_self.mpr (fun _ _ => rfl), map_int (fun e : Int × Int => e.1)]
        walk_at "ev"
        have b1' : 1 ≤ (l.map fun e : Int × Int => e.1).sum ∧ (l.map fun e : Int × Int => e.1).sum ≤ 90 := b1
        rw [eq_frac, W_eq (fractionF (by omega) (by omega)), fr_rt (by omega)]
        walk_at "ev"
        rfl
def absR (x : Rat) : Rat := if x < 0 then -x else x
theorem abs_rt (x : Rat) : D.tup [.int (if x.num < 0 then -x.num else x.num), .int (x.den : Int)] = rt (absR x) := by
  unfold absR
  have h : x.num < 0 ↔ x < 0 := by
    rw [Rat.lt_iff]
    show _ ↔ x.num * 1 < 0 * _
    omega
  by_cases z : x < 0
  · rw [if_pos z, if_pos (h.mpr z)]
    show _ = pr _ _
    rw [Rat.neg_num, Rat.neg_den]
  · rw [if_neg z, if_neg (fun w => z (h.mp w))]
theorem absR_sz {x : Rat} {m : Nat} (h : Sz m x) : Sz m (absR x) := by
  unfold absR
  split
  · exact ⟨by rw [Rat.neg_num, Int.natAbs_neg]; exact h.1, by rw [Rat.neg_den]; exact h.2⟩
  · exact h
def gapR (P G : Int) (e : Int × Int) : Rat := absR ((e.2 : Rat) / (e.1 : Rat) - (G : Rat) / (P : Rat))
/-- the first greatest place -/
def biR (g : Nat → Rat) : Nat → Nat
  | 0 => 0
  | 1 => 0
  | k + 2 => if g (biR g (k + 1)) < g (k + 1) then k + 1 else biR g (k + 1)
theorem biR_lt (g : Nat → Rat) : ∀ k, biR g (k + 1) < k + 1
  | 0 => by show 0 < 1; decide
  | k + 1 => by
    unfold biR
    have := biR_lt g k
    split <;> omega
end Lk62
end
section
set_option Elab.async false
set_option linter.all false
set_option maxRecDepth 100000
set_option maxHeartbeats 4000000
set_option exponentiation.threshold 5000
open PySem Mv Mv.PreA
local macro_rules | `(tactic| walk_at "ev") => `(tactic| try simp only [↓W_bCons, ↓W_bNil, ↓W_bBrk, ↓W_bCnt, ↓W_bExp, ↓W_bRet, ↓W_bRetN, ↓W_bIf, ↓W_bAsg, ↓W_bPar, ↓W_bAug, ↓W_eC, ↓W_eV, ↓W_eM, ↓W_hV, ↓W_hE, ↓W_eFz, ↓W_e1, ↓W_e2, ↓W_aNil, ↓W_aCons, ↓W_eN, ↓W_eTup, ↓W_eLst, ↓W_eCall, ↓W_eMut, ↓W_eMt, ↓W_eIf, ↓W_eAn, ↓W_eOr, ↓W_eNo, ↓W_eJ0, ↓W_eJ1, ↓W_tT, ↓W_tB, ↓W_tNo, ↓W_tAn, ↓W_tOr, ↓W_tAll, ↓W_gNm, ↓W_gsNil, ↓W_gsCons, ↓W_gTp, ↓W_gTpL, ↓W_gIx, ↓W_bFor, ↓W_bWhile, ↓W_iRg1, ↓W_iRg2, ↓W_iSq, ↓W_eLc, ↓W_eSl, ↓W_pN, ↓W_pS, ↓W_iEn, ↓W_iZp, ↓W_iRv, ↓W_iRg3, ↓W_iRgV, ↓W_eCh, ↓W_chIf, ↓W_bind, ↓W_map, ↓W_some, ↓W_none,
  Hd.get, List.getElem?_cons_zero, List.getElem?_cons_succ, List.getD_cons_zero, List.getD_cons_succ, List.set_cons_zero, List.set_cons_succ, List.length_cons, List.length_nil, List.map_cons, List.map_nil, List.replicate, List.cons_append, List.nil_append, Nat.reduceAdd, Nat.reduceSub, Nat.reduceLeDiff, Nat.zero_add,
  D.frz, D.frzL, D.fz, D.fzL, tru_b, tru_i, tru_n, tru_l, tru_t, tru_c, tms, wipeD, unw, lend, unlend, keepL, Option.map_some, Option.bind_some, Bool.and_true, Bool.true_and, Bool.not_true, Bool.not_false, ↓reduceIte, if_true, if_false, Bool.false_eq_true, true_and, and_true, ite_b, ite_nb, vv_fmtI, vv_fmtS, vv_reprI, vv_reprS, vv_addS, vv_augI, vv_augS, vv_lenS, vv_eqS, vv_neS, vv_addL, vv_addT,
  vv_add, vv_sub, vv_mul, vv_div, vv_mod, vv_pow, vv_shl, vv_shr, vv_neg, vv_lt, vv_le, vv_gt, vv_ge, vv_int, vv_intS, vv_intb, vv_abs, vv_gcd, vv_max2, vv_min2, vv_lenL, vv_lenC, vv_lenT, vv_idxL, vv_idxC, vv_idxT, vv_eqI, vv_eqB, vv_neI, vv_list, vv_listT, vv_tuple, vv_tupleT, vv_sum, vv_slL, vv_slS, vv_slT, vv_range, vv_index, vv_count, isL_l, isL_c, lenL_l, lenL_c, kindL, vv_maxL, vv_minL, vv_strI, vv_app, vv_isNN, vv_isIN, vv_isSN, vv_isBN, vv_isLN, vv_isTN, vv_isBB, vv_isNB, vv_isIB, vv_isSB, vv_isLB, vv_isTB, vv_inNN, vv_inIN, vv_inSN, vv_inBN, vv_inLN, vv_inTN, vv_inBB, atF0, atF1, atF2, atF3, atF4, atF5, okI, okB, okS, okN, okL, ix0, ix1, ix2, frzL_int, fzL_int, intsD_map, isiI_int, isiI_str, isiI_bool, isiI_list, isiI_tuple, isiS_int, isiS_str, isiS_bool, isiS_list, isiS_tuple, isiB_int, isiB_str, isiB_bool, isiB_list, isiB_tuple, isiL_int, isiL_str, isiL_bool, isiL_list, isiL_tuple, isiT_int, isiT_str, isiT_bool, isiT_list, isiT_tuple, isiN_int, isiN_str, isiN_bool, isiN_list, isiN_tuple])
local macro_rules | `(tactic| walk_at "mu") => `(tactic| repeat (first | (rw [W_ok (MulOk.right (by omega))]; walk_at "ev") | (rw [W_ok (MulOk.left (by omega))]; walk_at "ev") | (rw [W_ok (divok (by omega) (by omega))]; walk_at "ev") | (rw [W_ok (by omega)]; walk_at "ev")))
namespace Lk62
abbrev gL (l : List (Int × Int)) (k : Nat) : Rat := gapR (sF l) (sS l) (l.getD k (1, 1))
theorem gap_sz {P G a b : Int} (hP : 1 ≤ P ∧ P ≤ 90) (hG : 1 ≤ G ∧ G ≤ 90) (ha : 1 ≤ a ∧ a ≤ 9) (hb : 1 ≤ b ∧ b ≤ 9) : Sz 4 ((b : Rat) / (a : Rat)) ∧ Sz 7 ((G : Rat) / (P : Rat)) ∧ Sz 12 ((b : Rat) / (a : Rat) - (G : Rat) / (P : Rat)) ∧ Sz 12 (gapR P G (a, b)) := by
  have s1 : Sz 4 ((b : Rat) / (a : Rat)) := sz_of (by omega) (by omega) (by omega)
  have s2 : Sz 7 ((G : Rat) / (P : Rat)) := sz_of (by omega) (by omega) (by omega)
  have s3 : Sz 12 _ := s1.sub s2
  exact ⟨s1, s2, s3, absR_sz s3⟩
theorem getD_at {l : List (Int × Int)} {k : Nat} {e : Int × Int} (h : l[k]? = some e) : l.getD k (1, 1) = e := by
  rw [List.getD_eq_getElem?_getD, h]; rfl
theorem worst_ok {l : List (Int × Int)} (h : Bars l) : F_worst_bar [.lst true (l.map pI)] = some (.int (biR (gL l) l.length : Nat), [.lst true (l.map pI)]) := by
  have b1 := sF_b h
  have b2 := sS_b h
  obtain ⟨h1, h2, h3⟩ := id h
  have hp := List.length_pos_iff.mpr h1
  apply of_W
  unfold F_worst_bar
  rw [W_fnD rfl]
  unfold d_worst_bar
  walk_at "ev"
  rw [W_eq (mean_scale_ok h)]
  walk_at "ev"
  refine W_list (ds := l.zipIdx.map fun e => D.tup [.int (e.2 : Nat), pI e.1]) (fun k ρ => ∃ x2 x3 x4 x5 x6, ρ = [.lst true (l.map pI), rt ((sS l : Rat) / (sF l : Rat)), x2, x3, x4, x5, x6] ∧ (k = 0 → x2 = .non) ∧ ∀ j, k = j + 1 → x2 = .tup [rt (gL l (biR (gL l) k)), .int (biR (gL l) k : Nat)]) ⟨_, _, _, _, _, rfl, fun _ => rfl, fun j hj => by omega⟩ ?_ ?_ ?_
  · rintro k ρ ⟨x2, x3, x4, x5, x6, rfl, _, _⟩
    rw [itE_at (xs := l.map pI) (fun k => itK_lst rfl (frz_pI l) k), enum_map]
  · rintro k dd ρ hd ⟨x2, x3, x4, x5, x6, rfl, g0, g1⟩
    rw [List.getElem?_map, List.getElem?_zipIdx] at hd
    obtain ⟨e1, he1, rfl⟩ := Option.map_eq_some_iff.mp hd
    obtain ⟨⟨a, b⟩, he, rfl⟩ := Option.map_eq_some_iff.mp he1
    have hmem := h3 _ (List.mem_of_getElem? he)
    have hg := getD_at he
    obtain ⟨s1, s2, s3, s4⟩ := gap_sz b1 b2 (a := a) (b := b) ⟨hmem.1, hmem.2.1⟩ ⟨hmem.2.2.1, hmem.2.2.2⟩
    simp only [Nat.zero_add]
    walk_at "ev"
    rw [eq_frac, W_eq (fractionF (t := b) (b := a) (by omega) (by omega)), fr_rt (by omega)]
    walk_at "ev"
    rw [eq_minus, W_eq (minusR s1 s2 (by omega) (by omega))]
    walk_at "ev"
    rw [abs_rt]
    have eg : absR ((b : Rat) / (a : Rat) - (sS l : Rat) / (sF l : Rat)) = gL l k := by
      show _ = gapR _ _ (l.getD k (1, 1))
      rw [hg]; rfl
    rw [eg]
    have sk : Sz 12 (gL l k) := by rw [← eg]; exact absR_sz s3
    cases k with
    | zero =>
      rw [g0 rfl]
      walk_at "ev"
      exact ⟨_, _, _, _, _, rfl, fun h => by omega, fun j hj => rfl⟩
    | succ j =>
      rw [g1 j rfl]
      walk_at "ev"
      rw [okT]
      walk_at "ev"
      have hlt := biR_lt (gL l) j
      have hjl := (List.getElem?_eq_some_iff.mp he).1
      have sb : Sz 12 (gL l (biR (gL l) (j + 1))) := by
        have hbl : biR (gL l) (j + 1) < l.length := by omega
        have hm2 := h3 _ (List.getElem_mem hbl)
        have := (gap_sz b1 b2 (a := l[biR (gL l) (j + 1)].1) (b := l[biR (gL l) (j + 1)].2) ⟨hm2.1, hm2.2.1⟩ ⟨hm2.2.2.1, hm2.2.2.2⟩).2.2.2
        show Sz 12 (gapR _ _ (l.getD _ (1, 1)))
        rw [getD_at (List.getElem?_eq_getElem hbl)]
        exact this
      rw [eq_less, W_eq (lessR sb sk (by omega) (by omega))]
      walk_at "ev"
      have hbi : biR (gL l) (j + 1 + 1) = if gL l (biR (gL l) (j + 1)) < gL l (j + 1) then j + 1 else biR (gL l) (j + 1) := rfl
      split
      · rename_i hc
        rw [if_pos hc] at hbi
        walk_at "ev"
        exact ⟨_, _, _, _, _, rfl, fun h => by omega, fun i hi => by rw [hbi]⟩
      · rename_i hc
        rw [if_neg hc] at hbi
        walk_at "ev"
        exact ⟨_, _, _, _, _, rfl, fun h => by omega, fun i hi => by rw [hbi]⟩
  · rintro ρ ⟨x2, x3, x4, x5, x6, rfl, g0, g1⟩
    rw [List.length_map, List.length_zipIdx] at g1
    rw [g1 (l.length - 1) (by omega)]
    walk_at "ev"
theorem worst_okF {l : List (Int × Int)} (h : Bars l) : F_worst_bar [.lst false (l.map pI)] = some (.int (biR (gL l) l.length : Nat), [.lst false (l.map pI)]) := by
  have b1 := sF_b h
  have b2 := sS_b h
  obtain ⟨h1, h2, h3⟩ := id h
  have hp := List.length_pos_iff.mpr h1
  apply of_W
  unfold F_worst_bar
  rw [W_fnD rfl]
  unfold d_worst_bar
  walk_at "ev"
  rw [W_eq (mean_scale_ok h)]
  walk_at "ev"
  refine W_list (ds := l.zipIdx.map fun e => D.tup [.int (e.2 : Nat), pI e.1]) (fun k ρ => ∃ x2 x3 x4 x5 x6, ρ = [.lst false (l.map pI), rt ((sS l : Rat) / (sF l : Rat)), x2, x3, x4, x5, x6] ∧ (k = 0 → x2 = .non) ∧ ∀ j, k = j + 1 → x2 = .tup [rt (gL l (biR (gL l) k)), .int (biR (gL l) k : Nat)]) ⟨_, _, _, _, _, rfl, fun _ => rfl, fun j hj => by omega⟩ ?_ ?_ ?_
  · rintro k ρ ⟨x2, x3, x4, x5, x6, rfl, _, _⟩
    rw [itE_at (xs := l.map pI) (fun k => itK_lst rfl (frz_pI l) k), enum_map]
  · rintro k dd ρ hd ⟨x2, x3, x4, x5, x6, rfl, g0, g1⟩
    rw [List.getElem?_map, List.getElem?_zipIdx] at hd
    obtain ⟨e1, he1, rfl⟩ := Option.map_eq_some_iff.mp hd
    obtain ⟨⟨a, b⟩, he, rfl⟩ := Option.map_eq_some_iff.mp he1
    have hmem := h3 _ (List.mem_of_getElem? he)
    have hg := getD_at he
    obtain ⟨s1, s2, s3, s4⟩ := gap_sz b1 b2 (a := a) (b := b) ⟨hmem.1, hmem.2.1⟩ ⟨hmem.2.2.1, hmem.2.2.2⟩
    simp only [Nat.zero_add]
    walk_at "ev"
    rw [eq_frac, W_eq (fractionF (t := b) (b := a) (by omega) (by omega)), fr_rt (by omega)]
    walk_at "ev"
    rw [eq_minus, W_eq (minusR s1 s2 (by omega) (by omega))]
    walk_at "ev"
    rw [abs_rt]
    have eg : absR ((b : Rat) / (a : Rat) - (sS l : Rat) / (sF l : Rat)) = gL l k := by
      show _ = gapR _ _ (l.getD k (1, 1))
      rw [hg]; rfl
    rw [eg]
    have sk : Sz 12 (gL l k) := by rw [← eg]; exact absR_sz s3
    cases k with
    | zero =>
      rw [g0 rfl]
      walk_at "ev"
      exact ⟨_, _, _, _, _, rfl, fun h => by omega, fun j hj => rfl⟩
    | succ j =>
      rw [g1 j rfl]
      walk_at "ev"
      rw [okT]
      walk_at "ev"
      have hlt := biR_lt (gL l) j
      have hjl := (List.getElem?_eq_some_iff.mp he).1
      have sb : Sz 12 (gL l (biR (gL l) (j + 1))) := by
        have hbl : biR (gL l) (j + 1) < l.length := by omega
        have hm2 := h3 _ (List.getElem_mem hbl)
        have := (gap_sz b1 b2 (a := l[biR (gL l) (j + 1)].1) (b := l[biR (gL l) (j + 1)].2) ⟨hm2.1, hm2.2.1⟩ ⟨hm2.2.2.1, hm2.2.2.2⟩).2.2.2
        show Sz 12 (gapR _ _ (l.getD _ (1, 1)))
        rw [getD_at (List.getElem?_eq_getElem hbl)]
        exact this
      rw [eq_less, W_eq (lessR sb sk (by omega) (by omega))]
      walk_at "ev"
      have hbi : biR (gL l) (j + 1 + 1) = if gL l (biR (gL l) (j + 1)) < gL l (j + 1) then j + 1 else biR (gL l) (j + 1) := rfl
      split
      · rename_i hc
        rw [if_pos hc] at hbi
        walk_at "ev"
        exact ⟨_, _, _, _, _, rfl, fun h => by omega, fun i hi => by rw [hbi]⟩
      · rename_i hc
        rw [if_neg hc] at hbi
        walk_at "ev"
        exact ⟨_, _, _, _, _, rfl, fun h => by omega, fun i hi => by rw [hbi]⟩
  · rintro ρ ⟨x2, x3, x4, x5, x6, rfl, g0, g1⟩
    rw [List.length_map, List.length_zipIdx] at g1
    rw [g1 (l.length - 1) (by omega)]
    walk_at "ev"
theorem gap_eq {P G a b : Int} (hP : 1 ≤ P) (ha : 1 ≤ a) : (((if b * P - G * a < 0 then -(b * P - G * a) else b * P - G * a : Int)) : Rat) / ((a * P : Int) : Rat) = gapR P G (a, b) := by
  have pa : (0 : Rat) < (a : Rat) := Rat.intCast_pos.mpr (by omega)
  have pP : (0 : Rat) < (P : Rat) := Rat.intCast_pos.mpr (by omega)
  have h0 : (0 : Rat) < (a : Rat) * (P : Rat) := Rat.mul_pos pa pP
  have hx : (b : Rat) / (a : Rat) - (G : Rat) / (P : Rat) = ((b * P - G * a : Int) : Rat) / ((a * P : Int) : Rat) := by
    rw [Rat.intCast_sub, Rat.intCast_mul, Rat.intCast_mul, Rat.intCast_mul]
    have n1 : (a : Rat) ≠ 0 := by grind
    have n2 : (P : Rat) ≠ 0 := by grind
    have n3 := ne_mul n1 n2
    generalize (a : Rat) = a' at *
    generalize (P : Rat) = P' at *
    grind
  show _ = absR (((a, b) : Int × Int).2 / ((a, b) : Int × Int).1 - (G : Rat) / (P : Rat))
  show _ = absR ((b : Rat) / (a : Rat) - (G : Rat) / (P : Rat))
  rw [hx]
  have hD : (0 : Rat) < ((a * P : Int) : Rat) := by rw [Rat.intCast_mul]; exact h0
  generalize b * P - G * a = i
  generalize ((a * P : Int) : Rat) = D at *
  unfold absR
  have key : ((i : Rat) / D < 0) ↔ i < 0 := by
    have e : (i : Rat) = (i : Rat) / D * D := by grind
    constructor
    · intro h
      have : (i : Rat) / D * D < 0 * D := Rat.mul_lt_mul_of_pos_right h hD
      have h3 : (i : Rat) < ((0 : Int) : Rat) := by rw [e]; show _ < (0 : Rat); grind
      exact Rat.intCast_lt_intCast.mp h3
    · intro h
      have h3 : (i : Rat) < ((0 : Int) : Rat) := Rat.intCast_lt_intCast.mpr h
      have h3 : (i : Rat) < 0 := h3
      generalize (i : Rat) / D = q at *
      by_cases hq : q < 0
      · exact hq
      · exfalso
        have h5 : (0 : Rat) ≤ q := by grind
        have h6 : 0 * D ≤ q * D := Rat.mul_le_mul_of_nonneg_right h5 (by grind)
        grind
  by_cases h : i < 0
  · rw [if_pos h, if_pos (key.mpr h), Rat.intCast_neg]
    grind
  · rw [if_neg h, if_neg (fun z => h (key.mp z))]
end Lk62
end
section
set_option Elab.async false
set_option linter.all false
set_option maxRecDepth 100000
set_option maxHeartbeats 4000000
set_option exponentiation.threshold 5000
open PySem Mv Mv.PreA
local macro_rules | `(tactic| walk_at "ev") => `(tactic| try simp only [↓W_bCons, ↓W_bNil, ↓W_bBrk, ↓W_bCnt, ↓W_bExp, ↓W_bRet, ↓W_bRetN, ↓W_bIf, ↓W_bAsg, ↓W_bPar, ↓W_bAug, ↓W_eC, ↓W_eV, ↓W_eM, ↓W_hV, ↓W_hE, ↓W_eFz, ↓W_e1, ↓W_e2, ↓W_aNil, ↓W_aCons, ↓W_eN, ↓W_eTup, ↓W_eLst, ↓W_eCall, ↓W_eMut, ↓W_eMt, ↓W_eIf, ↓W_eAn, ↓W_eOr, ↓W_eNo, ↓W_eJ0, ↓W_eJ1, ↓W_tT, ↓W_tB, ↓W_tNo, ↓W_tAn, ↓W_tOr, ↓W_tAll, ↓W_gNm, ↓W_gsNil, ↓W_gsCons, ↓W_gTp, ↓W_gTpL, ↓W_gIx, ↓W_bFor, ↓W_bWhile, ↓W_iRg1, ↓W_iRg2, ↓W_iSq, ↓W_eLc, ↓W_eSl, ↓W_pN, ↓W_pS, ↓W_iEn, ↓W_iZp, ↓W_iRv, ↓W_iRg3, ↓W_iRgV, ↓W_eCh, ↓W_chIf, ↓W_bind, ↓W_map, ↓W_some, ↓W_none,
  Hd.get, List.getElem?_cons_zero, List.getElem?_cons_succ, List.getD_cons_zero, List.getD_cons_succ, List.set_cons_zero, List.set_cons_succ, List.length_cons, List.length_nil, List.map_cons, List.map_nil, List.replicate, List.cons_append, List.nil_append, Nat.reduceAdd, Nat.reduceSub, Nat.reduceLeDiff, Nat.zero_add,
  D.frz, D.frzL, D.fz, D.fzL, tru_b, tru_i, tru_n, tru_l, tru_t, tru_c, tms, wipeD, unw, lend, unlend, keepL, Option.map_some, Option.bind_some, Bool.and_true, Bool.true_and, Bool.not_true, Bool.not_false, ↓reduceIte, if_true, if_false, Bool.false_eq_true, true_and, and_true, ite_b, ite_nb, vv_fmtI, vv_fmtS, vv_reprI, vv_reprS, vv_addS, vv_augI, vv_augS, vv_lenS, vv_eqS, vv_neS, vv_addL, vv_addT,
  vv_add, vv_sub, vv_mul, vv_div, vv_mod, vv_pow, vv_shl, vv_shr, vv_neg, vv_lt, vv_le, vv_gt, vv_ge, vv_int, vv_intS, vv_intb, vv_abs, vv_gcd, vv_max2, vv_min2, vv_lenL, vv_lenC, vv_lenT, vv_idxL, vv_idxC, vv_idxT, vv_eqI, vv_eqB, vv_neI, vv_list, vv_listT, vv_tuple, vv_tupleT, vv_sum, vv_slL, vv_slS, vv_slT, vv_range, vv_index, vv_count, isL_l, isL_c, lenL_l, lenL_c, kindL, vv_maxL, vv_minL, vv_strI, vv_app, vv_isNN, vv_isIN, vv_isSN, vv_isBN, vv_isLN, vv_isTN, vv_isBB, vv_isNB, vv_isIB, vv_isSB, vv_isLB, vv_isTB, vv_inNN, vv_inIN, vv_inSN, vv_inBN, vv_inLN, vv_inTN, vv_inBB, atF0, atF1, atF2, atF3, atF4, atF5, okI, okB, okS, okN, okL, ix0, ix1, ix2, frzL_int, fzL_int, intsD_map, isiI_int, isiI_str, isiI_bool, isiI_list, isiI_tuple, isiS_int, isiS_str, isiS_bool, isiS_list, isiS_tuple, isiB_int, isiB_str, isiB_bool, isiB_list, isiB_tuple, isiL_int, isiL_str, isiL_bool, isiL_list, isiL_tuple, isiT_int, isiT_str, isiT_bool, isiT_list, isiT_tuple, isiN_int, isiN_str, isiN_bool, isiN_list, isiN_tuple])
local macro_rules | `(tactic| walk_at "mu") => `(tactic| repeat (first | (rw [W_ok (MulOk.right (by omega))]; walk_at "ev") | (rw [W_ok (MulOk.left (by omega))]; walk_at "ev") | (rw [W_ok (divok (by omega) (by omega))]; walk_at "ev") | (rw [W_ok (by omega)]; walk_at "ev")))
namespace Lk62
theorem scale_eq {x y z : Rat} (hz : z ≠ 0) : ((x.num * y.num * (z.den : Int) : Int) : Rat) / (((x.den : Int) * (y.den : Int) * z.num : Int) : Rat) = x * y / z := by
  have h1 := rat_nd x
  have h2 := rat_nd y
  have h0 := rat_nd z
  have h3 := cast_ne (den_ne x)
  have h4 := cast_ne (den_ne y)
  have h5 := cast_ne (den_ne z)
  have h6 := cast_ne (num_ne hz)
  rw [Rat.intCast_mul, Rat.intCast_mul, Rat.intCast_mul, Rat.intCast_mul]
  generalize ((x.den : Int) : Rat) = e at *
  generalize (x.num : Rat) = m at *
  generalize ((y.den : Int) : Rat) = e' at *
  generalize (y.num : Rat) = m' at *
  generalize ((z.den : Int) : Rat) = e'' at *
  generalize (z.num : Rat) = m'' at *
  have h7 := ne_mul (ne_mul h3 h4) h6
  grind
theorem part_pos {p e : Int} (hp : 1 ≤ p) (he : 1 ≤ e) : (p : Rat) / (e : Rat) ≠ 0 := ne_div (cast_ne (by omega)) (cast_ne (by omega))
theorem lengths_ok {ds : List Int} {n : Int} (h0 : ds ≠ []) (hn : 0 ≤ n) : W (F_law_lengths [bx ds n]) fun r => ∃ n', r = (.bl true, [bx ds n']) ∧ n ≤ n' := by
  unfold F_law_lengths
  rw [W_fnD rfl]
  unfold d_law_lengths
  walk_at "ev"
  obtain ⟨a1, e, a11, a12⟩ := draw_ex (ds := ds) (n := n) (m := 21) h0 (by omega) (by omega)
  rw [W_eq e]
  walk_at "ev"
  obtain ⟨a2, e, a21, a22⟩ := draw_ex (ds := ds) (n := n + 1) (m := 4) h0 (by omega) (by omega)
  rw [W_eq e]
  walk_at "ev"
  rw [eq_part, W_eq (PreB.part_rt (t := a1) (b := 1 + a2) (by omega) (by omega))]
  walk_at "ev"
  obtain ⟨c1, e, c11, c12⟩ := draw_ex (ds := ds) (n := n + 1 + 1) (m := 20) h0 (by omega) (by omega)
  rw [W_eq e]
  walk_at "ev"
  obtain ⟨c2, e, c21, c22⟩ := draw_ex (ds := ds) (n := n + 1 + 1 + 1) (m := 4) h0 (by omega) (by omega)
  rw [W_eq e]
  walk_at "ev"
  rw [W_eq (PreB.part_rt (t := 1 + c1) (b := 1 + c2) (by omega) (by omega))]
  walk_at "ev"
  obtain ⟨f1, e, f11, f12⟩ := draw_ex (ds := ds) (n := n + 1 + 1 + 1 + 1) (m := 20) h0 (by omega) (by omega)
  rw [W_eq e]
  walk_at "ev"
  obtain ⟨f2, e, f21, f22⟩ := draw_ex (ds := ds) (n := n + 1 + 1 + 1 + 1 + 1) (m := 4) h0 (by omega) (by omega)
  rw [W_eq e]
  walk_at "ev"
  rw [W_eq (PreB.part_rt (t := 1 + f1) (b := 1 + f2) (by omega) (by omega))]
  have sx : Sz 5 ((a1 : Rat) / ((1 + a2 : Int) : Rat)) := sz_of (by omega) (by omega) (by omega)
  have sy : Sz 5 (((1 + c1 : Int) : Rat) / ((1 + c2 : Int) : Rat)) := sz_of (by omega) (by omega) (by omega)
  have sz : Sz 5 (((1 + f1 : Int) : Rat) / ((1 + f2 : Int) : Rat)) := sz_of (by omega) (by omega) (by omega)
  have hz := part_pos (p := 1 + f1) (e := 1 + f2) (by omega) (by omega)
  generalize (a1 : Rat) / ((1 + a2 : Int) : Rat) = x at *
  generalize ((1 + c1 : Int) : Rat) / ((1 + c2 : Int) : Rat) = y at *
  generalize ((1 + f1 : Int) : Rat) / ((1 + f2 : Int) : Rat) = z at *
  have hn6 : 0 ≤ n + 1 + 1 + 1 + 1 + 1 + 1 ∧ n ≤ n + 1 + 1 + 1 + 1 + 1 + 1 := by omega
  generalize n + 1 + 1 + 1 + 1 + 1 + 1 = n6 at *
  have x1 := sx.1
  have x2 := sx.den
  have y1 := sy.1
  have y2 := sy.den
  have z1 := sz.1
  have z2 := sz.den
  have hb0 : (x.den : Int) * (y.den : Int) * z.num ≠ 0 := Int.mul_ne_zero (Int.mul_ne_zero (den_ne x) (den_ne y)) (num_ne hz)
  have hbs := up_sz (mul_sz (mul_sz x2 y2) z1) (show 5 + 5 + 5 ≤ 4000 by decide)
  have sr := (sx.mul sy).div sz hz
  walk_at "ev"
  rw [W_eq (by_scale_ok sx sz sy (by decide) hz)]
  walk_at "ev"
  rw [W_ok (MulOk.left (by omega))]
  walk_at "ev"
  rw [W_ok (MulOk.right (by omega))]
  walk_at "ev"
  rw [W_ok (MulOk.left (by omega))]
  walk_at "ev"
  rw [W_ok (MulOk.right (by omega))]
  walk_at "ev"
  rw [W_eq (PreB.part_rt hb0 hbs), scale_eq hz]
  walk_at "ev"
  rw [W_eq (same_ex _ _ (sm_rt sr (by decide)))]
  walk_at "ev"
  rw [W_eq (depth_ok sx sy sz (by decide) hz)]
  walk_at "ev"
  rw [W_ok (MulOk.left (by omega))]
  walk_at "ev"
  rw [W_ok (MulOk.right (by omega))]
  walk_at "ev"
  rw [W_ok (MulOk.left (by omega))]
  walk_at "ev"
  rw [W_ok (MulOk.right (by omega))]
  walk_at "ev"
  rw [W_eq (PreB.part_rt hb0 hbs), scale_eq hz]
  walk_at "ev"
  rw [W_eq (same_ex _ _ (sm_rt sr (by decide)))]
  walk_at "ev"
  rw [W_eq (shadow_ok sx sy sz (by decide) hz), Rat.mul_comm y x]
  walk_at "ev"
  rw [W_ok (MulOk.left (by omega))]
  walk_at "ev"
  rw [W_ok (MulOk.right (by omega))]
  walk_at "ev"
  rw [W_ok (MulOk.left (by omega))]
  walk_at "ev"
  rw [W_ok (MulOk.right (by omega))]
  walk_at "ev"
  rw [W_eq (PreB.part_rt hb0 hbs), scale_eq hz]
  walk_at "ev"
  rw [W_eq (same_ex _ _ (sm_rt sr (by decide)))]
  walk_at "ev"
  obtain ⟨m, e, m1, m2⟩ := draw_ex (ds := ds) (n := n6) (m := 5) h0 (by omega) (by omega)
  rw [W_eq e]
  walk_at "ev"
  rw [W_ok (by omega)]
  refine W_compR (fun j acc ρ => ∃ (n2 : Int) (l : List (Int × Int)), ρ = [bx ds n2, rt x, rt y, rt z, .any, .any, .any, .any, .any, .any, .any, .any, .any] ∧ n ≤ n2 ∧ acc = l.map pI ∧ l.length = j ∧ ∀ e ∈ l, 1 ≤ e.1 ∧ e.1 ≤ 9 ∧ 1 ≤ e.2 ∧ e.2 ≤ 9) ⟨_, [], rfl, by omega, rfl, rfl, fun _ h => absurd h List.not_mem_nil⟩ ?_ ?_
  · rintro j acc ρ hj ⟨n2, l, rfl, hn2, rfl, hl, hb⟩
    walk_at "ev"
    obtain ⟨u, e, u1, u2⟩ := draw_ex (ds := ds) (n := n2) (m := 9) h0 (by omega) (by omega)
    rw [W_eq e]
    walk_at "ev"
    obtain ⟨w, e, w1, w2⟩ := draw_ex (ds := ds) (n := n2 + 1) (m := 9) h0 (by omega) (by omega)
    rw [W_eq e]
    walk_at "ev"
    refine ⟨by rw [List.length_map]; omega, _, l ++ [(1 + u, 1 + w)], rfl, by omega, by rw [List.map_append]; rfl, by rw [List.length_append, hl]; rfl, fun e he => ?_⟩
    rcases List.mem_append.mp he with h | h
    · exact hb e h
    · rw [List.mem_singleton.mp h]; show 1 ≤ 1 + u ∧ 1 + u ≤ 9 ∧ 1 ≤ 1 + w ∧ 1 + w ≤ 9; omega
  · rintro acc ρ ⟨n2, l, rfl, hn2, rfl, hl, hb⟩
    walk_at "ev"
    refine W_mono (mixed_ok pI pI_frz pI_fz l h0 (by omega) (by omega)) ?_
    rintro r ⟨l', n3, rfl, hn3, hl', hm'⟩
    walk_at "ev"
    rw [show cutD (l'.map pI) none (some 1) = (l'.take 1).map pI from cut_to (k := 1) pI l']
    walk_at "ev"
    rw [W_ok (frz_pI l')]
    walk_at "ev"
    have hl5 : l.length ≤ 5 ∧ 1 ≤ l.length := by omega
    have ht : (l'.take 1).length ≤ 1 := by rw [List.length_take]; omega
    rw [W_ok ⟨frz_pI l, frz_pI _, by rw [List.length_map, List.length_map]; omega⟩]
    have eL : l.map pI ++ (l'.take 1).map pI = (l ++ l'.take 1).map pI := by rw [List.map_append]
    rw [eL]
    have hB : Bars (l ++ l'.take 1) := by
      refine ⟨fun h => ?_, by rw [List.length_append]; omega, fun e he => ?_⟩
      · have := congrArg List.length h
        rw [List.length_append, List.length_nil] at this
        omega
      · rcases List.mem_append.mp he with h | h
        · exact hb e h
        · exact hb e (hm' e (List.mem_of_mem_take h))
    generalize l ++ l'.take 1 = L at *
    have b1 := sF_b hB
    have b2 := sS_b hB
    have hL := hB.2.1
    have hp := List.length_pos_iff.mpr hB.1
    walk_at "ev"
    rw [W_ok (frz_pI L)]
    walk_at "ev"
    refine W_compM pI L (fun _ => true) (fun e => .int e.1) (by omega) ?_ ?_ ?_
    · intro k
      exact itK_lst rfl (frz_pI L) k
    · rintro ⟨u, w⟩ hx
      walk_at "ev"
      try rfl
    rw [List.filter_eq_self.mpr (fun _ _ => rfl), map_int (fun e : Int × Int => e.1)]
    walk_at "ev"
    refine W_compM pI L (fun _ => true) (fun e => .int e.2) (by omega) ?_ ?_ ?_
    · intro k
      exact itK_lst rfl (frz_pI L) k
    · rintro ⟨u, w⟩ hx
      walk_at "ev"
      try rfl
    rw [List.filter_eq_self.mpr (fun _ _ => rfl), map_int (fun e : Int × Int => e.2)]
    walk_at "ev"
    rw [show (L.map fun e : Int × Int => e.1).sum = sF L from rfl, show (L.map fun e : Int × Int => e.2).sum = sS L from rfl]
    refine W_compM pI L (fun _ => true) (fun e => rt (gapR (sF L) (sS L) e)) (by omega) ?_ ?_ ?_
    · intro k
      exact itK_lst rfl (frz_pI L) k
    · rintro ⟨u, w⟩ hx
      have hm := hB.2.2 _ hx
      have hm : 1 ≤ u ∧ u ≤ 9 ∧ 1 ≤ w ∧ w ≤ 9 := hm
      walk_at "ev"
      rw [W_ok (MulOk.left (by omega))]
      walk_at "ev"
      rw [W_ok (MulOk.left (by omega))]
      walk_at "ev"
      rw [W_ok (MulOk.left (by omega))]
      walk_at "ev"
      have k1 : u * sF L ≠ 0 := Int.mul_ne_zero (by omega) (by omega)
      have k2 : u * sF L ≤ 9 * 90 := Int.mul_le_mul (by omega) (by omega) (by omega) (by omega)
      have k3 : 0 ≤ u * sF L := Int.mul_nonneg (by omega) (by omega)
      rw [W_eq (PreB.part_rt k1 (by omega)), gap_eq (by omega) (by omega)]
      walk_at "ev"
      try rfl
    rw [List.filter_eq_self.mpr (fun _ _ => rfl)]
    have eg : (L.map fun e => rt (gapR (sF L) (sS L) e)) = ((List.range L.length).map (gL L)).map rt := by
      rw [List.map_map]
      apply List.ext_getElem?
      intro i
      rw [List.getElem?_map, List.getElem?_map]
      by_cases hi : i < L.length
      · rw [List.getElem?_eq_getElem hi, List.getElem?_range hi]
        show some (rt (gapR _ _ _)) = some (rt (gapR _ _ (L.getD i (1, 1))))
        rw [getD_at (List.getElem?_eq_getElem hi)]
      · rw [List.getElem?_eq_none (by omega), List.getElem?_eq_none (by rw [List.length_range]; omega)]
        rfl
    rw [eg]
    walk_at "ev"
    rw [List.length_map, List.length_map, List.length_range, W_ok (by omega)]
    have gat : ∀ i, i < L.length → atF (((List.range L.length).map (gL L)).map rt) (i : Int) = some (rt (gL L i)) := fun i hi => by
      rw [atF_nat, List.getElem?_map, List.getElem?_map, List.getElem?_range hi]; rfl
    have gs : ∀ i, i < L.length → Sz 12 (gL L i) := fun i hi => by
      have hm2 := hB.2.2 _ (List.getElem_mem hi)
      have := (gap_sz b1 b2 (a := L[i].1) (b := L[i].2) ⟨hm2.1, hm2.2.1⟩ ⟨hm2.2.2.1, hm2.2.2.2⟩).2.2.2
      show Sz 12 (gapR _ _ (L.getD i (1, 1)))
      rw [getD_at (List.getElem?_eq_getElem hi)]
      exact this
    have bl : ∀ i, i ≤ L.length → biR (gL L) i < L.length := fun i hi => by
      cases i with
      | zero => exact hp
      | succ i => have := biR_lt (gL L) i; omega
    refine W_range (lo := 0) (fun k ρ => ∃ x5, ρ = [bx ds n3, rt x, rt y, rt z, .lst true (L.map pI), x5, .lst true (L.map pI), .int (sF L), .int (sS L), .any, .any, .lst true (((List.range L.length).map (gL L)).map rt), .int (biR (gL L) k : Nat)]) ⟨_, rfl⟩ ?_ ?_
    · rintro k ρ hk ⟨x5, rfl⟩
      have hk : k < L.length := by simpa using hk
      have hbk := bl k (by omega)
      rw [show (0 : Int) + (k : Int) = (k : Int) by omega]
      have s1 := gs k hk
      have s2 := gs _ hbk
      have t1 := s1.1
      have t2 := s1.den
      have t3 := s2.1
      have t4 := s2.den
      walk_at "ev"
      rw [gat k hk]
      walk_at "ev"
      rw [gat _ hbk]
      walk_at "ev"
      rw [W_ok (MulOk.left (by omega))]
      walk_at "ev"
      rw [W_ok (MulOk.left (by omega))]
      walk_at "ev"
      have hlt : (gL L (biR (gL L) k)).num * ((gL L k).den : Int) < (gL L k).num * ((gL L (biR (gL L) k)).den : Int) ↔ gL L (biR (gL L) k) < gL L k := (Rat.lt_iff _ _).symm
      split
      · rename_i hc
        have hc := hlt.mp hc
        walk_at "ev"
        cases k with
        | zero =>
          have hc : gL L 0 < gL L 0 := hc
          exact absurd hc (by grind)
        | succ j =>
          have hbi : biR (gL L) (j + 1 + 1) = if gL L (biR (gL L) (j + 1)) < gL L (j + 1) then j + 1 else biR (gL L) (j + 1) := rfl
          rw [if_pos hc] at hbi
          exact ⟨_, by rw [hbi]⟩
      · rename_i hc
        have hc := fun z => hc (hlt.mpr z)
        walk_at "ev"
        cases k with
        | zero => exact ⟨_, rfl⟩
        | succ j =>
          have hbi : biR (gL L) (j + 1 + 1) = if gL L (biR (gL L) (j + 1)) < gL L (j + 1) then j + 1 else biR (gL L) (j + 1) := rfl
          rw [if_neg hc] at hbi
          exact ⟨_, by rw [hbi]⟩
    · rintro ρ ⟨x5, rfl⟩
      have hbk := bl L.length (by omega)
      rw [Int.toNat_natCast]
      walk_at "ev"
      rw [W_eq (mean_scale_ok hB)]
      walk_at "ev"
      rw [W_eq (PreB.part_rt (by omega) (by omega))]
      walk_at "ev"
      have sm1 : Sz 7 ((sS L : Rat) / (sF L : Rat)) := sz_of (by omega) (by omega) (by omega)
      rw [W_eq (same_ex _ _ (sm_rt sm1 (by decide)))]
      walk_at "ev"
      rw [W_eq (worst_ok hB)]
      walk_at "ev"
      rw [W_eq (same_ex _ _ (sm_int (by omega)))]
      walk_at "ev"
      rw [gEq_same (ok_pI L)]
      walk_at "ev"
      exact ⟨_, rfl, by omega⟩
end Lk62
end
section
set_option Elab.async false
set_option linter.all false
set_option maxRecDepth 100000
set_option maxHeartbeats 4000000
set_option exponentiation.threshold 5000
open PySem Mv Mv.PreA
local macro_rules | `(tactic| walk_at "ev") => `(tactic| try simp only [↓W_bCons, ↓W_bNil, ↓W_bBrk, ↓W_bCnt, ↓W_bExp, ↓W_bRet, ↓W_bRetN, ↓W_bIf, ↓W_bAsg, ↓W_bPar, ↓W_bAug, ↓W_eC, ↓W_eV, ↓W_eM, ↓W_hV, ↓W_hE, ↓W_eFz, ↓W_e1, ↓W_e2, ↓W_aNil, ↓W_aCons, ↓W_eN, ↓W_eTup, ↓W_eLst, ↓W_eCall, ↓W_eMut, ↓W_eMt, ↓W_eIf, ↓W_eAn, ↓W_eOr, ↓W_eNo, ↓W_eJ0, ↓W_eJ1, ↓W_tT, ↓W_tB, ↓W_tNo, ↓W_tAn, ↓W_tOr, ↓W_tAll, ↓W_gNm, ↓W_gsNil, ↓W_gsCons, ↓W_gTp, ↓W_gTpL, ↓W_gIx, ↓W_bFor, ↓W_bWhile, ↓W_iRg1, ↓W_iRg2, ↓W_iSq, ↓W_eLc, ↓W_eSl, ↓W_pN, ↓W_pS, ↓W_iEn, ↓W_iZp, ↓W_iRv, ↓W_iRg3, ↓W_iRgV, ↓W_eCh, ↓W_chIf, ↓W_bind, ↓W_map, ↓W_some, ↓W_none,
  Hd.get, List.getElem?_cons_zero, List.getElem?_cons_succ, List.getD_cons_zero, List.getD_cons_succ, List.set_cons_zero, List.set_cons_succ, List.length_cons, List.length_nil, List.map_cons, List.map_nil, List.replicate, List.cons_append, List.nil_append, Nat.reduceAdd, Nat.reduceSub, Nat.reduceLeDiff, Nat.zero_add,
  D.frz, D.frzL, D.fz, D.fzL, tru_b, tru_i, tru_n, tru_l, tru_t, tru_c, tms, wipeD, unw, lend, unlend, keepL, Option.map_some, Option.bind_some, Bool.and_true, Bool.true_and, Bool.not_true, Bool.not_false, ↓reduceIte, if_true, if_false, Bool.false_eq_true, true_and, and_true, ite_b, ite_nb, vv_fmtI, vv_fmtS, vv_reprI, vv_reprS, vv_addS, vv_augI, vv_augS, vv_lenS, vv_eqS, vv_neS, vv_addL, vv_addT,
  vv_add, vv_sub, vv_mul, vv_div, vv_mod, vv_pow, vv_shl, vv_shr, vv_neg, vv_lt, vv_le, vv_gt, vv_ge, vv_int, vv_intS, vv_intb, vv_abs, vv_gcd, vv_max2, vv_min2, vv_lenL, vv_lenC, vv_lenT, vv_idxL, vv_idxC, vv_idxT, vv_eqI, vv_eqB, vv_neI, vv_list, vv_listT, vv_tuple, vv_tupleT, vv_sum, vv_slL, vv_slS, vv_slT, vv_range, vv_index, vv_count, isL_l, isL_c, lenL_l, lenL_c, kindL, vv_maxL, vv_minL, vv_strI, vv_app, vv_isNN, vv_isIN, vv_isSN, vv_isBN, vv_isLN, vv_isTN, vv_isBB, vv_isNB, vv_isIB, vv_isSB, vv_isLB, vv_isTB, vv_inNN, vv_inIN, vv_inSN, vv_inBN, vv_inLN, vv_inTN, vv_inBB, atF0, atF1, atF2, atF3, atF4, atF5, okI, okB, okS, okN, okL, ix0, ix1, ix2, frzL_int, fzL_int, intsD_map, isiI_int, isiI_str, isiI_bool, isiI_list, isiI_tuple, isiS_int, isiS_str, isiS_bool, isiS_list, isiS_tuple, isiB_int, isiB_str, isiB_bool, isiB_list, isiB_tuple, isiL_int, isiL_str, isiL_bool, isiL_list, isiL_tuple, isiT_int, isiT_str, isiT_bool, isiT_list, isiT_tuple, isiN_int, isiN_str, isiN_bool, isiN_list, isiN_tuple])
local macro_rules | `(tactic| walk_at "mu") => `(tactic| repeat (first | (rw [W_ok (MulOk.right (by omega))]; walk_at "ev") | (rw [W_ok (MulOk.left (by omega))]; walk_at "ev") | (rw [W_ok (divok (by omega) (by omega))]; walk_at "ev") | (rw [W_ok (by omega)]; walk_at "ev")))
namespace Lk62
theorem gEq_rt (r s : Rat) : gEq (rt r) (rt s) = some (.bl (decide (r = s))) := by
  rw [gEq_data rfl (ok_mono (emb_rt.ok r) (by decide)) (ok_mono (emb_rt.ok s) (by decide)), emb_rt.eq]
theorem sub_ne {x y : Rat} (h : x ≠ y) : x - y ≠ 0 := by grind
theorem cr_inv {a b c d x y z w : Rat} (hx : c * x + d ≠ 0) (hy : c * y + d ≠ 0) (hz : c * z + d ≠ 0) (hw : c * w + d ≠ 0) (hD : a * d - b * c ≠ 0) (h1 : z - y ≠ 0) (h2 : w - y ≠ 0) (h3 : w - x ≠ 0) :
    crR (yR a b c d x) (yR a b c d y) (yR a b c d z) (yR a b c d w) = crR x y z w := by
  have g : ∀ {p q : Rat}, c * p + d ≠ 0 → c * q + d ≠ 0 → yR a b c d p - yR a b c d q = (p - q) * ((a * d - b * c) / ((c * p + d) * (c * q + d))) := by
    intro p q h k
    have e1 := yR_mul (a := a) (b := b) h
    have e2 := yR_mul (a := a) (b := b) k
    have hpq := ne_mul h k
    generalize yR a b c d p = P at *
    generalize yR a b c d q = Q at *
    have : (P - Q) * ((c * p + d) * (c * q + d)) = (p - q) * (a * d - b * c) := by grind
    generalize (c * p + d) * (c * q + d) = E at *
    generalize a * d - b * c = D at *
    grind
  unfold crR
  rw [g hz hx, g hz hy, g hw hx, g hw hy]
  generalize c * x + d = X at *
  generalize c * y + d = Y at *
  generalize c * z + d = Z at *
  generalize c * w + d = W' at *
  generalize a * d - b * c = D at *
  have k1 : ∀ {A B m n : Rat}, n ≠ 0 → B ≠ 0 → (A * m) / (B * n) = A / B * (m / n) := fun hn hB => by
    have := ne_mul hB hn
    grind
  have n1 : D / (Z * Y) ≠ 0 := ne_div hD (ne_mul hz hy)
  have n2 : D / (W' * Y) ≠ 0 := ne_div hD (ne_mul hw hy)
  have n3 : D / (W' * X) ≠ 0 := ne_div hD (ne_mul hw hx)
  rw [k1 n1 h1, k1 n2 h2]
  have e1 : D / (Z * X) / (D / (Z * Y)) = Y / X := by
    have := ne_mul hz hy
    have := ne_mul hz hx
    grind
  have e2 : D / (W' * X) / (D / (W' * Y)) = Y / X := by
    have := ne_mul hw hy
    have := ne_mul hw hx
    grind
  rw [e1, e2, div_can (ne_div hy hx) (ne_div h3 h2)]
theorem yR_ne {a b c d p q : Rat} (h : c * p + d ≠ 0) (k : c * q + d ≠ 0) (hD : a * d - b * c ≠ 0) (hpq : p - q ≠ 0) : yR a b c d p - yR a b c d q ≠ 0 := by
  have e1 := yR_mul (a := a) (b := b) h
  have e2 := yR_mul (a := a) (b := b) k
  have hpq' := ne_mul h k
  generalize yR a b c d p = P at *
  generalize yR a b c d q = Q at *
  have e : (P - Q) * ((c * p + d) * (c * q + d)) = (p - q) * (a * d - b * c) := by grind
  have := ne_mul hpq hD
  intro z
  rw [z] at e
  grind
theorem same_line_ok {x y z w p q r s : Rat} (hx : Sz 60 x) (hy : Sz 60 y) (hz : Sz 60 z) (hw : Sz 60 w) (hp : Sz 60 p) (hq : Sz 60 q) (hr : Sz 60 r) (hs : Sz 60 s)
    (h1 : z - y ≠ 0) (h2 : w - y ≠ 0) (h3 : w - x ≠ 0) (k1 : r - q ≠ 0) (k2 : s - q ≠ 0) (k3 : s - p ≠ 0) :
    F_same_line [.lst false [rt x, rt y, rt z, rt w], .lst false [rt p, rt q, rt r, rt s]] = some (.bl (decide (crR x y z w = crR p q r s)), [.lst false [rt x, rt y, rt z, rt w], .lst false [rt p, rt q, rt r, rt s]]) := by
  apply of_W
  unfold F_same_line
  rw [W_fnD rfl]
  unfold d_same_line
  walk_at "ev"
  rw [W_eq (cross_ok hx hy hz hw (by decide) h1 h2 h3)]
  walk_at "ev"
  rw [W_eq (cross_ok hp hq hr hs (by decide) k1 k2 k3)]
  walk_at "ev"
  rw [gEq_rt]
  walk_at "ev"
theorem rt_val {r : Rat} {p q : Int} (h1 : r.num = p) (h2 : (r.den : Int) = q) : rt r = pr p q := by
  show pr _ _ = pr _ _
  rw [h1, h2]
theorem con1 : F_cross_ratio [pr 0 1, pr 1 1, pr 2 1, pr 3 1] = some (pr 4 3, [pr 0 1, pr 1 1, pr 2 1, pr 3 1]) := by
  have e := cross_ok (x := ((0 : Int) : Rat)) (y := ((1 : Int) : Rat)) (z := ((2 : Int) : Rat)) (w := ((3 : Int) : Rat)) (m := 5) (sz_int (by decide) (by decide)) (sz_int (by decide) (by decide)) (sz_int (by decide) (by decide)) (sz_int (by decide) (by decide)) (by decide) (by decide +kernel) (by decide +kernel) (by decide +kernel)
  rw [rt_int, rt_int, rt_int, rt_int, rt_val (p := 4) (q := 3) (by decide +kernel) (by decide +kernel)] at e
  exact e
theorem con2 : F_cross_ratio [pr 0 1, pr 2 1, pr 1 1, pr 3 1] = some (pr (-1) 3, [pr 0 1, pr 2 1, pr 1 1, pr 3 1]) := by
  have e := cross_ok (x := ((0 : Int) : Rat)) (y := ((2 : Int) : Rat)) (z := ((1 : Int) : Rat)) (w := ((3 : Int) : Rat)) (m := 5) (sz_int (by decide) (by decide)) (sz_int (by decide) (by decide)) (sz_int (by decide) (by decide)) (sz_int (by decide) (by decide)) (by decide) (by decide +kernel) (by decide +kernel) (by decide +kernel)
  rw [rt_int, rt_int, rt_int, rt_int, rt_val (p := -1) (q := 3) (by decide +kernel) (by decide +kernel)] at e
  exact e
theorem con3 : F_view_of [.lst false [pr 0 1, pr 1 1, pr 2 1], .lst false [pr 0 1, pr 1 2, pr 2 3]] = some (.tup [pr 1 1, pr 0 1, pr 1 1, pr 1 1], [.lst false [pr 0 1, pr 1 1, pr 2 1], .lst false [pr 0 1, pr 1 2, pr 2 3]]) := by
  have hv : View 1 0 1 1 := ⟨by decide, by decide, by decide, by decide, by decide, by decide, by decide, by decide, by decide⟩
  have e := view_of_ok (o := false) (o' := false) (a := 1) (b := 0) (c := 1) (d := 1) (h := 1) (rest := [1, 1]) (x := ((0 : Int) : Rat)) (y := ((1 : Int) : Rat)) (z := ((2 : Int) : Rat)) hv (by decide) (by decide +kernel) (by decide +kernel) (by decide +kernel) (by decide +kernel) (by decide +kernel) (by decide +kernel) (sz_int (by decide) (by decide)) (sz_int (by decide) (by decide)) (sz_int (by decide) (by decide))
  simp only [List.map_cons, List.map_nil, toldV] at e
  rw [rt_int, rt_int, rt_int, rt_val (r := yR _ _ _ _ ((0 : Int) : Rat)) (p := 0) (q := 1) (by decide +kernel) (by decide +kernel), rt_val (r := yR _ _ _ _ ((1 : Int) : Rat)) (p := 1) (q := 2) (by decide +kernel) (by decide +kernel), rt_val (r := yR _ _ _ _ ((2 : Int) : Rat)) (p := 2) (q := 3) (by decide +kernel) (by decide +kernel), rt_val (r := ((1 : Int) : Rat) / ((1 : Int) : Rat)) (p := 1) (q := 1) (by decide +kernel) (by decide +kernel), rt_val (r := ((0 : Int) : Rat) / ((1 : Int) : Rat)) (p := 0) (q := 1) (by decide +kernel) (by decide +kernel)] at e
  exact e
abbrev flatD : D := .tup [pr 0 1, pr 1 1, pr 1 2, pr 0 1]
theorem flat_eq : flatD = .tup [rt ((0 : Int) : Rat), rt ((1 : Int) : Rat), rt (((1 : Int) : Rat) / ((2 : Int) : Rat)), rt ((0 : Int) : Rat)] := by
  rw [rt_int, rt_int, rt_val (r := ((1 : Int) : Rat) / ((2 : Int) : Rat)) (p := 1) (q := 2) (by decide +kernel) (by decide +kernel)]
theorem sz_half : Sz 5 (((1 : Int) : Rat) / ((2 : Int) : Rat)) := sz_of (by decide) (by decide) (by decide)
theorem con4 : F_seen_at [flatD, pr 4 1] = some (pr 1 2, [flatD, pr 4 1]) := by
  have e := seen_at_ok (a := ((0 : Int) : Rat)) (b := ((1 : Int) : Rat)) (c := ((1 : Int) : Rat) / ((2 : Int) : Rat)) (d := ((0 : Int) : Rat)) (r := ((4 : Int) : Rat)) (m := 5) (sz_int (by decide) (by decide)) (sz_int (by decide) (by decide)) sz_half (sz_int (by decide) (by decide)) (sz_int (by decide) (by decide)) (by decide)
  rw [← flat_eq, rt_int] at e
  rw [e]
  unfold seenR
  rw [if_neg (by decide +kernel)]
  show some (rt _, _) = _
  rw [rt_val (p := 1) (q := 2) (by decide +kernel) (by decide +kernel)]
theorem con5 : F_seen_at [flatD, pr 0 1] = some (.non, [flatD, pr 0 1]) := by
  have e := seen_at_ok (a := ((0 : Int) : Rat)) (b := ((1 : Int) : Rat)) (c := ((1 : Int) : Rat) / ((2 : Int) : Rat)) (d := ((0 : Int) : Rat)) (r := ((0 : Int) : Rat)) (m := 5) (sz_int (by decide) (by decide)) (sz_int (by decide) (by decide)) sz_half (sz_int (by decide) (by decide)) (sz_int (by decide) (by decide)) (by decide)
  rw [← flat_eq, rt_int] at e
  rw [e]
  unfold seenR
  rw [if_pos (by decide +kernel)]
  rfl
theorem con6 : F_horizon [flatD] = some (pr 0 1, [flatD]) := by
  have e := horizon_ok (a := ((0 : Int) : Rat)) (b := ((1 : Int) : Rat)) (c := ((1 : Int) : Rat) / ((2 : Int) : Rat)) (d := ((0 : Int) : Rat)) (m := 5) (sz_int (by decide) (by decide)) sz_half (by decide)
  rw [← flat_eq] at e
  rw [e, if_neg (by decide +kernel)]
  show some (rt _, _) = _
  rw [rt_val (p := 0) (q := 1) (by decide +kernel) (by decide +kernel)]
theorem con7 : F_worst_bar [.lst false [pr 1 1, pr 1 3, pr 1 5]] = some (.int 0, [.lst false [pr 1 1, pr 1 3, pr 1 5]]) := by
  have e := worst_okF (l := [(1, 1), (1, 3), (1, 5)]) ⟨by decide, by decide, by decide⟩
  rw [show biR (gL [(1, 1), (1, 3), (1, 5)]) [((1 : Int), (1 : Int)), (1, 3), (1, 5)].length = 0 by decide +kernel] at e
  exact e
end Lk62
end
section
set_option Elab.async false
set_option linter.all false
set_option maxRecDepth 100000
set_option maxHeartbeats 4000000
set_option exponentiation.threshold 5000
open PySem Mv Mv.PreA
local macro_rules | `(tactic| walk_at "ev") => `(tactic| try simp only [↓W_bCons, ↓W_bNil, ↓W_bBrk, ↓W_bCnt, ↓W_bExp, ↓W_bRet, ↓W_bRetN, ↓W_bIf, ↓W_bAsg, ↓W_bPar, ↓W_bAug, ↓W_eC, ↓W_eV, ↓W_eM, ↓W_hV, ↓W_hE, ↓W_eFz, ↓W_e1, ↓W_e2, ↓W_aNil, ↓W_aCons, ↓W_eN, ↓W_eTup, ↓W_eLst, ↓W_eCall, ↓W_eMut, ↓W_eMt, ↓W_eIf, ↓W_eAn, ↓W_eOr, ↓W_eNo, ↓W_eJ0, ↓W_eJ1, ↓W_tT, ↓W_tB, ↓W_tNo, ↓W_tAn, ↓W_tOr, ↓W_tAll, ↓W_gNm, ↓W_gsNil, ↓W_gsCons, ↓W_gTp, ↓W_gTpL, ↓W_gIx, ↓W_bFor, ↓W_bWhile, ↓W_iRg1, ↓W_iRg2, ↓W_iSq, ↓W_eLc, ↓W_eSl, ↓W_pN, ↓W_pS, ↓W_iEn, ↓W_iZp, ↓W_iRv, ↓W_iRg3, ↓W_iRgV, ↓W_eCh, ↓W_chIf, ↓W_bind, ↓W_map, ↓W_some, ↓W_none,
  Hd.get, List.getElem?_cons_zero, List.getElem?_cons_succ, List.getD_cons_zero, List.getD_cons_succ, List.set_cons_zero, List.set_cons_succ, List.length_cons, List.length_nil, List.map_cons, List.map_nil, List.replicate, List.cons_append, List.nil_append, Nat.reduceAdd, Nat.reduceSub, Nat.reduceLeDiff, Nat.zero_add,
  D.frz, D.frzL, D.fz, D.fzL, tru_b, tru_i, tru_n, tru_l, tru_t, tru_c, tms, wipeD, unw, lend, unlend, keepL, Option.map_some, Option.bind_some, Bool.and_true, Bool.true_and, Bool.not_true, Bool.not_false, ↓reduceIte, if_true, if_false, Bool.false_eq_true, true_and, and_true, ite_b, ite_nb, vv_fmtI, vv_fmtS, vv_reprI, vv_reprS, vv_addS, vv_augI, vv_augS, vv_lenS, vv_eqS, vv_neS, vv_addL, vv_addT,
  vv_add, vv_sub, vv_mul, vv_div, vv_mod, vv_pow, vv_shl, vv_shr, vv_neg, vv_lt, vv_le, vv_gt, vv_ge, vv_int, vv_intS, vv_intb, vv_abs, vv_gcd, vv_max2, vv_min2, vv_lenL, vv_lenC, vv_lenT, vv_idxL, vv_idxC, vv_idxT, vv_eqI, vv_eqB, vv_neI, vv_list, vv_listT, vv_tuple, vv_tupleT, vv_sum, vv_slL, vv_slS, vv_slT, vv_range, vv_index, vv_count, isL_l, isL_c, lenL_l, lenL_c, kindL, vv_maxL, vv_minL, vv_strI, vv_app, vv_isNN, vv_isIN, vv_isSN, vv_isBN, vv_isLN, vv_isTN, vv_isBB, vv_isNB, vv_isIB, vv_isSB, vv_isLB, vv_isTB, vv_inNN, vv_inIN, vv_inSN, vv_inBN, vv_inLN, vv_inTN, vv_inBB, atF0, atF1, atF2, atF3, atF4, atF5, okI, okB, okS, okN, okL, ix0, ix1, ix2, frzL_int, fzL_int, intsD_map, isiI_int, isiI_str, isiI_bool, isiI_list, isiI_tuple, isiS_int, isiS_str, isiS_bool, isiS_list, isiS_tuple, isiB_int, isiB_str, isiB_bool, isiB_list, isiB_tuple, isiL_int, isiL_str, isiL_bool, isiL_list, isiL_tuple, isiT_int, isiT_str, isiT_bool, isiT_list, isiT_tuple, isiN_int, isiN_str, isiN_bool, isiN_list, isiN_tuple])
local macro_rules | `(tactic| walk_at "mu") => `(tactic| repeat (first | (rw [W_ok (MulOk.right (by omega))]; walk_at "ev") | (rw [W_ok (MulOk.left (by omega))]; walk_at "ev") | (rw [W_ok (divok (by omega) (by omega))]; walk_at "ev") | (rw [W_ok (by omega)]; walk_at "ev")))
namespace Lk62
theorem nodup4 {x y z w : Rat} (h : [x, y, z, w].Nodup) : z - y ≠ 0 ∧ w - y ≠ 0 ∧ w - x ≠ 0 ∧ y - x ≠ 0 ∧ z - x ≠ 0 ∧ w - z ≠ 0 := by
  simp only [List.nodup_cons, List.mem_cons, List.not_mem_nil, or_false, not_or] at h
  obtain ⟨⟨a1, a2, a3⟩, ⟨b1, b2⟩, c1, _⟩ := h
  exact ⟨sub_ne fun e => b1 e.symm, sub_ne fun e => b2 e.symm, sub_ne fun e => a3 e.symm, sub_ne fun e => a1 e.symm, sub_ne fun e => a2 e.symm, sub_ne fun e => c1 e.symm⟩
theorem count_nodup (l : List Rat) : (l.filter fun r => decide (1 < l.count r)) = [] ↔ l.Nodup := by
  rw [List.filter_eq_nil_iff, List.nodup_iff_count]
  constructor
  · intro h r
    by_cases hr : r ∈ l
    · have := h r hr
      simpa using this
    · rw [List.count_eq_zero.mpr hr]; omega
  · intro h r _
    have := h r
    simpa using this
abbrev pL (l : List Rat) : D := .lst false (l.map rt)
theorem frz_pL (ps : List (List Rat)) : D.frzL (ps.map pL) = true := frzL_of fun d hd => by
  obtain ⟨l, _, rfl⟩ := List.mem_map.mp hd
  rfl
theorem four_rat {l : List Rat} (h : l.length = 4) : ∃ a b c d, l = [a, b, c, d] := by
  match l, h with
  | [a, b, c, d], _ => exact ⟨a, b, c, d, rfl⟩
theorem four_at {x y z w : Rat} {k : Nat} (hk : k < 4) : ∃ q ∈ [x, y, z, w], atF ([x, y, z, w].map rt) (k : Int) = some (rt q) := by
  match k, hk with
  | 0, _ => exact ⟨x, by simp, rfl⟩
  | 1, _ => exact ⟨y, by simp, rfl⟩
  | 2, _ => exact ⟨z, by simp, rfl⟩
  | 3, _ => exact ⟨w, by simp, rfl⟩
theorem ixN_nat {n k : Nat} (h : k < n) : L2.ixN n (k : Int) = some k := by
  unfold L2.ixN
  rw [if_pos (by omega), if_pos (by omega)]
  rfl
theorem law_true (ns : List Int) (hns : ns.length ≤ 63) : ∃ bs, F_law [.cst (ns.map D.int)] = some (.bl true, bs) := by
  have key : W (F_law [.cst (ns.map D.int)]) fun r => r.1 = .bl true := by
    unfold F_law
    rw [W_fnD rfl]
    unfold d_law
    walk_at "ev"
    obtain ⟨ds, h0, _, e⟩ := digits_ex (ns := ns) (a := 0) (b := 16) hns (by omega) (by omega) (by omega)
    rw [W_eq e]
    walk_at "ev"
    rw [W_ok (by omega)]
    refine W_range (lo := 0) (fun k ρ => ∃ (n : Int) (x2 x3 x4 x5 x6 x7 x8 x9 x10 x11 x12 x13 x14 x15 x16 x17 x18 x19 x20 x21 : D), ρ = [.cst (ns.map D.int), bx ds n, x2, x3, x4, x5, x6, x7, x8, x9, x10, x11, x12, x13, x14, x15, x16, x17, x18, x19, x20, x21, .any] ∧ 0 ≤ n) ⟨0, _, _, _, _, _, _, _, _, _, _, _, _, _, _, _, _, _, _, _, _, rfl, by omega⟩ ?_ ?_
    · rintro k ρ hk ⟨n, x2, x3, x4, x5, x6, x7, x8, x9, x10, x11, x12, x13, x14, x15, x16, x17, x18, x19, x20, x21, rfl, hn⟩
      walk_at "ev"
      refine W_mono (view_ex (ds := ds) (n := n) h0 hn) ?_
      rintro r ⟨a, b, c, d, n1, rfl, hv, hn1⟩
      obtain ⟨v1, v2, v3, v4⟩ := view_n hv
      walk_at "ev"
      refine W_mono (places_ex (ds := ds) (n := n1) h0 (by omega) hv) ?_
      rintro r ⟨l, n2, rfl, hl, hp, hn2⟩
      obtain ⟨x, y, z, w, rfl⟩ := four_rat hl
      obtain ⟨qx, sx, _⟩ := hp.ok x (by simp)
      obtain ⟨qy, sy, _⟩ := hp.ok y (by simp)
      obtain ⟨qz, sz, _⟩ := hp.ok z (by simp)
      obtain ⟨qw, sw, _⟩ := hp.ok w (by simp)
      obtain ⟨m1, m2, m3, m4, m5, m6⟩ := nodup4 hp.nd
      have hD := view_rat hv
      walk_at "ev"
      refine W_compM rt [x, y, z, w] (fun _ => true) (fun r => rt (yR a b c d r)) (by show 4 ≤ _; decide) ?_ ?_ ?_
      · intro j
        exact itK_lst rfl rfl j
      · intro r hr
        obtain ⟨q, sr, _⟩ := hp.ok r hr
        walk_at "ev"
        rw [W_eq (law_seen_ok (by omega) (by omega) (by omega) (by omega) (sr.mono (by decide)))]
        unfold seenR
        rw [if_neg q]
        walk_at "ev"
        rfl
      rw [List.filter_eq_self.mpr (fun _ _ => rfl)]
      walk_at "ev"
      obtain ⟨h, rest, hh, hh0, hmem⟩ := head_ex hv
      have h4 := all_view hv h hmem
      refine W_compM D.int [a, b, c, d] (fun x => decide (x ≠ 0)) D.int (by show 4 ≤ _; decide) ?_ ?_ ?_
      · intro j
        exact itK_tup rfl rfl j
      · intro r hr
        walk_at "ev"
        refine ⟨by simp, by split <;> trivial⟩
      rw [hh]
      walk_at "ev"
      refine W_compM D.int [a, b, c, d] (fun _ => true) (fun x => rt ((x : Rat) / (h : Rat))) (by show 4 ≤ _; decide) ?_ ?_ ?_
      · intro j
        exact itK_tup rfl rfl j
      · intro r hr
        walk_at "ev"
        rw [eq_part, W_eq (PreB.part_rt hh0 (by omega))]
        walk_at "ev"
        try rfl
      rw [List.filter_eq_self.mpr (fun _ _ => rfl)]
      walk_at "ev"
      have sX : Sz 24 (yR a b c d x) := sz_y hv sx qx
      have sY : Sz 24 (yR a b c d y) := sz_y hv sy qy
      have sZ : Sz 24 (yR a b c d z) := sz_y hv sz qz
      have sW : Sz 24 (yR a b c d w) := sz_y hv sw qw
      rw [show cutD [rt x, rt y, rt z, rt w] none (some 3) = [rt x, rt y, rt z] from rfl, show cutD [rt (yR a b c d x), rt (yR a b c d y), rt (yR a b c d z), rt (yR a b c d w)] none (some 3) = [rt (yR a b c d x), rt (yR a b c d y), rt (yR a b c d z)] from rfl]
      have eV : F_view_of [.lst true [rt x, rt y, rt z], .lst true [rt (yR a b c d x), rt (yR a b c d y), rt (yR a b c d z)]] = some (toldV a b c d h, [.lst true [rt x, rt y, rt z], .lst true [rt (yR a b c d x), rt (yR a b c d y), rt (yR a b c d z)]]) := view_of_ok hv hh qx qy qz m4 m5 m1 sx sy sz
      rw [W_eq eV]
      walk_at "ev"
      have smV : Sm 8 (toldV a b c d h) (toldV a b c d h) := sm_tup [a, b, c, d] (fun x : Int => rt ((x : Rat) / (h : Rat))) (by show 4 < _; decide) fun x hx => by
        have hx4 := all_view hv x hx
        exact ⟨sm_rt ((sz_view hx4.1 hx4.2).div (sz_view h4.1 h4.2) (cast_ne hh0)) (by decide), rfl⟩
      rw [W_eq (same_ex _ _ smV)]
      walk_at "ev"
      rw [show cutD [rt x, rt y, rt z, rt w] none (some 3) = [rt x, rt y, rt z] from rfl]
      rw [show gNe (.lst true [rt x, rt y, rt z]) (.lst true [rt x, rt y, rt z]) = some (.bl false) from gNe_same (ok_mono (emb_lok emb_rt [x, y, z]) (by decide))]
      walk_at "ev"
      rw [show cutD [rt (yR a b c d x), rt (yR a b c d y), rt (yR a b c d z), rt (yR a b c d w)] none (some 3) = [rt (yR a b c d x), rt (yR a b c d y), rt (yR a b c d z)] from rfl]
      rw [show gNe (.lst true [rt (yR a b c d x), rt (yR a b c d y), rt (yR a b c d z)]) (.lst true [rt (yR a b c d x), rt (yR a b c d y), rt (yR a b c d z)]) = some (.bl false) from gNe_same (ok_mono (emb_lok emb_rt [yR a b c d x, yR a b c d y, yR a b c d z]) (by decide))]
      walk_at "ev"
      refine W_mono (looks_ok (ds := ds) (n := n2) h0 (by omega) hv hh0 h4) ?_
      rintro r ⟨n3, rfl, hn3⟩
      walk_at "ev"
      rw [W_eq (cross_ok sx sy sz sw (by decide) m1 m2 m3)]
      walk_at "ev"
      rw [W_eq (law_cross_ok sx sy sz sw (by decide) m1 m2 m3)]
      have sC : Sz 44 (crR x y z w) := (((sz.sub sx).div (sz.sub sy) m1).div ((sw.sub sx).div (sw.sub sy) m2) (ne_div m3 m2)).mono (by decide)
      have smC : Sm 8 (rt (crR x y z w)) (rt (crR x y z w)) := sm_rt sC (by decide)
      walk_at "ev"
      rw [W_eq (same_ex _ _ smC)]
      walk_at "ev"
      have M1 := yR_ne qz qy hD m1
      have M2 := yR_ne qw qy hD m2
      have M3 := yR_ne qw qx hD m3
      rw [W_eq (cross_ok sX sY sZ sW (by decide) M1 M2 M3), cr_inv qx qy qz qw hD m1 m2 m3]
      walk_at "ev"
      rw [okT]
      walk_at "ev"
      rw [okT]
      walk_at "ev"
      rw [okT]
      walk_at "ev"
      rw [okT]
      walk_at "ev"
      rw [W_eq (law_cross_ok sx sy sz sw (by decide) m1 m2 m3)]
      walk_at "ev"
      rw [W_eq (same_ex _ _ smC)]
      walk_at "ev"
      generalize yR a b c d x = X at *
      generalize yR a b c d y = Y at *
      generalize yR a b c d z = Z at *
      generalize yR a b c d w = V at *
      obtain ⟨at', e, a1, a2⟩ := draw_ex (ds := ds) (n := n3) (m := 4) h0 (by omega) (by omega)
      rw [W_eq e]
      obtain ⟨at', rfl⟩ := Int.eq_ofNat_of_zero_le a1
      walk_at "ev"
      obtain ⟨q, hq, eat⟩ := four_at (x := X) (y := Y) (z := Z) (w := V) (k := at') (by omega)
      have eat' : atF [rt X, rt Y, rt Z, rt V] (at' : Int) = some (rt q) := eat
      have sq : Sz 24 q := by
        simp only [List.mem_cons, List.not_mem_nil, or_false] at hq
        rcases hq with rfl | rfl | rfl | rfl <;> assumption
      have q1 := sq.1
      have q2 := sq.den
      rw [eat']
      walk_at "ev"
      obtain ⟨de, e, de1, de2⟩ := draw_ex (ds := ds) (n := n3 + 1) (m := 2) h0 (by omega) (by omega)
      rw [W_eq e]
      walk_at "ev"
      rw [eat']
      walk_at "ev"
      rw [W_ok (MulOk.left (by omega))]
      walk_at "ev"
      have t1 := mul_sz (show (1 + de).natAbs < 2 ^ 2 by omega) q2
      have t2 := add_sz (up_sz q1 (show 24 ≤ 2 + 24 by decide)) t1
      rw [eq_part, W_eq (PreB.part_rt (den_ne q) (up_sz q2 (by decide)))]
      have smv : Sz 27 (((q.num + (1 + de) * (q.den : Int) : Int) : Rat) / (((q.den : Int)) : Rat)) := sz_of (den_ne q) t2 (up_sz q2 (by decide))
      generalize ((q.num + (1 + de) * (q.den : Int) : Int) : Rat) / (((q.den : Int)) : Rat) = mv at *
      walk_at "ev"
      rw [W_eq (ixN_nat (n := 4) (k := at') (by omega))]
      walk_at "ev"
      have eset : [rt X, rt Y, rt Z, rt V].set at' (rt mv) = ([X, Y, Z, V].set at' mv).map rt := by rw [List.map_set]; rfl
      rw [eset]
      obtain ⟨p0, p1, p2, p3, epL⟩ := four_rat (l := [X, Y, Z, V].set at' mv) (by rw [List.length_set]; rfl)
      have sP : ∀ r ∈ [p0, p1, p2, p3], Sz 30 r := by
        rw [← epL]
        intro r hr
        rcases List.mem_or_eq_of_mem_set hr with hr | hr
        · simp only [List.mem_cons, List.not_mem_nil, or_false] at hr
          rcases hr with rfl | rfl | rfl | rfl
          · exact sX.mono (by decide)
          · exact sY.mono (by decide)
          · exact sZ.mono (by decide)
          · exact sW.mono (by decide)
        · rw [hr]; exact smv.mono (by decide)
      rw [epL]
      refine W_compM D.int [1, 0, 3, 2] (fun _ => true) (fun i => rt (([X, Y, Z, V] : List Rat).getD i.toNat 0)) (by decide) ?_ ?_ ?_
      · intro j
        exact itK_tm rfl j
      · intro i hi
        simp only [List.mem_cons, List.not_mem_nil, or_false] at hi
        rcases hi with rfl | rfl | rfl | rfl
        all_goals
          walk_at "ev"
          rw [okT]
          walk_at "ev"
          try rfl
      rw [List.filter_eq_self.mpr (fun _ _ => rfl)]
      walk_at "ev"
      refine W_compM D.int [1, 0, 2, 3] (fun _ => true) (fun i => rt (([X, Y, Z, V] : List Rat).getD i.toNat 0)) (by decide) ?_ ?_ ?_
      · intro j
        exact itK_tm rfl j
      · intro i hi
        simp only [List.mem_cons, List.not_mem_nil, or_false] at hi
        rcases hi with rfl | rfl | rfl | rfl
        all_goals
          walk_at "ev"
          rw [okT]
          walk_at "ev"
          try rfl
      rw [List.filter_eq_self.mpr (fun _ _ => rfl)]
      walk_at "ev"
      refine W_mono (places_ex (ds := ds) (n := n3 + 1 + 1) h0 (by omega) hv) ?_
      rintro r ⟨l5, n5, rfl, hl5, hp5, hn5⟩
      obtain ⟨r0, r1, r2, r3, rfl⟩ := four_rat hl5
      walk_at "ev"
      have sR : ∀ r ∈ [r0, r1, r2, r3], Sz 30 r := fun r hr => ((hp5.ok r hr).2.1).mono (by decide)
      have allP : ∀ p ∈ [[X, Y, Z, V], [p0, p1, p2, p3], [Y, X, V, Z], [Y, X, Z, V], [r0, r1, r2, r3]], p.length = 4 ∧ ∀ r ∈ p, Sz 30 r := by
        intro p hp
        simp only [List.mem_cons, List.not_mem_nil, or_false] at hp
        rcases hp with rfl | rfl | rfl | rfl | rfl
        · refine ⟨rfl, fun r hr => ?_⟩
          simp only [List.mem_cons, List.not_mem_nil, or_false] at hr
          rcases hr with rfl | rfl | rfl | rfl <;> exact Sz.mono (by assumption) (show 24 ≤ 30 by decide)
        · exact ⟨rfl, sP⟩
        · refine ⟨rfl, fun r hr => ?_⟩
          simp only [List.mem_cons, List.not_mem_nil, or_false] at hr
          rcases hr with rfl | rfl | rfl | rfl <;> exact Sz.mono (by assumption) (show 24 ≤ 30 by decide)
        · refine ⟨rfl, fun r hr => ?_⟩
          simp only [List.mem_cons, List.not_mem_nil, or_false] at hr
          rcases hr with rfl | rfl | rfl | rfl <;> exact Sz.mono (by assumption) (show 24 ≤ 30 by decide)
        · exact ⟨rfl, sR⟩
      refine W_list (ds := [[X, Y, Z, V], [p0, p1, p2, p3], [Y, X, V, Z], [Y, X, Z, V], [r0, r1, r2, r3]].map pL) (fun j ρ => ∃ x20 x21, ρ = [.cst (ns.map D.int), bx ds n5, .int (0 + (k : Int)), .tup [.int a, .int b, .int c, .int d], .lst false [rt x, rt y, rt z, rt w], .lst false [rt X, rt Y, rt Z, rt V], x6, .int h, x8, toldV a b c d h, .lst true [rt x, rt y, rt z], .lst true [rt X, rt Y, rt Z], rt X, rt Y, rt Z, rt V, .int (at' : Nat), .lst false [rt p0, rt p1, rt p2, rt p3], .lst false [rt Y, rt X, rt V, rt Z], x19, x20, x21, .any]) ⟨_, _, rfl⟩ ?_ ?_ ?_
      · rintro j ρ ⟨x20, x21, rfl⟩
        exact itK_tm rfl j
      · rintro j dd ρ hd ⟨x20, x21, rfl⟩
        obtain ⟨p, hpm, rfl⟩ := List.mem_map.mp (List.mem_of_getElem? hd)
        obtain ⟨hp4, hps⟩ := allP p hpm
        walk_at "ev"
        refine W_compM rt p (fun r => decide (1 < p.count r)) (fun _ => .int 1) (by omega) ?_ ?_ ?_
        · intro j
          exact itK_lst rfl (frz_rts p) j
        · intro r hr
          walk_at "ev"
          rw [gCnt_map emb_rt]
          walk_at "ev"
          refine ⟨decide_eq_decide.mpr (by omega), by split <;> trivial⟩
        walk_at "ev"
        rw [List.length_map]
        by_cases hnd : p.Nodup
        · rw [(count_nodup p).mpr hnd]
          obtain ⟨u0, u1, u2, u3, rfl⟩ := four_rat hp4
          obtain ⟨g1, g2, g3, _⟩ := nodup4 hnd
          have su0 := hps u0 (by simp)
          have su1 := hps u1 (by simp)
          have su2 := hps u2 (by simp)
          have su3 := hps u3 (by simp)
          rw [if_pos (by rfl)]
          walk_at "ev"
          rw [okT, W_some, okT, W_some, okT, W_some, okT, W_some]
          rw [W_eq (law_cross_ok su0 su1 su2 su3 (by decide) g1 g2 g3)]
          walk_at "ev"
          rw [okT, W_some, okT, W_some, okT, W_some, okT, W_some]
          rw [W_eq (law_cross_ok sx sy sz sw (by decide) m1 m2 m3)]
          walk_at "ev"
          rw [gEq_rt]
          walk_at "ev"
          rw [W_eq (same_line_ok (sx.mono (by decide)) (sy.mono (by decide)) (sz.mono (by decide)) (sw.mono (by decide)) (su0.mono (by decide)) (su1.mono (by decide)) (su2.mono (by decide)) (su3.mono (by decide)) m1 m2 m3 g1 g2 g3)]
          walk_at "ev"
          rw [W_eq (same_ex _ _ (sm_bl (decide_eq_decide.mpr eq_comm)))]
          walk_at "ev"
          exact ⟨_, _, rfl⟩
        · rw [if_neg (by
            intro hz
            exact hnd ((count_nodup p).mp (List.eq_nil_of_length_eq_zero (by omega))))]
          walk_at "ev"
          exact ⟨_, _, rfl⟩
      · rintro ρ ⟨x20, x21, rfl⟩
        walk_at "ev"
        refine W_mono (lengths_ok (ds := ds) (n := n5) h0 (by omega)) ?_
        rintro r ⟨n6, rfl, hn6⟩
        walk_at "ev"
        exact ⟨n6, _, _, _, _, _, _, _, _, _, _, _, _, _, _, _, _, _, _, _, _, rfl, by omega⟩
    · rintro ρ ⟨n, x2, x3, x4, x5, x6, x7, x8, x9, x10, x11, x12, x13, x14, x15, x16, x17, x18, x19, x20, x21, rfl, hn⟩
      walk_at "ev"
      rw [W_eq con1]
      walk_at "ev"
      rw [W_eq (same_ex _ _ (sm_t2 (sm_int (by decide)) (sm_int (by decide)) ⟨rfl, rfl⟩ ⟨rfl, rfl⟩))]
      walk_at "ev"
      rw [W_eq con2]
      walk_at "ev"
      rw [W_eq (same_ex _ _ (sm_t2 (sm_int (by decide)) (sm_int (by decide)) ⟨rfl, rfl⟩ ⟨rfl, rfl⟩))]
      walk_at "ev"
      rw [W_eq con3]
      walk_at "ev"
      have smF : Sm 8 (.tup [pr 1 1, pr 0 1, pr 1 1, pr 1 1]) (.tup [pr 1 1, pr 0 1, pr 1 1, pr 1 1]) := sm_tup [((1 : Int), (1 : Int)), (0, 1), (1, 1), (1, 1)] (fun e : Int × Int => pr e.1 e.2) (by decide) fun e he => by
        simp only [List.mem_cons, List.not_mem_nil, or_false] at he
        rcases he with rfl | rfl | rfl | rfl <;> exact ⟨sm_t2 (sm_int (by decide)) (sm_int (by decide)) ⟨rfl, rfl⟩ ⟨rfl, rfl⟩, rfl⟩
      rw [W_eq (same_ex _ _ smF)]
      walk_at "ev"
      rw [W_eq con4]
      walk_at "ev"
      rw [W_eq (same_ex _ _ (sm_t2 (sm_int (by decide)) (sm_int (by decide)) ⟨rfl, rfl⟩ ⟨rfl, rfl⟩))]
      walk_at "ev"
      rw [W_eq con5]
      walk_at "ev"
      rw [W_eq con6]
      walk_at "ev"
      rw [W_eq (same_ex _ _ (sm_t2 (sm_int (by decide)) (sm_int (by decide)) ⟨rfl, rfl⟩ ⟨rfl, rfl⟩))]
      walk_at "ev"
      rw [W_eq con7]
      walk_at "ev"
      rw [W_eq (same_ex _ _ (sm_int (by decide)))]
      walk_at "ev"
  obtain ⟨⟨d, bs⟩, e, rfl⟩ := key
  exact ⟨bs, e⟩
end Lk62
end
section
set_option Elab.async false
set_option linter.all false
set_option maxRecDepth 100000
set_option maxHeartbeats 4000000
open PySem PySem.W PyProof.Rows
set_option maxHeartbeats 0 in
theorem PySem.Challenge.cw_museumlands_k62_whole_views_and_lengths_holds : PySem.Challenge.rw_museumlands_k62_whole_views_and_lengths.Holds := by
  w_on; o_law; k_head; (case hw => w_witness2)
  k_fill
  refine L2.walk_of (l := PySem.Challenge.rw_museumlands_k62_whole_views_and_lengths) (n := 63) (k := 10) (x := "script") (CX := fun _ => L2.CX0) (sp := fun w => Mv.spL _) rfl (by decide) rfl ⟨rfl, by decide, by decide⟩ (fun w h Y => PySem.W.kIn_of Y) ?F (fun _ _ a ns hl _ hS => ⟨a, ns, rfl, hS, hl, fun _ => rfl⟩) (fun _ _ _ _ _ h => h)
  case F =>
    intro w mg fa h KX G hmg
    refine' Lk62.all_mk KX G hmg Lk62.law_true ?a0 ?l0 ?c0 ?k0 ?a1 ?l1 ?c1 ?k1 ?a2 ?l2 ?c2 ?k2 ?a3 ?l3 ?c3 ?k3 ?a4 ?l4 ?c4 ?k4 ?a5 ?l5 ?c5 ?k5 ?a6 ?l6 ?c6 ?k6 ?a7 ?l7 ?c7 ?k7 ?a8 ?l8 ?c8 ?k8 ?a9 ?l9 ?c9 ?k9 ?a10 ?l10 ?c10 ?k10 ?a11 ?l11 ?c11 ?k11 ?a12 ?l12 ?c12 ?k12 ?a13 ?l13 ?c13 ?k13 ?a14 ?l14 ?c14 ?k14 ?a15 ?l15 ?c15 ?k15 ?a16 ?l16 ?c16 ?k16 ?a17 ?l17 ?c17 ?k17 ?a18 ?l18 ?c18 ?k18 ?a19 ?l19 ?c19 ?k19 ?a20 ?l20 ?c20 ?k20 ?a21 ?l21 ?c21 ?k21 ?a22 ?l22 ?c22 ?k22 ?a23 ?l23 ?c23 ?k23 ?a24 ?l24 ?c24 ?k24 ?a25 ?l25 ?c25 ?k25 ?a26 ?l26 ?c26 ?k26 ?a27 ?l27 ?c27 ?k27 ?a28 ?l28 ?c28 ?k28 ?a29 ?l29 ?c29 ?k29 ?a30 ?l30 ?c30 ?k30 ?a31 ?l31 ?c31 ?k31 ?a32 ?l32 ?c32 ?k32 ?a33 ?l33 ?c33 ?k33 ?a34 ?l34 ?c34 ?k34 ?a35 ?l35 ?c35 ?k35 ?a36 ?l36 ?c36 ?k36 ?a37 ?l37 ?c37 ?k37 ?z_abs ?z_bool ?z_enumerate ?z_int ?z_isinstance ?z_len ?z_list ?z_range ?z_repr ?z_str ?z_sum ?z_tuple ?z_zip ?z_gcd
    (case a0 => k_is); (case l0 => k_is); (case c0 => k_is); (case k0 => k_is); (case a1 => k_is); (case l1 => k_is); (case c1 => k_is); (case k1 => k_is)
    (case a2 => k_is); (case l2 => k_is); (case c2 => k_is); (case k2 => k_is); (case a3 => k_is); (case l3 => k_is); (case c3 => k_is); (case k3 => k_is)
    (case a4 => k_is); (case l4 => k_is); (case c4 => k_is); (case k4 => k_is); (case a5 => k_is); (case l5 => k_is); (case c5 => k_is); (case k5 => k_is)
    (case a6 => k_is); (case l6 => k_is); (case c6 => k_is); (case k6 => k_is); (case a7 => k_is); (case l7 => k_is); (case c7 => k_is); (case k7 => k_is)
    (case a8 => k_is); (case l8 => k_is); (case c8 => k_is); (case k8 => k_is); (case a9 => k_is); (case l9 => k_is); (case c9 => k_is); (case k9 => k_is)
    (case a10 => k_is); (case l10 => k_is); (case c10 => k_is); (case k10 => k_is); (case a11 => k_is); (case l11 => k_is); (case c11 => k_is); (case k11 => k_is)
    (case a12 => k_is); (case l12 => k_is); (case c12 => k_is); (case k12 => k_is); (case a13 => k_is); (case l13 => k_is); (case c13 => k_is); (case k13 => k_is)
    (case a14 => k_is); (case l14 => k_is); (case c14 => k_is); (case k14 => k_is); (case a15 => k_is); (case l15 => k_is); (case c15 => k_is); (case k15 => k_is)
    (case a16 => k_is); (case l16 => k_is); (case c16 => k_is); (case k16 => k_is); (case a17 => k_is); (case l17 => k_is); (case c17 => k_is); (case k17 => k_is)
    (case a18 => k_is); (case l18 => k_is); (case c18 => k_is); (case k18 => k_is); (case a19 => k_is); (case l19 => k_is); (case c19 => k_is); (case k19 => k_is)
    (case a20 => k_is); (case l20 => k_is); (case c20 => k_is); (case k20 => k_is); (case a21 => k_is); (case l21 => k_is); (case c21 => k_is); (case k21 => k_is)
    (case a22 => k_is); (case l22 => k_is); (case c22 => k_is); (case k22 => k_is); (case a23 => k_is); (case l23 => k_is); (case c23 => k_is); (case k23 => k_is)
    (case a24 => k_is); (case l24 => k_is); (case c24 => k_is); (case k24 => k_is); (case a25 => k_is); (case l25 => k_is); (case c25 => k_is); (case k25 => k_is)
    (case a26 => k_is); (case l26 => k_is); (case c26 => k_is); (case k26 => k_is); (case a27 => k_is); (case l27 => k_is); (case c27 => k_is); (case k27 => k_is)
    (case a28 => k_is); (case l28 => k_is); (case c28 => k_is); (case k28 => k_is); (case a29 => k_is); (case l29 => k_is); (case c29 => k_is); (case k29 => k_is)
    (case a30 => k_is); (case l30 => k_is); (case c30 => k_is); (case k30 => k_is); (case a31 => k_is); (case l31 => k_is); (case c31 => k_is); (case k31 => k_is)
    (case a32 => k_is); (case l32 => k_is); (case c32 => k_is); (case k32 => k_is); (case a33 => k_is); (case l33 => k_is); (case c33 => k_is); (case k33 => k_is)
    (case a34 => k_is); (case l34 => k_is); (case c34 => k_is); (case k34 => k_is); (case a35 => k_is); (case l35 => k_is); (case c35 => k_is); (case k35 => k_is)
    (case a36 => k_is); (case l36 => k_is); (case c36 => k_is); (case k36 => k_is); (case a37 => k_is); (case l37 => k_is); (case c37 => k_is); (case k37 => k_is)
    (case z_abs => k_is); (case z_bool => k_is); (case z_enumerate => k_is); (case z_int => k_is); (case z_isinstance => k_is); (case z_len => k_is); (case z_list => k_is); (case z_range => k_is)
    (case z_repr => k_is); (case z_str => k_is); (case z_sum => k_is); (case z_tuple => k_is); (case z_zip => k_is); (case z_gcd => k_is)
end
