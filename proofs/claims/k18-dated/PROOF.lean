import PyProof.Rows.All
import Wide.All
import OpenK.AllK
import Wide.FinOn
import HandS.ForMost
import HandS.Flow
import HandS.NoneIn
import HandS.TupAny
import HandS.Gcd
import HandS.Wide
import HandS.Style
import HandS.IsInst
import HandS.RaiseMore
import HandS.FStr
import HandS.Text
import HandS.SetFor
import HandS.Sort
import PyProof.StrLawsRepr
import HandS.Deep
import PySem.Challenge.RW_museumlands_k18_whole_samples_dated_and
section
set_option Elab.async false
set_option linter.all false
set_option maxRecDepth 100000
/-! Values as data: what a reader of the program needs, with lists that are owned (may be changed) or frozen. -/
namespace Mv
open PySem PySem.Spec PyProof.Rows L2

inductive D where
  | any | non
  | bl (b : Bool) | int (i : Int) | str (x : Str)
  | lst (o : Bool) (xs : List D)
  | tup (xs : List D)
  | cst (xs : List D)
  | rng (lo hi : Int)
  | ty (n : String)

abbrev Frg := PySem.W.Frag

mutual
def D.frz : D → Bool
  | .lst o _ => !o
  | .tup xs => D.frzL xs
  | .cst _ => true
  | .rng _ _ => true
  | .any => true
  | .non => true
  | .bl _ => true
  | .int _ => true
  | .str _ => true
  | .ty _ => true
def D.frzL : List D → Bool
  | [] => true
  | d :: ds => D.frz d && D.frzL ds
end
mutual
def D.fz : D → D
  | .lst _ xs => .lst false (D.fzL xs)
  | .tup xs => .tup (D.fzL xs)
  | .cst xs => .cst (D.fzL xs)
  | .rng a b => .rng a b
  | .any => .any
  | .non => .non
  | .bl b => .bl b
  | .int i => .int i
  | .str x => .str x
  | .ty n => .ty n
def D.fzL : List D → List D
  | [] => []
  | d :: ds => D.fz d :: D.fzL ds
end
theorem D.fzL_map : ∀ ds : List D, D.fzL ds = ds.map D.fz
  | [] => rfl
  | d :: ds => by rw [D.fzL, D.fzL_map ds]; rfl
theorem D.frzL_all : ∀ ds : List D, D.frzL ds = ds.all D.frz
  | [] => rfl
  | d :: ds => by rw [D.frzL, D.frzL_all ds]; rfl
mutual
theorem D.frz_fz : ∀ d : D, d.fz.frz = true
  | .lst _ xs => rfl
  | .tup xs => by show D.frzL (D.fzL xs) = true; exact D.frz_fzL xs
  | .cst xs => rfl
  | .rng _ _ => rfl
  | .any => rfl
  | .non => rfl
  | .bl _ => rfl
  | .int _ => rfl
  | .str _ => rfl
  | .ty _ => rfl
theorem D.frz_fzL : ∀ ds : List D, D.frzL (D.fzL ds) = true
  | [] => rfl
  | d :: ds => by show (d.fz.frz && D.frzL (D.fzL ds)) = true; rw [D.frz_fz d, D.frz_fzL ds]; rfl
end
/-! ### what a value is, read in a heap -/
mutual
def Fz (K : Frg) (G : Hp) : D → V → Prop
  | .any, _ => True
  | .non, v => v = .non
  | .bl b, v => v = .bl b
  | .int i, v => v = .int i
  | .str x, v => v = .str x
  | .ty n, v => v = .ty n
  | .lst _ ds, v => ∃ a xs, v = .ref a ∧ G a = some (.lst xs) ∧ FzL K G ds xs
  | .tup ds, v => ∃ a xs, v = .ref a ∧ SqT K G a xs ∧ FzL K G ds xs
  | .cst ds, v => ∃ a xs, v = .ref a ∧ SqL K G a xs ∧ FzL K G ds xs
  | .rng lo hi, v => ∃ a, v = .ref a ∧ G a = some (.rng lo hi)
def FzL (K : Frg) (G : Hp) : List D → List V → Prop
  | [], xs => xs = []
  | d :: ds, xs => ∃ x r, xs = x :: r ∧ Fz K G d x ∧ FzL K G ds r
end
mutual
def Ow (K : Frg) (G H : Hp) : D → V → List Addr → Prop
  | .any, _, fp => fp = []
  | .non, v, fp => v = .non ∧ fp = []
  | .bl b, v, fp => v = .bl b ∧ fp = []
  | .int i, v, fp => v = .int i ∧ fp = []
  | .str x, v, fp => v = .str x ∧ fp = []
  | .ty n, v, fp => v = .ty n ∧ fp = []
  | .lst false ds, v, fp => (∃ a xs, v = .ref a ∧ G a = some (.lst xs) ∧ FzL K G ds xs) ∧ fp = []
  | .cst ds, v, fp => (∃ a xs, v = .ref a ∧ SqL K G a xs ∧ FzL K G ds xs) ∧ fp = []
  | .rng lo hi, v, fp => (∃ a, v = .ref a ∧ G a = some (.rng lo hi)) ∧ fp = []
  | .lst true ds, v, fp => ∃ a xs fr, v = .ref a ∧ H a = some (.lst xs) ∧ OwL K G H ds xs fr ∧ fp = a :: fr
  | .tup ds, v, fp => ∃ a xs, v = .ref a ∧ SqT K G a xs ∧ OwL K G H ds xs fp
def OwL (K : Frg) (G H : Hp) : List D → List V → List Addr → Prop
  | [], xs, fp => xs = [] ∧ fp = []
  | d :: ds, xs, fp => ∃ x r f1 f2, xs = x :: r ∧ Ow K G H d x f1 ∧ OwL K G H ds r f2 ∧ fp = f1 ++ f2
end
section
variable {K : Frg} {G G' H H' : Hp}
theorem Same.sqT (e : Same G G') {a xs} (h : SqT K G a xs) : SqT K G' a xs := by
  rcases h with (h | ⟨o, h⟩) | h
  · exact .inl (.inl (e _ _ h))
  · exact .inl (.inr ⟨o, e _ _ h⟩)
  · exact .inr h
mutual
theorem Fz.mono (e : Same G G') : ∀ (d : D) (v : V), Fz K G d v → Fz K G' d v
  | .any, _, _ => trivial
  | .non, _, h => h
  | .bl _, _, h => h
  | .int _, _, h => h
  | .str _, _, h => h
  | .ty _, _, h => h
  | .lst _ ds, _, ⟨a, xs, ev, hs, hl⟩ => ⟨a, xs, ev, e _ _ hs, FzL.mono e ds xs hl⟩
  | .tup ds, _, ⟨a, xs, ev, hs, hl⟩ => ⟨a, xs, ev, Same.sqT e hs, FzL.mono e ds xs hl⟩
  | .cst ds, _, ⟨a, xs, ev, hs, hl⟩ => ⟨a, xs, ev, e.seq hs, FzL.mono e ds xs hl⟩
  | .rng _ _, _, ⟨a, ev, hs⟩ => ⟨a, ev, e _ _ hs⟩
theorem FzL.mono (e : Same G G') : ∀ (ds : List D) (xs : List V), FzL K G ds xs → FzL K G' ds xs
  | [], _, h => h
  | d :: ds, _, ⟨x, r, ex, h1, h2⟩ => ⟨x, r, ex, Fz.mono e d x h1, FzL.mono e ds r h2⟩
end
theorem FzL.length : ∀ {ds : List D} {xs : List V}, FzL K G ds xs → xs.length = ds.length
  | [], _, h => by rw [show _ = [] from h]; rfl
  | d :: ds, _, ⟨x, r, ex, h1, h2⟩ => by subst ex; simp [FzL.length h2]
theorem FzL.get : ∀ {ds : List D} {xs : List V} {i : Nat} {d : D}, FzL K G ds xs → ds[i]? = some d → ∃ x, xs[i]? = some x ∧ Fz K G d x
  | [], _, _, _, _, h => by simp at h
  | d :: ds, _, 0, _, ⟨x, r, ex, h1, h2⟩, h => by simp at h; subst ex h; exact ⟨x, rfl, h1⟩
  | d :: ds, _, i + 1, _, ⟨x, r, ex, h1, h2⟩, h => by
    subst ex
    obtain ⟨y, e1, e2⟩ := FzL.get (i := i) h2 (by simpa using h)
    exact ⟨y, by simpa using e1, e2⟩
theorem OwL.length : ∀ {ds : List D} {xs : List V} {fp : List Addr}, OwL K G H ds xs fp → xs.length = ds.length
  | [], _, _, h => by rw [h.1]; rfl
  | d :: ds, _, _, ⟨x, r, f1, f2, ex, h1, h2, _⟩ => by subst ex; simp [OwL.length h2]
mutual
theorem Ow.view (e : Same G H) : ∀ (d : D) (v : V) (fp : List Addr), Ow K G H d v fp → Fz K H d v
  | .any, _, _, _ => trivial
  | .non, _, _, h => h.1
  | .bl _, _, _, h => h.1
  | .int _, _, _, h => h.1
  | .str _, _, _, h => h.1
  | .ty _, _, _, h => h.1
  | .lst false ds, _, _, ⟨⟨a, xs, ev, hs, hl⟩, _⟩ => ⟨a, xs, ev, e _ _ hs, FzL.mono e ds xs hl⟩
  | .lst true ds, _, _, ⟨a, xs, fr, ev, hs, hl, _⟩ => ⟨a, xs, ev, hs, OwL.view e ds xs fr hl⟩
  | .tup ds, _, fp, ⟨a, xs, ev, hs, hl⟩ => ⟨a, xs, ev, Same.sqT e hs, OwL.view e ds xs fp hl⟩
  | .cst ds, _, _, ⟨⟨a, xs, ev, hs, hl⟩, _⟩ => ⟨a, xs, ev, e.seq hs, FzL.mono e ds xs hl⟩
  | .rng _ _, _, _, ⟨⟨a, ev, hs⟩, _⟩ => ⟨a, ev, e _ _ hs⟩
theorem OwL.view (e : Same G H) : ∀ (ds : List D) (xs : List V) (fp : List Addr), OwL K G H ds xs fp → FzL K H ds xs
  | [], _, _, h => h.1
  | d :: ds, _, _, ⟨x, r, f1, f2, ex, h1, h2, _⟩ => ⟨x, r, ex, Ow.view e d x f1 h1, OwL.view e ds r f2 h2⟩
end
mutual
theorem Ow.frozen : ∀ (d : D) (v : V) (fp : List Addr), d.frz = true → Ow K G H d v fp → Fz K G d v ∧ fp = []
  | .any, _, _, _, h => ⟨trivial, h⟩
  | .non, _, _, _, h => h
  | .bl _, _, _, _, h => h
  | .int _, _, _, _, h => h
  | .str _, _, _, _, h => h
  | .ty _, _, _, _, h => h
  | .lst false ds, _, _, _, h => h
  | .lst true ds, _, _, z, _ => by cases z
  | .tup ds, _, fp, z, ⟨a, xs, ev, hs, hl⟩ => by
    obtain ⟨h1, h2⟩ := OwL.frozen ds xs fp z hl
    exact ⟨⟨a, xs, ev, hs, h1⟩, h2⟩
  | .cst ds, _, _, _, h => h
  | .rng _ _, _, _, _, h => h
theorem OwL.frozen : ∀ (ds : List D) (xs : List V) (fp : List Addr), D.frzL ds = true → OwL K G H ds xs fp → FzL K G ds xs ∧ fp = []
  | [], _, _, _, h => h
  | d :: ds, _, _, z, ⟨x, r, f1, f2, ex, h1, h2, ef⟩ => by
    have z' : (d.frz && D.frzL ds) = true := z
    rw [Bool.and_eq_true] at z'
    obtain ⟨a1, a2⟩ := Ow.frozen d x f1 z'.1 h1
    obtain ⟨b1, b2⟩ := OwL.frozen ds r f2 z'.2 h2
    subst a2 b2 ef
    exact ⟨⟨x, r, ex, a1, b1⟩, rfl⟩
end
mutual
theorem Ow.of_fz : ∀ (d : D) (v : V), d.frz = true → Fz K G d v → Ow K G H d v []
  | .any, _, _, h => rfl
  | .non, _, _, h => ⟨h, rfl⟩
  | .bl _, _, _, h => ⟨h, rfl⟩
  | .int _, _, _, h => ⟨h, rfl⟩
  | .str _, _, _, h => ⟨h, rfl⟩
  | .ty _, _, _, h => ⟨h, rfl⟩
  | .lst false ds, _, _, h => ⟨h, rfl⟩
  | .lst true ds, _, z, _ => by cases z
  | .tup ds, _, z, ⟨a, xs, ev, hs, hl⟩ => ⟨a, xs, ev, hs, OwL.of_fz ds xs z hl⟩
  | .cst ds, _, _, h => ⟨h, rfl⟩
  | .rng _ _, _, _, h => ⟨h, rfl⟩
theorem OwL.of_fz : ∀ (ds : List D) (xs : List V), D.frzL ds = true → FzL K G ds xs → OwL K G H ds xs []
  | [], _, _, h => ⟨h, rfl⟩
  | d :: ds, _, z, ⟨x, r, ex, h1, h2⟩ => by
    have z' : (d.frz && D.frzL ds) = true := z
    rw [Bool.and_eq_true] at z'
    exact ⟨x, r, [], [], ex, Ow.of_fz d x z'.1 h1, OwL.of_fz ds r z'.2 h2, rfl⟩
end
mutual
theorem Ow.mono (e : Same G G') : ∀ (d : D) (v : V) (fp : List Addr), (∀ a ∈ fp, H' a = H a) → Ow K G H d v fp → Ow K G' H' d v fp
  | .any, _, _, _, h => h
  | .non, _, _, _, h => h
  | .bl _, _, _, _, h => h
  | .int _, _, _, _, h => h
  | .str _, _, _, _, h => h
  | .ty _, _, _, _, h => h
  | .lst false ds, _, _, _, ⟨⟨a, xs, ev, hs, hl⟩, ef⟩ => ⟨⟨a, xs, ev, e _ _ hs, FzL.mono e ds xs hl⟩, ef⟩
  | .cst ds, _, _, _, ⟨⟨a, xs, ev, hs, hl⟩, ef⟩ => ⟨⟨a, xs, ev, e.seq hs, FzL.mono e ds xs hl⟩, ef⟩
  | .rng _ _, _, _, _, ⟨⟨a, ev, hs⟩, ef⟩ => ⟨⟨a, ev, e _ _ hs⟩, ef⟩
  | .lst true ds, _, _, k, ⟨a, xs, fr, ev, hs, hl, ef⟩ => by
    subst ef
    exact ⟨a, xs, fr, ev, by rw [k a (by simp)]; exact hs, OwL.mono e ds xs fr (fun b hb => k b (by simp [hb])) hl, rfl⟩
  | .tup ds, _, fp, k, ⟨a, xs, ev, hs, hl⟩ => ⟨a, xs, ev, Same.sqT e hs, OwL.mono e ds xs fp k hl⟩
theorem OwL.mono (e : Same G G') : ∀ (ds : List D) (xs : List V) (fp : List Addr), (∀ a ∈ fp, H' a = H a) → OwL K G H ds xs fp → OwL K G' H' ds xs fp
  | [], _, _, _, h => h
  | d :: ds, _, _, k, ⟨x, r, f1, f2, ex, h1, h2, ef⟩ => by
    subst ef
    exact ⟨x, r, f1, f2, ex, Ow.mono e d x f1 (fun b hb => k b (by simp [hb])) h1, OwL.mono e ds r f2 (fun b hb => k b (by simp [hb])) h2, rfl⟩
end
mutual
theorem Ow.there : ∀ (d : D) (v : V) (fp : List Addr), Ow K G H d v fp → ∀ a ∈ fp, ∃ xs, H a = some (.lst xs)
  | .any, _, _, h, a, ha => by rw [show _ = [] from h] at ha; cases ha
  | .non, _, _, h, a, ha => by rw [h.2] at ha; cases ha
  | .bl _, _, _, h, a, ha => by rw [h.2] at ha; cases ha
  | .int _, _, _, h, a, ha => by rw [h.2] at ha; cases ha
  | .str _, _, _, h, a, ha => by rw [h.2] at ha; cases ha
  | .ty _, _, _, h, a, ha => by rw [h.2] at ha; cases ha
  | .lst false ds, _, _, h, a, ha => by rw [h.2] at ha; cases ha
  | .lst true ds, _, _, ⟨b, xs, fr, ev, hs, hl, ef⟩, a, ha => by
    subst ef
    rcases List.mem_cons.mp ha with rfl | ha
    · exact ⟨xs, hs⟩
    · exact OwL.there ds xs fr hl a ha
  | .tup ds, _, fp, ⟨b, xs, ev, hs, hl⟩, a, ha => OwL.there ds xs fp hl a ha
  | .cst ds, _, _, h, a, ha => by rw [h.2] at ha; cases ha
  | .rng _ _, _, _, h, a, ha => by rw [h.2] at ha; cases ha
theorem OwL.there : ∀ (ds : List D) (xs : List V) (fp : List Addr), OwL K G H ds xs fp → ∀ a ∈ fp, ∃ xs, H a = some (.lst xs)
  | [], _, _, h, a, ha => by rw [h.2] at ha; cases ha
  | d :: ds, _, _, ⟨x, r, f1, f2, ex, h1, h2, ef⟩, a, ha => by
    subst ef
    rcases List.mem_append.mp ha with ha | ha
    · exact Ow.there d x f1 h1 a ha
    · exact OwL.there ds r f2 h2 a ha
end
/-- frozen: all its owned lists go into the frozen heap -/
def addL (G H : Hp) (fp : List Addr) : Hp := fun a => if a ∈ fp then H a else G a
theorem addL_same {fp : List Addr} (hn : ∀ a ∈ fp, G a = none) : Same G (addL G H fp) := fun a o h => by
  unfold addL
  by_cases ha : a ∈ fp
  · rw [hn a ha] at h; cases h
  · rw [if_neg ha]; exact h
theorem addL_le {fp : List Addr} (e : Same G H) : Same (addL G H fp) H := fun a o h => by
  unfold addL at h
  by_cases ha : a ∈ fp
  · rw [if_pos ha] at h; exact h
  · rw [if_neg ha] at h; exact e a o h
mutual
theorem Fz.fzd (e : Same G G') : ∀ (d : D) (v : V), Fz K G d v → Fz K G' d.fz v
  | .any, _, _ => trivial
  | .non, _, h => h
  | .bl _, _, h => h
  | .int _, _, h => h
  | .str _, _, h => h
  | .ty _, _, h => h
  | .lst _ ds, _, ⟨a, xs, ev, hs, hl⟩ => ⟨a, xs, ev, e _ _ hs, FzL.fzd e ds xs hl⟩
  | .tup ds, _, ⟨a, xs, ev, hs, hl⟩ => ⟨a, xs, ev, Same.sqT e hs, FzL.fzd e ds xs hl⟩
  | .cst ds, _, ⟨a, xs, ev, hs, hl⟩ => ⟨a, xs, ev, e.seq hs, FzL.fzd e ds xs hl⟩
  | .rng _ _, _, ⟨a, ev, hs⟩ => ⟨a, ev, e _ _ hs⟩
theorem FzL.fzd (e : Same G G') : ∀ (ds : List D) (xs : List V), FzL K G ds xs → FzL K G' (D.fzL ds) xs
  | [], _, h => h
  | d :: ds, _, ⟨x, r, ex, h1, h2⟩ => ⟨x, r, ex, Fz.fzd e d x h1, FzL.fzd e ds r h2⟩
end
mutual
theorem Ow.freeze : ∀ (d : D) (v : V) (fp : List Addr), Ow K G H d v fp → ∀ J : Hp, Same G J → (∀ a ∈ fp, J a = H a) → Fz K J d.fz v
  | .any, _, _, h, _, _, _ => trivial
  | .non, _, _, h, _, _, _ => h.1
  | .bl _, _, _, h, _, _, _ => h.1
  | .int _, _, _, h, _, _, _ => h.1
  | .str _, _, _, h, _, _, _ => h.1
  | .ty _, _, _, h, _, _, _ => h.1
  | .lst false ds, _, _, ⟨⟨a, xs, ev, hs, hl⟩, ef⟩, J, e, k => ⟨a, xs, ev, e _ _ hs, FzL.fzd e ds xs hl⟩
  | .rng _ _, _, _, ⟨⟨a, ev, hs⟩, ef⟩, J, e, k => ⟨a, ev, e _ _ hs⟩
  | .cst ds, _, _, ⟨⟨a, xs, ev, hs, hl⟩, _⟩, J, e, k => ⟨a, xs, ev, e.seq hs, FzL.fzd e ds xs hl⟩
  | .lst true ds, _, _, ⟨a, xs, fr, ev, hs, hl, ef⟩, J, e, k => by
    subst ef
    exact ⟨a, xs, ev, (by rw [k a (by simp)]; exact hs), OwL.freeze ds xs fr hl J e fun b hb => k b (by simp [hb])⟩
  | .tup ds, _, fp, ⟨a, xs, ev, hs, hl⟩, J, e, k => ⟨a, xs, ev, Same.sqT e hs, OwL.freeze ds xs fp hl J e k⟩
theorem OwL.freeze : ∀ (ds : List D) (xs : List V) (fp : List Addr), OwL K G H ds xs fp → ∀ J : Hp, Same G J → (∀ a ∈ fp, J a = H a) → FzL K J (D.fzL ds) xs
  | [], _, _, h, _, _, _ => h.1
  | d :: ds, _, _, ⟨x, r, f1, f2, ex, h1, h2, ef⟩, J, e, k => by
    subst ef
    exact ⟨x, r, ex, Ow.freeze d x f1 h1 J e fun b hb => k b (by simp [hb]), OwL.freeze ds r f2 h2 J e fun b hb => k b (by simp [hb])⟩
end
end

/-! ### what is held: slots, values on the way, what callers hold -/
abbrev Itm := Option V × D
def OwO (K : Frg) (G H : Hp) (o : Option V) (d : D) (fp : List Addr) : Prop :=
  match o with
  | none => d = .any ∧ fp = []
  | some v => Ow K G H d v fp
def OwI (K : Frg) (G H : Hp) : List Itm → List Addr → Prop
  | [], fp => fp = []
  | i :: l, fp => ∃ f1 f2, OwO K G H i.1 i.2 f1 ∧ OwI K G H l f2 ∧ fp = f1 ++ f2
def Items (K : Frg) (E : List Addr) (H : Hp) (l : List Itm) : Prop :=
  ∃ G fp, Same G H ∧ OwI K G H l fp ∧ (E ++ fp).Nodup ∧ ∀ a ∈ E ++ fp, G a = none
section
variable {K : Frg} {G G' H H' : Hp} {E : List Addr} {l l' : List Itm} {o : Option V} {d : D} {v : V}
theorem OwO.mono (e : Same G G') {fp} (k : ∀ a ∈ fp, H' a = H a) (h : OwO K G H o d fp) : OwO K G' H' o d fp := by
  cases o with
  | none => exact h
  | some v => exact Ow.mono e d v fp k h
theorem OwI.mono (e : Same G G') : ∀ {l : List Itm} {fp}, (∀ a ∈ fp, H' a = H a) → OwI K G H l fp → OwI K G' H' l fp
  | [], _, _, h => h
  | i :: l, _, k, ⟨f1, f2, h1, h2, ef⟩ => by
    subst ef
    exact ⟨f1, f2, h1.mono e fun b hb => k b (by simp [hb]), OwI.mono e (fun b hb => k b (by simp [hb])) h2, rfl⟩
theorem OwI.there : ∀ {l : List Itm} {fp}, OwI K G H l fp → ∀ a ∈ fp, ∃ xs, H a = some (.lst xs)
  | [], _, h, a, ha => by rw [show _ = [] from h] at ha; cases ha
  | i :: l, _, ⟨f1, f2, h1, h2, ef⟩, a, ha => by
    subst ef
    rcases List.mem_append.mp ha with ha | ha
    · obtain ⟨o, d⟩ := i
      cases o with
      | none => rw [(show _ ∧ f1 = [] from h1).2] at ha; cases ha
      | some v => exact Ow.there d v f1 h1 a ha
    · exact OwI.there h2 a ha
theorem OwI.app : ∀ {l l' : List Itm} {fp}, OwI K G H (l ++ l') fp ↔ ∃ f1 f2, OwI K G H l f1 ∧ OwI K G H l' f2 ∧ fp = f1 ++ f2
  | [], l', fp => ⟨fun h => ⟨[], fp, rfl, h, rfl⟩, fun ⟨f1, f2, h1, h2, ef⟩ => by rw [show f1 = [] from h1] at ef; subst ef; exact h2⟩
  | i :: l, l', fp => by
    constructor
    · rintro ⟨f1, f2, h1, h2, ef⟩
      obtain ⟨g1, g2, k1, k2, eg⟩ := OwI.app.mp h2
      exact ⟨f1 ++ g1, g2, ⟨f1, g1, h1, k1, rfl⟩, k2, by subst ef eg; simp⟩
    · rintro ⟨f1, f2, ⟨g1, g2, k1, k2, eg⟩, h2, ef⟩
      exact ⟨g1, g2 ++ f2, k1, OwI.app.mpr ⟨g2, f2, k2, h2, rfl⟩, by subst ef eg; simp⟩
theorem OwI.perm (p : l.Perm l') : ∀ {fp}, OwI K G H l fp → ∃ fp', OwI K G H l' fp' ∧ fp.Perm fp' := by
  induction p with
  | nil => exact fun h => ⟨_, h, .refl _⟩
  | cons x _ ih =>
    rintro fp ⟨f1, f2, h1, h2, ef⟩
    obtain ⟨g, k, pg⟩ := ih h2
    subst ef
    exact ⟨f1 ++ g, ⟨f1, g, h1, k, rfl⟩, List.Perm.append_left f1 pg⟩
  | swap x y r =>
    rintro fp ⟨f1, f2, h1, ⟨g1, g2, k1, k2, eg⟩, ef⟩
    subst ef eg
    refine ⟨g1 ++ (f1 ++ g2), ⟨g1, _, k1, ⟨f1, g2, h1, k2, rfl⟩, rfl⟩, ?_⟩
    rw [← List.append_assoc, ← List.append_assoc]
    exact List.Perm.append_right g2 List.perm_append_comm
  | trans _ _ ih1 ih2 =>
    intro fp h
    obtain ⟨f1, h1, p1⟩ := ih1 h
    obtain ⟨f2, h2, p2⟩ := ih2 h1
    exact ⟨f2, h2, p1.trans p2⟩
theorem Items.perm (h : Items K E H l) (p : l.Perm l') : Items K E H l' := by
  obtain ⟨G, fp, e, ho, nd, hn⟩ := h
  obtain ⟨fp', h', pf⟩ := ho.perm p
  have pe : (E ++ fp).Perm (E ++ fp') := List.Perm.append_left E pf
  exact ⟨G, fp', e, h', pe.nodup_iff.mp nd, fun a ha => hn a (pe.mem_iff.mpr ha)⟩
theorem Items.drop (h : Items K E H (l ++ l')) : Items K E H l' := by
  obtain ⟨G, fp, e, ho, nd, hn⟩ := h
  obtain ⟨f1, f2, h1, h2, ef⟩ := OwI.app.mp ho
  subst ef
  refine ⟨G, f2, e, h2, ?_, fun a ha => hn a ?_⟩
  · refine List.Nodup.sublist ?_ nd
    exact List.Sublist.append_left (List.sublist_append_right f1 f2) E
  · rcases List.mem_append.mp ha with ha | ha <;> simp [ha]
theorem Items.tail {i : Itm} (h : Items K E H (i :: l)) : Items K E H l := Items.drop (l := [i]) h
theorem Items.nil (H : Hp) : Items K [] H [] := ⟨H, [], Same.refl H, rfl, .nil, fun a ha => by cases ha⟩
theorem Items.add (h : Items K E H l) (z : d.frz = true) (hf : ∀ G, Same G H → Fz K G d v) : Items K E H ((some v, d) :: l) := by
  obtain ⟨G, fp, e, ho, nd, hn⟩ := h
  exact ⟨G, fp, e, ⟨[], fp, Ow.of_fz d v z (hf G e), ho, rfl⟩, nd, hn⟩
theorem OwI.mem : ∀ {l : List Itm} {fp}, OwI K G H l fp → ∀ {i : Itm}, i ∈ l → ∃ f, OwO K G H i.1 i.2 f ∧ ∀ a ∈ f, a ∈ fp
  | [], _, _, _, hi => by cases hi
  | j :: l, _, ⟨f1, f2, h1, h2, ef⟩, i, hi => by
    subst ef
    rcases List.mem_cons.mp hi with rfl | hi
    · exact ⟨f1, h1, fun a ha => by simp [ha]⟩
    · obtain ⟨f, hf, k⟩ := OwI.mem h2 hi
      exact ⟨f, hf, fun a ha => by simp [k a ha]⟩
/-- a frozen thing that is held is held once more -/
theorem Items.dup (h : Items K E H l) (hm : (some v, d) ∈ l) (z : d.frz = true) : Items K E H ((some v, d) :: l) := by
  obtain ⟨G, fp, e, ho, nd, hn⟩ := h
  obtain ⟨f, hf, _⟩ := ho.mem hm
  obtain ⟨hz, ef⟩ := Ow.frozen d v f z hf
  exact ⟨G, fp, e, ⟨[], fp, Ow.of_fz d v z hz, ho, rfl⟩, nd, hn⟩
theorem Items.view (h : Items K E H l) (hm : (some v, d) ∈ l) : Fz K H d v := by
  obtain ⟨G, fp, e, ho, nd, hn⟩ := h
  obtain ⟨f, hf, _⟩ := ho.mem hm
  exact Ow.view e d v f hf
/-- a frozen part of what is held (a list's or a tuple's item) -/
theorem Ow.item {ds : List D} {xs : List V} : ∀ {fp}, OwL K G H ds xs fp → ∀ {i : Nat} {c : D} {x : V}, ds[i]? = some c → xs[i]? = some x → c.frz = true → Fz K G c x := by
  induction ds generalizing xs with
  | nil => intro _ _ i c x h; simp at h
  | cons d ds ih =>
    rintro fp ⟨y, r, f1, f2, ex, h1, h2, ef⟩ i c x hc hx hz
    subst ex
    cases i with
    | zero => simp at hc hx; subst hc hx; exact (Ow.frozen _ _ _ hz h1).1
    | succ i => exact ih h2 (by simpa using hc) (by simpa using hx) hz
theorem FzL.item {ds : List D} {xs : List V} : FzL K G ds xs → ∀ {i : Nat} {c : D} {x : V}, ds[i]? = some c → xs[i]? = some x → Fz K G c x := by
  intro h i c x hc hx
  obtain ⟨y, e, f⟩ := h.get hc
  rw [e] at hx; cases hx
  exact f
theorem Items.list (h : Items K E H l) {b : Bool} {ds : List D} (hm : (some v, .lst b ds) ∈ l) :
    ∃ a xs, v = .ref a ∧ H a = some (.lst xs) ∧ xs.length = ds.length ∧ FzL K H ds xs ∧ (∀ i : Nat, ∀ c x, ds[i]? = some c → xs[i]? = some x → c.frz = true → Items K E H ((some x, c) :: l)) := by
  obtain ⟨G, fp, e, ho, nd, hn⟩ := h
  obtain ⟨f, hf, _⟩ := ho.mem hm
  cases b with
  | false =>
    obtain ⟨⟨a, xs, ev, hs, hl⟩, _⟩ := hf
    refine ⟨a, xs, ev, e _ _ hs, hl.length, FzL.mono e _ _ hl, fun i c x hc hx z => ?_⟩
    exact ⟨G, fp, e, ⟨[], fp, Ow.of_fz c x z (hl.item hc hx), ho, rfl⟩, nd, hn⟩
  | true =>
    obtain ⟨a, xs, fr, ev, hs, hl, _⟩ := hf
    refine ⟨a, xs, ev, hs, hl.length, OwL.view e _ _ _ hl, fun i c x hc hx z => ?_⟩
    exact ⟨G, fp, e, ⟨[], fp, Ow.of_fz c x z (Ow.item hl hc hx z), ho, rfl⟩, nd, hn⟩
theorem Items.const (h : Items K E H l) {ds : List D} (hm : (some v, .cst ds) ∈ l) :
    ∃ a xs, v = .ref a ∧ SqL K H a xs ∧ xs.length = ds.length ∧ FzL K H ds xs ∧ (∀ i : Nat, ∀ c x, ds[i]? = some c → xs[i]? = some x → c.frz = true → Items K E H ((some x, c) :: l)) := by
  obtain ⟨G, fp, e, ho, nd, hn⟩ := h
  obtain ⟨f, hf, _⟩ := ho.mem hm
  obtain ⟨⟨a, xs, ev, hs, hl⟩, _⟩ := hf
  refine ⟨a, xs, ev, e.seq hs, hl.length, FzL.mono e _ _ hl, fun i c x hc hx z => ?_⟩
  exact ⟨G, fp, e, ⟨[], fp, Ow.of_fz c x z (hl.item hc hx), ho, rfl⟩, nd, hn⟩
theorem Items.range (h : Items K E H l) {lo hi : Int} (hm : (some v, .rng lo hi) ∈ l) : ∃ a, v = .ref a ∧ H a = some (.rng lo hi) := h.view hm
theorem Items.tuple (h : Items K E H l) {ds : List D} (hm : (some v, .tup ds) ∈ l) :
    ∃ a xs, v = .ref a ∧ SqT K H a xs ∧ xs.length = ds.length ∧ FzL K H ds xs ∧ (∀ i : Nat, ∀ c x, ds[i]? = some c → xs[i]? = some x → c.frz = true → Items K E H ((some x, c) :: l)) := by
  obtain ⟨G, fp, e, ho, nd, hn⟩ := h
  obtain ⟨f, hf, _⟩ := ho.mem hm
  obtain ⟨a, xs, ev, hs, hl⟩ := hf
  refine ⟨a, xs, ev, Same.sqT e hs, hl.length, OwL.view e _ _ _ hl, fun i c x hc hx z => ?_⟩
  exact ⟨G, fp, e, ⟨[], fp, Ow.of_fz c x z (Ow.item hl hc hx z), ho, rfl⟩, nd, hn⟩
def prs (vs : List V) (ds : List D) : List Itm := (vs.map some).zip ds
theorem OwL.items : ∀ {ds : List D} {xs : List V} {fp}, OwL K G H ds xs fp ↔ (xs.length = ds.length ∧ OwI K G H (prs xs ds) fp)
  | [], xs, fp => by
    constructor
    · rintro ⟨rfl, rfl⟩; exact ⟨rfl, rfl⟩
    · rintro ⟨h1, h2⟩
      cases xs with
      | nil => exact ⟨rfl, h2⟩
      | cons _ _ => simp at h1
  | d :: ds, xs, fp => by
    constructor
    · rintro ⟨x, r, f1, f2, rfl, h1, h2, rfl⟩
      obtain ⟨k1, k2⟩ := OwL.items.mp h2
      exact ⟨by simp [k1], ⟨f1, f2, h1, k2, rfl⟩⟩
    · rintro ⟨h1, h2⟩
      cases xs with
      | nil => simp at h1
      | cons x r =>
        obtain ⟨f1, f2, k1, k2, rfl⟩ := h2
        exact ⟨x, r, f1, f2, rfl, k1, OwL.items.mpr ⟨by simpa using h1, k2⟩, rfl⟩
/-- a frozen list's items, all of them -/
theorem OwI.of_fzL : ∀ {ds : List D} {xs : List V}, D.frzL ds = true → FzL K G ds xs → OwI K G H (prs xs ds) []
  | ds, xs, z, h => (OwL.items.mp (OwL.of_fz ds xs z h)).2
/-- an owned list: what it holds apart, its own place kept out -/
theorem Items.open {a : Addr} {ds : List D} (h : Items K E H ((some (.ref a), .lst true ds) :: l)) :
    ∃ xs, H a = some (.lst xs) ∧ xs.length = ds.length ∧ Items K (a :: E) H (prs xs ds ++ l) := by
  obtain ⟨G, fp, e, ⟨f1, f2, ⟨a', xs, fr, ev, hs, hl, ef⟩, h2, ef2⟩, nd, hn⟩ := h
  cases ev
  subst ef ef2
  obtain ⟨k1, k2⟩ := OwL.items.mp hl
  have pe : (E ++ (a :: fr ++ f2)).Perm (a :: E ++ (fr ++ f2)) := by
    have : E ++ (a :: fr ++ f2) = E ++ a :: (fr ++ f2) := rfl
    rw [this]
    exact List.perm_middle
  exact ⟨xs, hs, k1, G, fr ++ f2, e, OwI.app.mpr ⟨fr, f2, k2, h2, rfl⟩, pe.nodup_iff.mp nd, fun b hb => hn b (pe.mem_iff.mpr hb)⟩
theorem Items.close {a : Addr} {xs ys : List V} {ds : List D} (ha : H a = some (.lst ys)) (hx : xs.length = ds.length) (h : Items K (a :: E) H (prs xs ds ++ l)) :
    Items K E (upd H a (.lst xs)) ((some (.ref a), .lst true ds) :: l) := by
  obtain ⟨G, fp, e, ho, nd, hn⟩ := h
  obtain ⟨f1, f2, h1, h2, ef⟩ := OwI.app.mp ho
  subst ef
  have ga : G a = none := hn a (by simp)
  have hnd : a ∉ f1 ++ f2 := fun z => by
    have : (a :: (E ++ (f1 ++ f2))).Nodup := nd
    exact (List.nodup_cons.mp this).1 (by simp at z ⊢; rcases z with z | z <;> simp [z])
  have keep : ∀ b ∈ f1 ++ f2, upd H a (.lst xs) b = H b := fun b hb => upd_ne fun z => hnd (z ▸ hb)
  have pe : (a :: E ++ (f1 ++ f2)).Perm (E ++ (a :: f1 ++ f2)) := by
    have : E ++ (a :: f1 ++ f2) = E ++ a :: (f1 ++ f2) := rfl
    rw [this]
    exact List.perm_middle.symm
  have hl : OwL K G H ds xs f1 := OwL.items.mpr ⟨hx, h1⟩
  refine ⟨G, a :: f1 ++ f2, fun b o hb => ?_, ⟨a :: f1, f2, ⟨a, xs, f1, rfl, upd_same, OwL.mono (Same.refl G) ds xs f1 (fun b hb => keep b (by simp [hb])) hl, rfl⟩, h2.mono (Same.refl G) (fun b hb => keep b (by simp [hb])), rfl⟩,
    pe.nodup_iff.mp nd, fun b hb => hn b (pe.mem_iff.mpr hb)⟩
  rw [upd_ne (ne_of_none hb ga)]
  exact e b o hb
/-- a new list -/
theorem Items.new {a : Addr} {xs : List V} {ds : List D} (ha : H a = none) (hx : xs.length = ds.length) (h : Items K E H (prs xs ds ++ l)) (hE : ∀ b ∈ E, H b ≠ none) :
    Items K E (upd H a (.lst xs)) ((some (.ref a), .lst true ds) :: l) := by
  obtain ⟨G, fp, e, ho, nd, hn⟩ := h
  obtain ⟨f1, f2, h1, h2, ef⟩ := OwI.app.mp ho
  subst ef
  have ga : G a = none := e.free ha
  have hnd : a ∉ f1 ++ f2 := fun z => by
    obtain ⟨ys, q⟩ := ho.there a z
    rw [ha] at q; cases q
  have keep : ∀ b ∈ f1 ++ f2, upd H a (.lst xs) b = H b := fun b hb => upd_ne fun z => hnd (z ▸ hb)
  have haE : a ∉ E := fun z => hE a z ha
  have pe : (a :: E ++ (f1 ++ f2)).Perm (E ++ (a :: f1 ++ f2)) := by
    have : E ++ (a :: f1 ++ f2) = E ++ a :: (f1 ++ f2) := rfl
    rw [this]
    exact List.perm_middle.symm
  have hl : OwL K G H ds xs f1 := OwL.items.mpr ⟨hx, h1⟩
  refine ⟨G, a :: f1 ++ f2, fun b o hb => ?_, ⟨a :: f1, f2, ⟨a, xs, f1, rfl, upd_same, OwL.mono (Same.refl G) ds xs f1 (fun b hb => keep b (by simp [hb])) hl, rfl⟩, h2.mono (Same.refl G) (fun b hb => keep b (by simp [hb])), rfl⟩,
    pe.nodup_iff.mp (List.nodup_cons.mpr ⟨fun z => ?_, nd⟩), fun b hb => ?_⟩
  · rw [upd_ne (ne_of_none hb ga)]
    exact e b o hb
  · rcases List.mem_append.mp z with z | z
    · exact haE z
    · exact hnd z
  · rcases List.mem_cons.mp (pe.mem_iff.mpr hb) with rfl | hb
    · exact ga
    · exact hn b hb
/-- a new tuple -/
theorem Items.newT {a : Addr} {xs : List V} {ds : List D} (ha : H a = none) (hx : xs.length = ds.length) (h : Items K [] H (prs xs ds ++ l)) :
    Items K [] (upd H a (.tup xs)) ((some (.ref a), .tup ds) :: l) := by
  obtain ⟨G, fp, e, ho, nd, hn⟩ := h
  obtain ⟨f1, f2, h1, h2, ef⟩ := OwI.app.mp ho
  subst ef
  have ga : G a = none := e.free ha
  have hnd : a ∉ f1 ++ f2 := fun z => by
    obtain ⟨ys, q⟩ := ho.there a z
    rw [ha] at q; cases q
  have keep : ∀ b ∈ f1 ++ f2, upd H a (.tup xs) b = H b := fun b hb => upd_ne fun z => hnd (z ▸ hb)
  have hl : OwL K G H ds xs f1 := OwL.items.mpr ⟨hx, h1⟩
  have sG : Same G (upd G a (.tup xs)) := fun b o hb => by rw [upd_ne (ne_of_none hb ga)]; exact hb
  refine ⟨upd G a (.tup xs), f1 ++ f2, fun b o hb => ?_, ⟨f1, f2, ⟨a, xs, rfl, SqT.of upd_same, OwL.mono sG ds xs f1 (fun b hb => keep b (by simp [hb])) hl⟩, h2.mono sG (fun b hb => keep b (by simp [hb])), rfl⟩,
    nd, fun b hb => ?_⟩
  · by_cases z : b = a
    · subst z; rw [upd_same] at hb ⊢; exact hb
    · rw [upd_ne z] at hb ⊢; exact e b o hb
  · rw [upd_ne (show b ≠ a from fun z => hnd (z ▸ (by simpa using hb)))]
    exact hn b hb
/-- a new object that nobody needs to know -/
theorem Items.more {a : Addr} {x : HO} (ha : H a = none) (h : Items K [] H l) : Items K [] (upd H a x) l := by
  obtain ⟨G, fp, e, ho, nd, hn⟩ := h
  have ga : G a = none := e.free ha
  have hnd : a ∉ fp := fun z => by
    obtain ⟨ys, q⟩ := ho.there a z
    rw [ha] at q; cases q
  refine ⟨G, fp, fun b o hb => ?_, ho.mono (Same.refl G) (fun b hb => upd_ne fun z => hnd (z ▸ hb)), nd, hn⟩
  rw [upd_ne (ne_of_none hb ga)]
  exact e b o hb
/-- a tuple taken apart -/
theorem Items.openT {ds : List D} (h : Items K E H ((some v, .tup ds) :: l)) :
    ∃ a xs, v = .ref a ∧ SqT K H a xs ∧ xs.length = ds.length ∧ Items K E H (prs xs ds ++ l) := by
  obtain ⟨G, fp, e, ⟨f1, f2, ⟨a, xs, ev, hs, hl⟩, h2, ef2⟩, nd, hn⟩ := h
  subst ef2
  obtain ⟨k1, k2⟩ := OwL.items.mp hl
  exact ⟨a, xs, ev, Same.sqT e hs, k1, G, f1 ++ f2, e, OwI.app.mpr ⟨f1, f2, k2, h2, rfl⟩, nd, hn⟩
theorem Items.freeze (h : Items K E H ((o, d) :: l)) : Items K E H ((o, d.fz) :: l) := by
  obtain ⟨G, fp, e, ⟨f1, f2, h1, h2, ef⟩, nd, hn⟩ := h
  subst ef
  cases o with
  | none =>
    obtain ⟨rfl, rfl⟩ := (show d = .any ∧ f1 = [] from h1)
    exact ⟨G, [] ++ f2, e, ⟨[], f2, ⟨rfl, rfl⟩, h2, rfl⟩, nd, hn⟩
  | some v =>
    have hn1 : ∀ a ∈ f1, G a = none := fun a ha => hn a (by simp [ha])
    have dj : ∀ a ∈ E ++ f2, a ∉ f1 := fun a ha z => by
      rw [List.nodup_append] at nd
      obtain ⟨n1, n2, n3⟩ := nd
      rcases List.mem_append.mp ha with ha | ha
      · exact n3 a ha a (by simp [z]) rfl
      · rw [List.nodup_append] at n2
        exact n2.2.2 a z a ha rfl
    have hz : Fz K (addL G H f1) d.fz v := Ow.freeze d v f1 h1 _ (addL_same hn1) fun a ha => by unfold addL; rw [if_pos ha]
    refine ⟨addL G H f1, f2, addL_le e, ⟨[], f2, Ow.of_fz _ _ (D.frz_fz d) hz, h2.mono (addL_same hn1) (fun _ _ => rfl), rfl⟩, ?_, fun a ha => ?_⟩
    · refine List.Nodup.sublist ?_ nd
      exact List.Sublist.append_left (List.sublist_append_right f1 f2) E
    · unfold addL
      rw [if_neg (dj a ha)]
      exact hn a (by rcases List.mem_append.mp ha with ha | ha <;> simp [ha])
theorem Items.forget (h : Items K E H ((o, d) :: l)) : Items K E H ((o, .any) :: l) := by
  obtain ⟨G, fp, e, ⟨f1, f2, h1, h2, ef⟩, nd, hn⟩ := h
  subst ef
  refine ⟨G, f2, e, ⟨[], f2, ?_, h2, rfl⟩, ?_, fun a ha => hn a ?_⟩
  · cases o with
    | none => exact ⟨rfl, rfl⟩
    | some v => exact rfl
  · refine List.Nodup.sublist ?_ nd
    exact List.Sublist.append_left (List.sublist_append_right f1 f2) E
  · rcases List.mem_append.mp ha with ha | ha <;> simp [ha]
theorem Items.blank (h : Items K E H l) : Items K E H ((o, .any) :: l) := by
  obtain ⟨G, fp, e, ho, nd, hn⟩ := h
  refine ⟨G, fp, e, ⟨[], fp, ?_, ho, rfl⟩, nd, hn⟩
  cases o with
  | none => exact ⟨rfl, rfl⟩
  | some v => exact rfl
end
end Mv
namespace Mv
open PySem PySem.Spec PyProof.Rows L2
section
variable {K : Frg} {H : Hp} {E : List Addr} {l : List Itm} {v : V}
theorem Items.listAll (h : Items K E H l) {b : Bool} {ds : List D} (hm : (some v, .lst b ds) ∈ l) (z : D.frzL ds = true) :
    ∃ a xs, v = .ref a ∧ H a = some (.lst xs) ∧ xs.length = ds.length ∧ Items K E H (prs xs ds ++ l) := by
  obtain ⟨G, fp, e, ho, nd, hn⟩ := h
  obtain ⟨f, hf, _⟩ := ho.mem hm
  cases b with
  | false =>
    obtain ⟨⟨a, xs, ev, hs, hl⟩, _⟩ := hf
    exact ⟨a, xs, ev, e _ _ hs, hl.length, G, fp, e, OwI.app.mpr ⟨[], fp, OwI.of_fzL z hl, ho, rfl⟩, nd, hn⟩
  | true =>
    obtain ⟨a, xs, fr, ev, hs, hl, _⟩ := hf
    obtain ⟨hl', rfl⟩ := OwL.frozen ds xs fr z hl
    exact ⟨a, xs, ev, hs, hl.length, G, fp, e, OwI.app.mpr ⟨[], fp, OwI.of_fzL z hl', ho, rfl⟩, nd, hn⟩
theorem Items.tupleAll (h : Items K E H l) {ds : List D} (hm : (some v, .tup ds) ∈ l) (z : D.frzL ds = true) :
    ∃ a xs, v = .ref a ∧ SqT K H a xs ∧ xs.length = ds.length ∧ Items K E H (prs xs ds ++ l) := by
  obtain ⟨G, fp, e, ho, nd, hn⟩ := h
  obtain ⟨f, hf, _⟩ := ho.mem hm
  obtain ⟨a, xs, ev, hs, hl⟩ := hf
  obtain ⟨hl', _⟩ := OwL.frozen ds xs f z hl
  exact ⟨a, xs, ev, Same.sqT e hs, hl.length, G, fp, e, OwI.app.mpr ⟨[], fp, OwI.of_fzL z hl', ho, rfl⟩, nd, hn⟩
theorem Items.sub {l l' : List Itm} (h : Items K E H l) (p : ∃ r, l.Perm (r ++ l')) : Items K E H l' := by
  obtain ⟨r, p⟩ := p
  exact (h.perm p).drop
theorem mem_of_getElem {A : List Itm} {i : Nat} {x : Itm} (h : A[i]? = some x) : x ∈ A := List.mem_of_getElem? h
end
end Mv
end
section
set_option Elab.async false
set_option linter.all false
set_option maxRecDepth 100000
/-! Judgements: what an expression, a test, a statement makes of data. -/
namespace Mv
open PySem PySem.Spec PyProof.Rows L2

/-- the data in a def's slots -/
abbrev Ev := List D
abbrev Sl := List (Option V)
/-- where an operand lies: in a slot (not taken out), or by itself -/
inductive Hd where
  | sl (i : Nat) | tm (d : D)
def Hd.get (ρ : Ev) : Hd → D
  | .sl i => ρ.getD i .any
  | .tm d => d
def Hd.its : Hd → V → List Itm
  | .sl _, _ => []
  | .tm d, v => [(some v, d)]
def Hd.at' (σ : Sl) : Hd → V → Prop
  | .sl i, v => σ[i]? = some (some v)
  | .tm _, _ => True
def hits : List Hd → List V → List Itm
  | h :: hs, v :: vs => h.its v ++ hits hs vs
  | _, _ => []
def hats (σ : Sl) : List Hd → List V → Prop
  | [], [] => True
  | h :: hs, v :: vs => h.at' σ v ∧ hats σ hs vs
  | _, _ => False
/-- how a statement ends -/
inductive Out where
  | nx (ρ : Ev) | rt (d : D) (ρ : Ev) | bk (ρ : Ev) | ct (ρ : Ev)

section
variable (X : Cx)
structure DE (e : Expr) (f : Ev → Option (D × Ev)) : Prop where
  ex : ∃ t, PE X e t ∧ ∀ (σ : Sl) (H : Hp) (ρ : Ev) (l : List Itm) (Q : VK) (r : D) (ρ' : Ev), σ.length = ρ.length → Items X.K [] H (σ.zip ρ ++ l) → f ρ = some (r, ρ') →
    (∀ v H', ρ'.length = ρ.length → Items X.K [] H' ((some v, r) :: (σ.zip ρ' ++ l)) → Q v H') → t σ H Q
structure DH (e : Expr) (f : Ev → Option (Hd × Ev)) : Prop where
  ex : ∃ t, PE X e t ∧ ∀ (σ : Sl) (H : Hp) (ρ : Ev) (l : List Itm) (Q : VK) (r : Hd) (ρ' : Ev), σ.length = ρ.length → Items X.K [] H (σ.zip ρ ++ l) → f ρ = some (r, ρ') →
    (∀ v H', ρ'.length = ρ.length → r.at' σ v → Items X.K [] H' (r.its v ++ (σ.zip ρ' ++ l)) → Q v H') → t σ H Q
structure DA (es : List Expr) (f : Ev → Option (List Hd × Ev)) : Prop where
  ex : ∃ t, PA X es t ∧ ∀ (σ : Sl) (H : Hp) (ρ : Ev) (l : List Itm) (Q : List V → Hp → Prop) (r : List Hd) (ρ' : Ev), σ.length = ρ.length → Items X.K [] H (σ.zip ρ ++ l) → f ρ = some (r, ρ') →
    (∀ vs H', ρ'.length = ρ.length → hats σ r vs → Items X.K [] H' (hits r vs ++ (σ.zip ρ' ++ l)) → Q vs H') → t σ H Q
structure DT (e : Expr) (f : Ev → Option (Bool × Ev)) : Prop where
  ex : ∃ t, PT X e t ∧ ∀ (σ : Sl) (H : Hp) (ρ : Ev) (l : List Itm) (Q : Bool → Hp → Prop) (r : Bool) (ρ' : Ev), σ.length = ρ.length → Items X.K [] H (σ.zip ρ ++ l) → f ρ = some (r, ρ') →
    (∀ H', ρ'.length = ρ.length → Items X.K [] H' (σ.zip ρ' ++ l) → Q r H') → t σ H Q
structure DW (e : Expr) (f : Ev → Option (Bool × Ev)) : Prop where
  ex : ∃ t, PW X e t ∧ ∀ (σ : Sl) (H : Hp) (ρ : Ev) (l : List Itm) (Q : Bool → Hp → Prop) (r : Bool) (ρ' : Ev), σ.length = ρ.length → Items X.K [] H (σ.zip ρ ++ l) → f ρ = some (r, ρ') →
    (∀ H', ρ'.length = ρ.length → Items X.K [] H' (σ.zip ρ' ++ l) → Q r H') → t σ H Q
/-- the slots in C keep what they hold -/
def Agr (C : List Nat) (σ σ' : Sl) : Prop := ∀ i ∈ C, σ'[i]? = σ[i]?
def EndOk (C : List Nat) (D' : Ends) (σ : Sl) (l : List Itm) (o : Out) : Prop :=
  match o with
  | .nx ρ' => ∀ σ' H', σ'.length = σ.length → ρ'.length = σ.length → Agr C σ σ' → Items X.K [] H' (σ'.zip ρ' ++ l) → D'.nx σ' H'
  | .bk ρ' => ∀ σ' H', σ'.length = σ.length → ρ'.length = σ.length → Agr C σ σ' → Items X.K [] H' (σ'.zip ρ' ++ l) → D'.bk σ' H'
  | .ct ρ' => ∀ σ' H', σ'.length = σ.length → ρ'.length = σ.length → Agr C σ σ' → Items X.K [] H' (σ'.zip ρ' ++ l) → D'.ct σ' H'
  | .rt d ρ' => ∀ v σ' H', σ'.length = σ.length → ρ'.length = σ.length → Agr C σ σ' → Items X.K [] H' ((some v, d) :: (σ'.zip ρ' ++ l)) → D'.rt v H'
structure DS (C : List Nat) (st : Stmt) (f : Ev → Option Out) : Prop where
  ex : ∃ t, PS X st t ∧ ∀ (D' : Ends) (σ : Sl) (H : Hp) (ρ : Ev) (l : List Itm) (o : Out), σ.length = ρ.length → Items X.K [] H (σ.zip ρ ++ l) → f ρ = some o → EndOk X C D' σ l o → t D' σ H
structure DSs (C : List Nat) (st : List Stmt) (f : Ev → Option Out) : Prop where
  ex : ∃ t, PSs X st t ∧ ∀ (D' : Ends) (σ : Sl) (H : Hp) (ρ : Ev) (l : List Itm) (o : Out), σ.length = ρ.length → Items X.K [] H (σ.zip ρ ++ l) → f ρ = some o → EndOk X C D' σ l o → t D' σ H
structure DG (C : List Nat) (tg : Expr) (f : D → Ev → Option Ev) : Prop where
  ex : ∃ t, PG X tg t ∧ ∀ (v : V) (d : D) (σ : Sl) (H : Hp) (ρ : Ev) (l : List Itm) (Q : Sl → Hp → Prop) (ρ' : Ev), σ.length = ρ.length → Items X.K [] H ((some v, d) :: (σ.zip ρ ++ l)) → f d ρ = some ρ' →
    (∀ σ' H', σ'.length = σ.length → ρ'.length = σ.length → Agr C σ σ' → Items X.K [] H' (σ'.zip ρ' ++ l) → Q σ' H') → t v σ H Q
structure DGs (C : List Nat) (tgs : List Expr) (f : List D → Ev → Option Ev) : Prop where
  ex : ∃ t, PGs X tgs t ∧ ∀ (vs : List V) (ds : List D) (σ : Sl) (H : Hp) (ρ : Ev) (l : List Itm) (Q : Sl → Hp → Prop) (ρ' : Ev), σ.length = ρ.length → vs.length = ds.length → Items X.K [] H (prs vs ds ++ (σ.zip ρ ++ l)) → f ds ρ = some ρ' →
    (∀ σ' H', σ'.length = σ.length → ρ'.length = σ.length → Agr C σ σ' → Items X.K [] H' (σ'.zip ρ' ++ l) → Q σ' H') → t vs σ H Q
end

/-! ### slots -/
theorem zip_at {σ : Sl} {ρ : Ev} {i : Nat} {o : Option V} {d : D} (h1 : σ[i]? = some o) (h2 : ρ[i]? = some d) :
    ∃ A B, σ.zip ρ = A ++ (o, d) :: B ∧ (∀ d', σ.zip (ρ.set i d') = A ++ (o, d') :: B) ∧ ∀ o' d', (σ.set i o').zip (ρ.set i d') = A ++ (o', d') :: B := by
  induction σ generalizing ρ i with
  | nil => simp at h1
  | cons s σ ih =>
    cases ρ with
    | nil => simp at h2
    | cons r ρ =>
      cases i with
      | zero =>
        simp at h1 h2
        subst h1 h2
        exact ⟨[], σ.zip ρ, rfl, fun _ => rfl, fun _ _ => rfl⟩
      | succ i =>
        obtain ⟨A, B, e1, e2, e3⟩ := ih (by simpa using h1) (by simpa using h2)
        exact ⟨(s, r) :: A, B, by simp [e1], fun d' => by simp [e2], fun o' d' => by simp [e3]⟩
theorem zip_mem {σ : Sl} {ρ : Ev} {i : Nat} {o : Option V} {d : D} (h1 : σ[i]? = some o) (h2 : ρ[i]? = some d) : (o, d) ∈ σ.zip ρ := by
  obtain ⟨A, B, e, _⟩ := zip_at h1 h2
  rw [e]; simp
theorem getD_of {ρ : Ev} {i : Nat} {d : D} (h : ρ[i]? = some d) : ρ.getD i .any = d := by
  rw [List.getD_eq_getElem?_getD, h]; rfl
theorem at_ex {σ : Sl} {ρ : Ev} (hl : σ.length = ρ.length) {i : Nat} {d : D} (h : ρ[i]? = some d) : ∃ o, σ[i]? = some o := by
  have : i < ρ.length := (List.getElem?_eq_some_iff.mp h).1
  exact ⟨σ[i]'(by omega), List.getElem?_eq_getElem (by omega)⟩
section
variable {K : Frg} {H : Hp} {l : List Itm} {σ : Sl} {ρ : Ev}
/-- a slot that holds something has a value -/
theorem slot_val {E : List Addr} (h : Items K E H (σ.zip ρ ++ l)) (hl : σ.length = ρ.length) {i : Nat} {d : D} (e : ρ[i]? = some d) (hd : d ≠ .any) : ∃ v, σ[i]? = some (some v) := by
  obtain ⟨o, ho⟩ := at_ex hl e
  cases o with
  | some v => exact ⟨v, ho⟩
  | none =>
    obtain ⟨G, fp, _, hi, _⟩ := h
    obtain ⟨f, hf, _⟩ := hi.mem (i := (none, d)) (List.mem_append_left _ (zip_mem ho e))
    exact absurd hf.1 hd
theorem Items.perm1 {E : List Addr} {A B C : List Itm} {x : Itm} (h : Items K E H (A ++ (x :: B) ++ C)) : Items K E H (x :: (A ++ B ++ C)) := by
  refine h.perm ?_
  simp only [List.append_assoc, List.cons_append]
  exact List.perm_middle
theorem Items.perm2 {E : List Addr} {A B C : List Itm} {x : Itm} (h : Items K E H (x :: (A ++ B ++ C))) : Items K E H (A ++ (x :: B) ++ C) := by
  refine h.perm ?_
  simp only [List.append_assoc, List.cons_append]
  exact List.perm_middle.symm
/-- the slot's data first, and back -/
theorem Items.slot {E : List Addr} (h : Items K E H (σ.zip ρ ++ l)) {i : Nat} {o : Option V} {d : D} (h1 : σ[i]? = some o) (h2 : ρ[i]? = some d) :
    ∃ A B, Items K E H ((o, d) :: (A ++ B ++ l)) ∧ ∀ (E' : List Addr) (H' : Hp) (l' : List Itm) (d' : D), Items K E' H' ((o, d') :: (A ++ B ++ l')) → Items K E' H' (σ.zip (ρ.set i d') ++ l') := by
  obtain ⟨A, B, e1, e2, _⟩ := zip_at h1 h2
  refine ⟨A, B, Items.perm1 (by rw [e1] at h; exact h), fun E' H' l' d' h' => ?_⟩
  rw [e2]
  exact Items.perm2 h'
end

/-! ### expressions -/
section
variable {X : Cx}
theorem DH.of (h : DE X e f) : DH X e fun ρ => (f ρ).map fun p => (.tm p.1, p.2) := by
  obtain ⟨t, ht, k⟩ := h.ex
  refine ⟨t, ht, fun σ H ρ l Q r ρ' hl hi hf q => ?_⟩
  obtain ⟨⟨d, ρ1⟩, h1, h2⟩ := Option.map_eq_some_iff.mp hf
  cases h2
  exact k σ H ρ l Q d ρ1 hl hi h1 fun v H' hl' hi' => q v H' hl' trivial hi'
/-- an operand that stays in its slot -/
def hV (i : Nat) : Ev → Option (Hd × Ev) := fun ρ => match ρ[i]? with
  | some .any => none
  | some _ => some (.sl i, ρ)
  | none => none
def hE (f : Ev → Option (D × Ev)) : Ev → Option (Hd × Ev) := fun ρ => (f ρ).map fun p => (.tm p.1, p.2)
theorem dh_of {e : Expr} {f : Ev → Option (D × Ev)} (h : DE X e f) : DH X e (hE f) := DH.of h
theorem dh_var (i : Nat) {x : Str} {pos : Pos} (hN : X.N[i]? = some x := by rfl) (hv : Vis X.env.scope x := by first | exact Or.inl rfl | exact Or.inr (Or.inl rfl) | exact Or.inr (Or.inr rfl)) (hd : (x == ("__debug__" : Str)) = false := by decide)
    (hcd : (x == ("__classdict__" : Str)) = false := by decide) : DH X (.Name x pos) (hV i) := by
  refine ⟨tVar i, pe_var hN hv hd hcd, fun σ H ρ l Q r ρ' hl hi hf q => ?_⟩
  unfold hV at hf
  split at hf
  · cases hf
  · rename_i d hd e
    cases hf
    obtain ⟨v, hv⟩ := slot_val hi hl e hd
    exact ⟨v, hv, q v H rfl hv hi⟩
  · cases hf
/-- a name's value: what it owned is frozen -/
def eV (i : Nat) : Ev → Option (D × Ev) := fun ρ => match ρ[i]? with
  | some .any => none
  | some d => if d.frz = true then some (d, ρ) else some (d.fz, ρ.set i d.fz)
  | none => none
theorem de_var (i : Nat) {x : Str} {pos : Pos} (hN : X.N[i]? = some x := by rfl) (hv : Vis X.env.scope x := by first | exact Or.inl rfl | exact Or.inr (Or.inl rfl) | exact Or.inr (Or.inr rfl)) (hd : (x == ("__debug__" : Str)) = false := by decide)
    (hcd : (x == ("__classdict__" : Str)) = false := by decide) : DE X (.Name x pos) (eV i) := by
  refine ⟨tVar i, pe_var hN hv hd hcd, fun σ H ρ l Q r ρ' hl hi hf q => ?_⟩
  unfold eV at hf
  split at hf
  · cases hf
  · rename_i d hd e
    obtain ⟨v, hv⟩ := slot_val hi hl e hd
    refine ⟨v, hv, ?_⟩
    split at hf
    · rename_i z
      cases hf
      exact q v H rfl (hi.dup (List.mem_append_left _ (zip_mem hv e)) z)
    · cases hf
      obtain ⟨A, B, h1, h2⟩ := hi.slot hv e
      have h3 := h2 [] H l d.fz h1.freeze
      have e' : (ρ.set i d.fz)[i]? = some d.fz := by
        have : i < ρ.length := (List.getElem?_eq_some_iff.mp e).1
        rw [List.getElem?_set_self this]
      exact q v H (by simp) (h3.dup (List.mem_append_left _ (zip_mem hv e')) (D.frz_fz d))
  · cases hf
/-- a name's value, the name not used again -/
def eM (i : Nat) : Ev → Option (D × Ev) := fun ρ => match ρ[i]? with
  | some .any => none
  | some d => some (d, ρ.set i .any)
  | none => none
theorem de_mov (i : Nat) {x : Str} {pos : Pos} (hN : X.N[i]? = some x := by rfl) (hv : Vis X.env.scope x := by first | exact Or.inl rfl | exact Or.inr (Or.inl rfl) | exact Or.inr (Or.inr rfl)) (hd : (x == ("__debug__" : Str)) = false := by decide)
    (hcd : (x == ("__classdict__" : Str)) = false := by decide) : DE X (.Name x pos) (eM i) := by
  refine ⟨tVar i, pe_var hN hv hd hcd, fun σ H ρ l Q r ρ' hl hi hf q => ?_⟩
  unfold eM at hf
  split at hf
  · cases hf
  · rename_i d hd e
    obtain ⟨v, hv⟩ := slot_val hi hl e hd
    refine ⟨v, hv, ?_⟩
    cases hf
    obtain ⟨A, B, h1, h2⟩ := hi.slot hv e
    refine q v H (by simp) ?_
    have h3 := h2 [] H ((some v, r) :: l) .any
    have h4 : Items X.K [] H ((some v, D.any) :: (A ++ B ++ ((some v, r) :: l))) := by
      have h5 : Items X.K [] H ((some v, D.any) :: ((some v, r) :: (A ++ B ++ l))) := h1.blank
      refine h5.perm (.cons _ ?_)
      exact List.perm_middle.symm
    refine (h3 h4).perm ?_
    exact List.perm_middle
  · cases hf
def eC (d : D) : Ev → Option (D × Ev) := fun ρ => some (d, ρ)
theorem de_const {e : Expr} {v : V} {d : D} (h : PE X e (tC v)) (z : d.frz = true) (hz : ∀ G, Fz X.K G d v) : DE X e (eC d) :=
  ⟨tC v, h, fun σ H ρ l Q r ρ' hl hi hf q => by
    cases hf
    exact q v H rfl (hi.add z fun G _ => hz G)⟩
theorem de_int {i j pos} : DE X (.Constant (.int i) j pos) (eC (.int i)) := de_const pe_int rfl fun _ => rfl
theorem de_bl {b j pos} : DE X (.Constant (.bool b) j pos) (eC (.bl b)) := de_const pe_bl rfl fun _ => rfl
theorem de_non {j pos} : DE X (.Constant .none j pos) (eC .non) := de_const pe_non rfl fun _ => rfl
theorem de_str {x j pos} : DE X (.Constant (.str x) j pos) (eC (.str x)) := de_const pe_str rfl fun _ => rfl

theorem mem_hd {h : Hd} {v : V} {ρ : Ev} {l : List Itm} {σ : Sl} {hl : σ.length = ρ.length} {H : Hp} (ha : h.at' σ v) (hi : Items X.K [] H (h.its v ++ (σ.zip ρ ++ l))) :
    (some v, h.get ρ) ∈ h.its v ++ (σ.zip ρ ++ l) := by
  cases h with
  | tm d => simp [Hd.its, Hd.get]
  | sl i =>
    have h1 : σ[i]? = some (some v) := ha
    have h2 : i < ρ.length := by
      have := (List.getElem?_eq_some_iff.mp h1).1
      omega
    have h3 : ρ[i]? = some ρ[i] := List.getElem?_eq_getElem h2
    simp only [Hd.its, Hd.get, List.nil_append, getD_of h3]
    exact List.mem_append_left _ (zip_mem h1 h3)

/-- what an operation on two values makes of their data -/
def Op2 (K : Frg) (r : R2) (g : D → D → Option D) : Prop := ∀ (x y : V) (H : Hp) (dx dy : D) (l : List Itm) (Q : VK) (d : D), Items K [] H l → (some x, dx) ∈ l → (some y, dy) ∈ l → g dx dy = some d →
  (∀ v H', Items K [] H' ((some v, d) :: l) → Q v H') → r x y H Q
def e2 (g : D → D → Option D) (fa fb : Ev → Option (Hd × Ev)) : Ev → Option (D × Ev) := fun ρ => (fa ρ).bind fun p => (fb p.2).bind fun q => (g (p.1.get q.2) (q.1.get q.2)).map fun d => (d, q.2)
theorem two {a b : Expr} {fa fb : Ev → Option (Hd × Ev)} {g : D → D → Option D} {r : R2} (hg : Op2 X.K r g) (ha : DH X a fa) (hb : DH X b fb) :
    ∃ ta tb, PE X a ta ∧ PE X b tb ∧ ∀ (σ : Sl) (H : Hp) (ρ : Ev) (l : List Itm) (Q : VK) (d : D) (ρ' : Ev), σ.length = ρ.length → Items X.K [] H (σ.zip ρ ++ l) → e2 g fa fb ρ = some (d, ρ') →
      (∀ v H', ρ'.length = ρ.length → Items X.K [] H' ((some v, d) :: (σ.zip ρ' ++ l)) → Q v H') → tOp r ta tb σ H Q := by
  obtain ⟨ta, pa, ka⟩ := ha.ex
  obtain ⟨tb, pb, kb⟩ := hb.ex
  refine ⟨ta, tb, pa, pb, fun σ H ρ l Q d ρ' hl hi hf q => ?_⟩
  obtain ⟨⟨h1, ρ1⟩, e1, hf⟩ := Option.bind_eq_some_iff.mp hf
  obtain ⟨⟨h2, ρ2⟩, e2, hf⟩ := Option.bind_eq_some_iff.mp hf
  obtain ⟨d', e3, hf⟩ := Option.map_eq_some_iff.mp hf
  cases hf
  refine ka σ H ρ l _ h1 ρ1 hl hi e1 fun v1 H1 l1 a1 i1 => ?_
  have i1' : Items X.K [] H1 (σ.zip ρ1 ++ (h1.its v1 ++ l)) := i1.perm (by
    rw [← List.append_assoc, ← List.append_assoc]
    exact List.Perm.append_right l List.perm_append_comm)
  refine kb σ H1 ρ1 _ _ h2 ρ2 (by omega) i1' e2 fun v2 H2 l2 a2 i2 => ?_
  have m2 := mem_hd (X := X) (hl := by omega) a2 i2
  have i2' : Items X.K [] H2 (h1.its v1 ++ (σ.zip ρ2 ++ (h2.its v2 ++ l))) := i2.perm (by
    have p1 : (h2.its v2 ++ (σ.zip ρ2 ++ (h1.its v1 ++ l))).Perm ((σ.zip ρ2 ++ (h1.its v1 ++ l)) ++ h2.its v2) := List.perm_append_comm
    refine p1.trans ?_
    have p2 : (σ.zip ρ2 ++ (h1.its v1 ++ l)).Perm (h1.its v1 ++ (σ.zip ρ2 ++ l)) := by
      rw [← List.append_assoc, ← List.append_assoc]
      exact List.Perm.append_right l List.perm_append_comm
    refine (List.Perm.append_right _ p2).trans ?_
    simp only [List.append_assoc]
    exact List.Perm.append_left _ (List.Perm.append_left _ List.perm_append_comm))
  have m1 := mem_hd (X := X) (hl := by omega) a1 i2'
  have m1' : (some v1, h1.get ρ2) ∈ h2.its v2 ++ (σ.zip ρ2 ++ (h1.its v1 ++ l)) := by
    simp only [List.mem_append] at m1 ⊢
    rcases m1 with m | m | m | m
    · exact .inr (.inr (.inl m))
    · exact .inr (.inl m)
    · exact .inl m
    · exact .inr (.inr (.inr m))
  refine hg v1 v2 H2 _ _ _ Q _ i2 m1' m2 e3 fun v H3 i3 => ?_
  refine q v H3 (by show ρ2.length = ρ.length; omega) (i3.sub ⟨h2.its v2 ++ h1.its v1, ?_⟩)
  have p3 : (h2.its v2 ++ (σ.zip ρ2 ++ (h1.its v1 ++ l))).Perm ((h2.its v2 ++ h1.its v1) ++ (σ.zip ρ2 ++ l)) := by
    rw [List.append_assoc]
    refine List.Perm.append_left _ ?_
    rw [← List.append_assoc, ← List.append_assoc]
    exact List.Perm.append_right l List.perm_append_comm
  exact (List.Perm.cons _ p3).trans List.perm_middle.symm
theorem de_op {a b : Expr} {op : Operator} {fa fb : Ev → Option (Hd × Ev)} {g : D → D → Option D} {r : R2} {pos : Pos} (ho : OpR X (binaryOp op) r) (hg : Op2 X.K r g) (ha : DH X a fa) (hb : DH X b fb) : DE X (.BinOp a op b pos) (e2 g fa fb) := by
  obtain ⟨ta, tb, pa, pb, k⟩ := two hg ha hb
  exact ⟨_, pe_op ho pa pb, k⟩
theorem de_cmp {a b : Expr} {op : CmpOp} {fa fb : Ev → Option (Hd × Ev)} {g : D → D → Option D} {r : R2} {pos : Pos} (ho : OpR X (compareOp op) r) (hg : Op2 X.K r g) (ha : DH X a fa) (hb : DH X b fb)
    (hm : behindInMarks op b = false) : DE X (.Compare a [op] [b] pos) (e2 g fa fb) := by
  obtain ⟨ta, tb, pa, pb, k⟩ := two hg ha hb
  exact ⟨_, pe_cmpR ho pa pb hm, k⟩
theorem de_ix {a b : Expr} {fa fb : Ev → Option (Hd × Ev)} {g : D → D → Option D} {r : R2} {pos : Pos} (ho : IxR X r) (hg : Op2 X.K r g) (ha : DH X a fa) (hb : DH X b fb)
    (hs : PlainIx b) : DE X (.Subscript a b pos) (e2 g fa fb) := by
  obtain ⟨ta, tb, pa, pb, k⟩ := two hg ha hb
  exact ⟨_, pe_ix ho pa pb hs, k⟩
/-- the bool that a value is -/
def tB' (f : Ev → Option (D × Ev)) : Ev → Option (Bool × Ev) := fun ρ => (f ρ).bind fun p => match p.1 with
  | .bl b => some (b, p.2)
  | _ => none
theorem dt_cmp {a b : Expr} {op : CmpOp} {fa fb : Ev → Option (Hd × Ev)} {g : D → D → Option D} {r : R2} {pos : Pos} (ho : OpR X (compareOp op) r) (hg : Op2 X.K r g) (ha : DH X a fa) (hb : DH X b fb)
    (hm : behindInMarks op b = false) : DT X (.Compare a [op] [b] pos) (tB' (e2 g fa fb)) := by
  obtain ⟨ta, tb, pa, pb, k⟩ := two hg ha hb
  refine ⟨_, pt_cmpR ho pa pb hm, fun σ H ρ l Q c ρ' hl hi hf q => ?_⟩
  obtain ⟨⟨d, ρ1⟩, e1, hf⟩ := Option.bind_eq_some_iff.mp hf
  cases d with
  | bl b' =>
    cases hf
    refine k σ H ρ l _ _ _ hl hi e1 fun v H' hl' hi' => ?_
    have hv : v = .bl c := hi'.view (List.mem_cons_self)
    subst hv
    exact ⟨c, rfl, q H' hl' hi'.tail⟩
  | _ => cases hf
end
end Mv
end
section
set_option Elab.async false
set_option linter.all false
set_option maxRecDepth 100000
/-! Judgements, second part: tests, arguments, calls, statements, loops, defs. -/
namespace Mv
open PySem PySem.Spec PyProof.Rows L2

theorem perm_mid {A B C : List Itm} : (A ++ (B ++ C)).Perm (B ++ (A ++ C)) := by
  rw [← List.append_assoc, ← List.append_assoc]
  exact List.Perm.append_right C List.perm_append_comm
section
variable {X : Cx}
/-! ### truth -/
def D.tru : D → Option Bool
  | .non => some false
  | .bl b => some b
  | .int i => some (i != 0)
  | .str y => if y.length ≤ sizeLine then some ((y.length : Int) != 0) else none
  | .lst _ xs => some (!xs.isEmpty)
  | .tup xs => some (!xs.isEmpty)
  | .cst xs => some (!xs.isEmpty)
  | _ => none
theorem isEmpty_len {α β : Type} {xs : List α} {ys : List β} (h : xs.length = ys.length) : xs.isEmpty = ys.isEmpty := by
  cases xs <;> cases ys <;> simp at h ⊢
theorem tru_of {K : Frg} {E : List Addr} {H : Hp} {l : List Itm} {v : V} {d : D} {b : Bool} (hi : Items K E H l) (hm : (some v, d) ∈ l) (h : d.tru = some b) : TruV K v H b := by
  have hz := hi.view hm
  cases d with
  | non => cases hz; cases h; rfl
  | bl c => cases hz; cases h; rfl
  | int i => cases hz; cases h; rfl
  | str y =>
    cases hz
    replace h : (if y.length ≤ sizeLine then some ((y.length : Int) != 0) else none) = some b := h
    split at h
    · rename_i k
      cases h
      exact ⟨k, rfl⟩
    · cases h
  | lst o xs =>
    obtain ⟨a, ys, rfl, hs, hl⟩ := hz
    cases h
    exact .inl ⟨ys, SqL.of hs, by rw [isEmpty_len hl.length]⟩
  | tup xs =>
    obtain ⟨a, ys, rfl, hs, hl⟩ := hz
    cases h
    exact .inr (.inl ⟨ys, hs, by rw [isEmpty_len hl.length]⟩)
  | cst xs =>
    obtain ⟨a, ys, rfl, hs, hl⟩ := hz
    cases h
    exact .inl ⟨ys, hs, by rw [isEmpty_len hl.length]⟩
  | any => cases h
  | rng _ _ => cases h
  | ty _ => cases h
def tT (f : Ev → Option (Hd × Ev)) : Ev → Option (Bool × Ev) := fun ρ => (f ρ).bind fun p => ((p.1.get p.2).tru).map fun b => (b, p.2)
theorem dt_truth {e : Expr} {f : Ev → Option (Hd × Ev)} (h : DH X e f) (he : ∀ whole, isTrue e X.env whole = (do let v ← whole; standAt e.pos; holding [v] (truthy v)) := by exact fun _ => rfl) : DT X e (tT f) := by
  obtain ⟨t, ht, k⟩ := h.ex
  refine ⟨_, pt_truth ht he, fun σ H ρ l Q r ρ' hl hi hf q => ?_⟩
  obtain ⟨⟨hd, ρ1⟩, e1, hf⟩ := Option.bind_eq_some_iff.mp hf
  obtain ⟨b, e2, hf⟩ := Option.map_eq_some_iff.mp hf
  cases hf
  refine k σ H ρ l _ hd _ hl hi e1 fun v H' hl' ha hi' => ?_
  exact ⟨r, tru_of hi' (mem_hd (X := X) (hl := by omega) ha hi') e2, q H' hl' hi'.drop⟩
def tNo (f : Ev → Option (Bool × Ev)) : Ev → Option (Bool × Ev) := fun ρ => (f ρ).map fun p => (!p.1, p.2)
theorem dt_not {a : Expr} {pos : Pos} {f : Ev → Option (Bool × Ev)} (h : DT X a f) : DT X (.UnaryOp .Not a pos) (tNo f) := by
  obtain ⟨t, ht, k⟩ := h.ex
  refine ⟨_, pt_not ht, fun σ H ρ l Q r ρ' hl hi hf q => ?_⟩
  obtain ⟨⟨b, ρ1⟩, e1, hf⟩ := Option.map_eq_some_iff.mp hf
  cases hf
  exact k σ H ρ l _ b _ hl hi e1 fun H' hl' hi' => q H' hl' hi'
theorem dt_w {e : Expr} {f : Ev → Option (Bool × Ev)} (h : DW X e f) : DT X e f := by
  obtain ⟨t, ht, k⟩ := h.ex
  exact ⟨t, ht.pt, k⟩
theorem dw_and1 {a : Expr} {pos : Pos} {f : Ev → Option (Bool × Ev)} (h : DT X a f) : DW X (.BoolOp .And [a] pos) f := by
  obtain ⟨t, ht, k⟩ := h.ex
  exact ⟨t, pw_and1 ht, k⟩
theorem dw_or1 {a : Expr} {pos : Pos} {f : Ev → Option (Bool × Ev)} (h : DT X a f) : DW X (.BoolOp .Or [a] pos) f := by
  obtain ⟨t, ht, k⟩ := h.ex
  exact ⟨t, pw_or1 ht, k⟩
def tAn (f g : Ev → Option (Bool × Ev)) : Ev → Option (Bool × Ev) := fun ρ => (f ρ).bind fun p => if p.1 = true then g p.2 else some (false, p.2)
def tOr' (f g : Ev → Option (Bool × Ev)) : Ev → Option (Bool × Ev) := fun ρ => (f ρ).bind fun p => if p.1 = true then some (true, p.2) else g p.2
theorem dw_and {a b : Expr} {rest : List Expr} {pos : Pos} {f g : Ev → Option (Bool × Ev)} (h : DT X a f) (h' : DW X (.BoolOp .And (b :: rest) pos) g) : DW X (.BoolOp .And (a :: b :: rest) pos) (tAn f g) := by
  obtain ⟨t, ht, k⟩ := h.ex
  obtain ⟨t', ht', k'⟩ := h'.ex
  refine ⟨_, pw_and ht ht', fun σ H ρ l Q r ρ' hl hi hf q => ?_⟩
  obtain ⟨⟨b, ρ1⟩, e1, hf⟩ := Option.bind_eq_some_iff.mp hf
  refine k σ H ρ l _ b ρ1 hl hi e1 fun H' hl' hi' => ?_
  cases b with
  | true =>
    rw [if_pos rfl] at hf
    rw [if_pos rfl]
    exact k' σ H' ρ1 l Q r ρ' (by omega) hi' hf fun H2 l2 i2 => q H2 (by omega) i2
  | false =>
    rw [if_neg Bool.false_ne_true] at hf
    rw [if_neg Bool.false_ne_true]
    cases hf
    exact q H' hl' hi'
theorem dw_or {a b : Expr} {rest : List Expr} {pos : Pos} {f g : Ev → Option (Bool × Ev)} (h : DT X a f) (h' : DW X (.BoolOp .Or (b :: rest) pos) g) : DW X (.BoolOp .Or (a :: b :: rest) pos) (tOr' f g) := by
  obtain ⟨t, ht, k⟩ := h.ex
  obtain ⟨t', ht', k'⟩ := h'.ex
  refine ⟨_, pw_or ht ht', fun σ H ρ l Q r ρ' hl hi hf q => ?_⟩
  obtain ⟨⟨b, ρ1⟩, e1, hf⟩ := Option.bind_eq_some_iff.mp hf
  refine k σ H ρ l _ b ρ1 hl hi e1 fun H' hl' hi' => ?_
  cases b with
  | false =>
    rw [if_neg Bool.false_ne_true] at hf
    rw [if_neg Bool.false_ne_true]
    exact k' σ H' ρ1 l Q r ρ' (by omega) hi' hf fun H2 l2 i2 => q H2 (by omega) i2
  | true =>
    rw [if_pos rfl] at hf
    rw [if_pos rfl]
    cases hf
    exact q H' hl' hi'
/-! ### and, or, not, if as values -/
def eAn (f g : Ev → Option (D × Ev)) : Ev → Option (D × Ev) := fun ρ => (f ρ).bind fun p => p.1.tru.bind fun b => if b = true then g p.2 else some p
def eOr (f g : Ev → Option (D × Ev)) : Ev → Option (D × Ev) := fun ρ => (f ρ).bind fun p => p.1.tru.bind fun b => if b = true then some p else g p.2
def eNo (f : Ev → Option (D × Ev)) : Ev → Option (D × Ev) := fun ρ => (f ρ).bind fun p => p.1.tru.map fun b => (.bl (!b), p.2)
theorem de_one {a : Expr} {op} {pos : Pos} {f : Ev → Option (D × Ev)} (h : DE X a f) : DE X (.BoolOp op [a] pos) f := by
  obtain ⟨t, ht, k⟩ := h.ex
  exact ⟨t, pe_one ht, k⟩
theorem de_and {a b : Expr} {rest : List Expr} {pos : Pos} {f g : Ev → Option (D × Ev)} (h : DE X a f) (h' : DE X (.BoolOp .And (b :: rest) pos) g) : DE X (.BoolOp .And (a :: b :: rest) pos) (eAn f g) := by
  obtain ⟨t, ht, k⟩ := h.ex
  obtain ⟨t', ht', k'⟩ := h'.ex
  refine ⟨_, pe_andT ht ht', fun σ H ρ l Q r ρ' hl hi hf q => ?_⟩
  obtain ⟨⟨x, ρ1⟩, e1, hf⟩ := Option.bind_eq_some_iff.mp hf
  obtain ⟨b, e2, hf⟩ := Option.bind_eq_some_iff.mp hf
  refine k σ H ρ l _ x ρ1 hl hi e1 fun v H' hl' hi' => ⟨b, tru_of hi' (List.mem_cons_self) e2, ?_⟩
  cases b with
  | true =>
    rw [if_pos rfl] at hf
    rw [if_pos rfl]
    exact k' σ H' ρ1 l Q r ρ' (by omega) hi'.tail hf fun v H2 l2 i2 => q v H2 (by omega) i2
  | false =>
    rw [if_neg Bool.false_ne_true] at hf
    rw [if_neg Bool.false_ne_true]
    cases hf
    exact q v H' hl' hi'
theorem de_or {a b : Expr} {rest : List Expr} {pos : Pos} {f g : Ev → Option (D × Ev)} (h : DE X a f) (h' : DE X (.BoolOp .Or (b :: rest) pos) g) : DE X (.BoolOp .Or (a :: b :: rest) pos) (eOr f g) := by
  obtain ⟨t, ht, k⟩ := h.ex
  obtain ⟨t', ht', k'⟩ := h'.ex
  refine ⟨_, pe_orT ht ht', fun σ H ρ l Q r ρ' hl hi hf q => ?_⟩
  obtain ⟨⟨x, ρ1⟩, e1, hf⟩ := Option.bind_eq_some_iff.mp hf
  obtain ⟨b, e2, hf⟩ := Option.bind_eq_some_iff.mp hf
  refine k σ H ρ l _ x ρ1 hl hi e1 fun v H' hl' hi' => ⟨b, tru_of hi' (List.mem_cons_self) e2, ?_⟩
  cases b with
  | false =>
    rw [if_neg Bool.false_ne_true] at hf
    rw [if_neg Bool.false_ne_true]
    exact k' σ H' ρ1 l Q r ρ' (by omega) hi'.tail hf fun v H2 l2 i2 => q v H2 (by omega) i2
  | true =>
    rw [if_pos rfl] at hf
    rw [if_pos rfl]
    cases hf
    exact q v H' hl' hi'
theorem de_not {a : Expr} {pos : Pos} {f : Ev → Option (D × Ev)} (h : DE X a f) : DE X (.UnaryOp .Not a pos) (eNo f) := by
  obtain ⟨t, ht, k⟩ := h.ex
  refine ⟨_, pe_notT ht, fun σ H ρ l Q r ρ' hl hi hf q => ?_⟩
  obtain ⟨⟨x, ρ1⟩, e1, hf⟩ := Option.bind_eq_some_iff.mp hf
  obtain ⟨b, e2, hf⟩ := Option.map_eq_some_iff.mp hf
  cases hf
  exact k σ H ρ l _ x _ hl hi e1 fun v H' hl' hi' => ⟨b, tru_of hi' (List.mem_cons_self) e2, q _ H' hl' (hi'.tail.add (d := .bl (!b)) rfl fun _ _ => rfl)⟩
def eIf (c : Ev → Option (Bool × Ev)) (f g : Ev → Option (D × Ev)) : Ev → Option (D × Ev) := fun ρ => (c ρ).bind fun p => if p.1 = true then f p.2 else g p.2
theorem de_if {c a b : Expr} {pos : Pos} {fc : Ev → Option (Bool × Ev)} {f g : Ev → Option (D × Ev)} (hc : DT X c fc) (ha : DE X a f) (hb : DE X b g) : DE X (.IfExp c a b pos) (eIf fc f g) := by
  obtain ⟨t, ht, k⟩ := hc.ex
  obtain ⟨ta, pa, ka⟩ := ha.ex
  obtain ⟨tb, pb, kb⟩ := hb.ex
  refine ⟨_, pe_ifExp ht pa pb, fun σ H ρ l Q r ρ' hl hi hf q => ?_⟩
  obtain ⟨⟨x, ρ1⟩, e1, hf⟩ := Option.bind_eq_some_iff.mp hf
  refine k σ H ρ l _ x ρ1 hl hi e1 fun H' hl' hi' => ?_
  cases x with
  | true =>
    rw [if_pos rfl] at hf
    rw [if_pos rfl]
    exact ka σ H' ρ1 l Q r ρ' (by omega) hi' hf fun v H2 l2 i2 => q v H2 (by omega) i2
  | false =>
    rw [if_neg Bool.false_ne_true] at hf
    rw [if_neg Bool.false_ne_true]
    exact kb σ H' ρ1 l Q r ρ' (by omega) hi' hf fun v H2 l2 i2 => q v H2 (by omega) i2
/-- one operand -/
def Op1 (K : Frg) (r : V → Hp → VK → Prop) (g : D → Option D) : Prop := ∀ (x : V) (H : Hp) (dx : D) (l : List Itm) (Q : VK) (d : D), Items K [] H l → (some x, dx) ∈ l → g dx = some d →
  (∀ v H', Items K [] H' ((some v, d) :: l) → Q v H') → r x H Q
def e1 (g : D → Option D) (fa : Ev → Option (Hd × Ev)) : Ev → Option (D × Ev) := fun ρ => (fa ρ).bind fun p => (g (p.1.get p.2)).map fun d => (d, p.2)
theorem de_un {a : Expr} {op : UnaryOp} {pos : Pos} {r : V → Hp → VK → Prop} {g : D → Option D} {fa : Ev → Option (Hd × Ev)} (ho : UnR X (unaryOp op) r) (hg : Op1 X.K r g) (ha : DH X a fa) : DE X (.UnaryOp op a pos) (e1 g fa) := by
  obtain ⟨t, ht, k⟩ := ha.ex
  refine ⟨_, pe_un ho ht, fun σ H ρ l Q d ρ' hl hi hf q => ?_⟩
  obtain ⟨⟨h, ρ1⟩, e1, hf⟩ := Option.bind_eq_some_iff.mp hf
  obtain ⟨b, e2, hf⟩ := Option.map_eq_some_iff.mp hf
  cases hf
  refine k σ H ρ l _ h _ hl hi e1 fun v H' hl' ha hi' => ?_
  refine hg v H' _ _ Q _ hi' (mem_hd (X := X) (hl := by omega) ha hi') e2 fun v2 H2 i2 => q v2 H2 hl' (i2.sub ⟨h.its v, List.perm_middle.symm⟩)

/-! ### arguments, displays -/
def aNil : Ev → Option (List Hd × Ev) := fun ρ => some ([], ρ)
def aCons (f : Ev → Option (Hd × Ev)) (g : Ev → Option (List Hd × Ev)) : Ev → Option (List Hd × Ev) := fun ρ => (f ρ).bind fun p => (g p.2).map fun q => (p.1 :: q.1, q.2)
theorem da_nil : DA X [] aNil := ⟨tNil, pa_nil, fun σ H ρ l Q r ρ' hl hi hf q => by cases hf; exact q [] H rfl trivial hi⟩
theorem da_cons {e : Expr} {es : List Expr} {f : Ev → Option (Hd × Ev)} {g : Ev → Option (List Hd × Ev)} (h : DH X e f) (h' : DA X es g) (hs : starEach (e :: es) X.env = (false, eval e X.env) :: starEach es X.env := by rfl) : DA X (e :: es) (aCons f g) := by
  obtain ⟨t, ht, k⟩ := h.ex
  obtain ⟨t', ht', k'⟩ := h'.ex
  refine ⟨_, pa_cons ht ht' hs, fun σ H ρ l Q r ρ' hl hi hf q => ?_⟩
  obtain ⟨⟨hd, ρ1⟩, e1, hf⟩ := Option.bind_eq_some_iff.mp hf
  obtain ⟨⟨hds, ρ2⟩, e2, hf⟩ := Option.map_eq_some_iff.mp hf
  cases hf
  refine k σ H ρ l _ hd ρ1 hl hi e1 fun v H1 l1 a1 i1 => ?_
  refine k' σ H1 ρ1 (hd.its v ++ l) _ hds _ (by omega) (i1.perm perm_mid) e2 fun vs H2 l2 a2 i2 => ?_
  refine q (v :: vs) H2 (by show _ = _; simp only at l1 l2 ⊢; omega) ⟨a1, a2⟩ (i2.perm ?_)
  show List.Perm _ ((hd.its v ++ hits hds vs) ++ _)
  rw [List.append_assoc]
  refine List.Perm.trans (List.Perm.append_left _ perm_mid) perm_mid
theorem da_zero {f : Ev → Option (List Hd × Ev)} : True := trivial

/-! ### values taken over: all into the frozen or as they are -/
/-- the arguments given over (out of the slots where they were owned) -/
def lend : List Hd → Ev → List D × Ev
  | [], ρ => ([], ρ)
  | .tm d :: hs, ρ => (d :: (lend hs ρ).1, (lend hs ρ).2)
  | .sl i :: hs, ρ => if (ρ.getD i .any).frz = true then ((ρ.getD i .any) :: (lend hs ρ).1, (lend hs ρ).2) else ((ρ.getD i .any) :: (lend hs (ρ.set i .any)).1, (lend hs (ρ.set i .any)).2)
def unlend : List Hd → List D → List D → Ev → Ev
  | .tm _ :: hs, _ :: ds, _ :: bs, ρ => unlend hs ds bs ρ
  | .sl i :: hs, d :: ds, b :: bs, ρ => if d.frz = true then unlend hs ds bs ρ else unlend hs ds bs (ρ.set i b)
  | _, _, _, ρ => ρ
theorem lend_len : ∀ (hs : List Hd) (ρ : Ev), (lend hs ρ).2.length = ρ.length ∧ (lend hs ρ).1.length = hs.length
  | [], ρ => ⟨rfl, rfl⟩
  | .tm d :: hs, ρ => by
    obtain ⟨h1, h2⟩ := lend_len hs ρ
    exact ⟨h1, by show (lend hs ρ).1.length + 1 = _; rw [h2]; rfl⟩
  | .sl i :: hs, ρ => by
    unfold lend
    split
    · obtain ⟨h1, h2⟩ := lend_len hs ρ
      exact ⟨h1, by show (lend hs ρ).1.length + 1 = _; rw [h2]; rfl⟩
    · obtain ⟨h1, h2⟩ := lend_len hs (ρ.set i .any)
      exact ⟨by show (lend hs (ρ.set i .any)).2.length = _; rw [h1]; simp, by show (lend hs (ρ.set i .any)).1.length + 1 = _; rw [h2]; rfl⟩
theorem unlend_len : ∀ (hs : List Hd) (ds bs : List D) (ρ : Ev), (unlend hs ds bs ρ).length = ρ.length := by
  intro hs
  induction hs with
  | nil => intro ds bs ρ; unfold unlend; rfl
  | cons h hs ih =>
    intro ds bs ρ
    cases ds with
    | nil => cases h <;> (unfold unlend; rfl)
    | cons d ds =>
      cases bs with
      | nil => cases h <;> (unfold unlend; rfl)
      | cons b bs =>
        cases h with
        | tm _ => unfold unlend; exact ih _ _ _
        | sl i =>
          unfold unlend
          split
          · exact ih _ _ _
          · rw [ih]; simp
theorem hats_len : ∀ {hs : List Hd} {vs : List V} {σ : Sl}, hats σ hs vs → vs.length = hs.length
  | [], [], _, _ => rfl
  | [], _ :: _, _, h => h.elim
  | _ :: _, [], _, h => h.elim
  | _ :: hs, _ :: vs, _, h => by simp [hats_len h.2]
theorem lend_items {K : Frg} {H : Hp} {σ : Sl} : ∀ {hs : List Hd} {vs : List V} {ρ : Ev} {l : List Itm}, σ.length = ρ.length → hats σ hs vs → Items K [] H (hits hs vs ++ (σ.zip ρ ++ l)) →
    Items K [] H (prs vs (lend hs ρ).1 ++ (σ.zip (lend hs ρ).2 ++ l))
  | [], [], _, _, _, _, h => h
  | [], _ :: _, _, _, _, h, _ => h.elim
  | _ :: _, [], _, _, _, h, _ => h.elim
  | .tm d :: hs, v :: vs, ρ, l, hl, ha, hi => by
    have h1 : Items K [] H ((some v, d) :: (hits hs vs ++ (σ.zip ρ ++ l))) := hi
    have h2 : Items K [] H (hits hs vs ++ (σ.zip ρ ++ ((some v, d) :: l))) := h1.perm (by
      refine List.Perm.trans List.perm_middle.symm ?_
      exact List.Perm.append_left _ List.perm_middle.symm)
    have h3 := lend_items hl ha.2 h2
    exact h3.perm (by
      refine List.Perm.trans (List.Perm.append_left _ List.perm_middle) ?_
      exact List.perm_middle)
  | .sl i :: hs, v :: vs, ρ, l, hl, ha, hi => by
    have h1 : σ[i]? = some (some v) := ha.1
    have h2 : i < ρ.length := by
      have := (List.getElem?_eq_some_iff.mp h1).1
      omega
    have h3 : ρ[i]? = some ρ[i] := List.getElem?_eq_getElem h2
    have h4 : ρ.getD i .any = ρ[i] := getD_of h3
    have hi' : Items K [] H (hits hs vs ++ (σ.zip ρ ++ l)) := hi
    unfold lend
    rw [h4]
    split
    · rename_i z
      have m : (some v, ρ[i]) ∈ hits hs vs ++ (σ.zip ρ ++ l) := List.mem_append_right _ (List.mem_append_left _ (zip_mem h1 h3))
      have h5 : Items K [] H (hits hs vs ++ (σ.zip ρ ++ ((some v, ρ[i]) :: l))) := (hi'.dup m z).perm (by
        refine List.Perm.trans List.perm_middle.symm ?_
        exact List.Perm.append_left _ List.perm_middle.symm)
      have h6 := lend_items hl ha.2 h5
      exact h6.perm (by
        refine List.Perm.trans (List.Perm.append_left _ List.perm_middle) ?_
        exact List.perm_middle)
    · have h5 : Items K [] H (σ.zip ρ ++ (hits hs vs ++ l)) := hi'.perm perm_mid
      obtain ⟨A, B, k1, k2⟩ := h5.slot h1 h3
      have k3 : Items K [] H ((some v, D.any) :: (A ++ B ++ ((some v, ρ[i]) :: (hits hs vs ++ l)))) := (k1.blank (o := some v)).perm (.cons _ List.perm_middle.symm)
      have k4 := k2 [] H _ .any k3
      have k5 : Items K [] H (hits hs vs ++ (σ.zip (ρ.set i .any) ++ ((some v, ρ[i]) :: l))) := k4.perm (by
        refine List.Perm.trans (List.Perm.append_left _ List.perm_middle.symm) ?_
        exact perm_mid)
      have h6 := lend_items (by simpa using hl) ha.2 k5
      exact h6.perm (by
        refine List.Perm.trans (List.Perm.append_left _ List.perm_middle) ?_
        exact List.perm_middle)
theorem unlend_items {K : Frg} {H : Hp} {σ : Sl} : ∀ {hs : List Hd} {vs : List V} {ds bs : List D} {ρ : Ev} {l : List Itm}, σ.length = ρ.length → hats σ hs vs → ds.length = hs.length → bs.length = hs.length → Items K [] H (prs vs bs ++ (σ.zip ρ ++ l)) →
    Items K [] H (σ.zip (unlend hs ds bs ρ) ++ l)
  | [], [], _, _, _, _, _, _, _, _, h => by unfold unlend; exact h.drop
  | [], _ :: _, _, _, _, _, _, h, _, _, _ => h.elim
  | _ :: _, [], _, _, _, _, _, h, _, _, _ => h.elim
  | _ :: _, _ :: _, [], _, _, _, _, _, h, _, _ => by simp at h
  | _ :: _, _ :: _, _ :: _, [], _, _, _, _, _, h, _ => by simp at h
  | .tm _ :: hs, v :: vs, d :: ds, b :: bs, ρ, l, hl, ha, e1, e2, hi => by
    unfold unlend
    exact unlend_items hl ha.2 (by simpa using e1) (by simpa using e2) (Items.tail (i := (some v, b)) hi)
  | .sl i :: hs, v :: vs, d :: ds, b :: bs, ρ, l, hl, ha, e1, e2, hi => by
    unfold unlend
    split
    · exact unlend_items hl ha.2 (by simpa using e1) (by simpa using e2) (Items.tail (i := (some v, b)) hi)
    · have h1 : σ[i]? = some (some v) := ha.1
      have h2 : i < ρ.length := by
        have := (List.getElem?_eq_some_iff.mp h1).1
        omega
      have h3 : ρ[i]? = some ρ[i] := List.getElem?_eq_getElem h2
      have hi' : Items K [] H ((some v, b) :: (prs vs bs ++ (σ.zip ρ ++ l))) := hi
      have h5 : Items K [] H (σ.zip ρ ++ ((some v, b) :: (prs vs bs ++ l))) := hi'.perm (by
        refine List.Perm.trans (.cons _ perm_mid) ?_
        exact List.perm_middle.symm)
      obtain ⟨A, B, k1, k2⟩ := h5.slot h1 h3
      have k3 : Items K [] H ((some v, b) :: (A ++ B ++ (prs vs bs ++ l))) := k1.tail.perm List.perm_middle
      have k4 := k2 [] H _ b k3
      exact unlend_items (by simpa using hl) ha.2 (by simpa using e1) (by simpa using e2) (k4.perm perm_mid)

/-! ### calls of the program's own defs -/
def dspec (K : Frg) (n : Nat) (F : List D → Option (D × List D)) : Sp := fun vs H Q _ => ∃ l ds r bs, vs.length = n ∧ ds.length = n ∧ Items K [] H (prs vs ds ++ l) ∧ F ds = some (r, bs) ∧
  ∀ v H', bs.length = n → Items K [] H' ((some v, r) :: (prs vs bs ++ l)) → Q v H'
structure FOk (P : Program) (w : World) (K : Frg) (mg : Str → Option Value) (base : Heap) (k : Nat) (x : Str) (ps : List Str) (F : List D → Option (D × List D)) : Prop where
  ex : ∃ f fd, mg x = some (.ref f) ∧ PySem.W.keepIn K (.ref f) = true ∧ Binds K fd ps [] ∧ (∃ oc od osl, K.lookup f = some ⟨oc, od, .func fd, osl⟩) ∧ FnOk P w K mg base CX0 k f fd ps (dspec K ps.length F)
theorem FOk.mono {P : Program} {w : World} {K : Frg} {mg : Str → Option Value} {base : Heap} {j k : Nat} {x : Str} {ps : List Str} {F : List D → Option (D × List D)} (h : FOk P w K mg base j x ps F) (hk : j ≤ k) : FOk P w K mg base k x ps F := by
  obtain ⟨f, fd, h1, h2, h3, h4, h5⟩ := h.ex
  exact ⟨f, fd, h1, h2, h3, h4, h5.mono hk⟩
def eCall (n : Nat) (F : List D → Option (D × List D)) (fa : Ev → Option (List Hd × Ev)) : Ev → Option (D × Ev) := fun ρ => (fa ρ).bind fun p =>
  if p.1.length = n then (F (lend p.1 p.2).1).map fun r => (r.1, unlend p.1 (lend p.1 p.2).1 r.2 (lend p.1 p.2).2) else none
theorem call_core {k n : Nat} {F : List D → Option (D × List D)} {K : Frg} {fa : Ev → Option (List Hd × Ev)} {es : List Expr} {t : TA}
    (ka : ∀ (σ : Sl) (H : Hp) (ρ : Ev) (l : List Itm) (Q : List V → Hp → Prop) (r : List Hd) (ρ' : Ev), σ.length = ρ.length → Items K [] H (σ.zip ρ ++ l) → fa ρ = some (r, ρ') →
    (∀ vs H', ρ'.length = ρ.length → hats σ r vs → Items K [] H' (hits r vs ++ (σ.zip ρ' ++ l)) → Q vs H') → t σ H Q)
    (σ : Sl) (H : Hp) (ρ : Ev) (l : List Itm) (Q : VK) (r : D) (ρ' : Ev) (hl : σ.length = ρ.length) (hi : Items K [] H (σ.zip ρ ++ l)) (hf : eCall n F fa ρ = some (r, ρ'))
    (q : ∀ v H', ρ'.length = ρ.length → Items K [] H' ((some v, r) :: (σ.zip ρ' ++ l)) → Q v H') : tCall (dspec K n F) [] E0 t σ H Q := by
  obtain ⟨⟨hds, ρ1⟩, e1, hf⟩ := Option.bind_eq_some_iff.mp hf
  replace hf : (if hds.length = n then (F (lend hds ρ1).1).map fun r => (r.1, unlend hds (lend hds ρ1).1 r.2 (lend hds ρ1).2) else none) = some (r, ρ') := hf
  split at hf
  · rename_i hn
    obtain ⟨⟨d, bs⟩, e2, hf⟩ := Option.map_eq_some_iff.mp hf
    cases hf
    refine ka σ H ρ l _ hds ρ1 hl hi e1 fun vs H1 l1 a1 i1 => ?_
    have hlen := hats_len a1
    obtain ⟨n1, n2⟩ := lend_len hds ρ1
    rw [List.append_nil]
    refine ⟨σ.zip (lend hds ρ1).2 ++ l, (lend hds ρ1).1, d, bs, by omega, by omega, lend_items (by omega) a1 i1, e2, fun v H2 lb i2 => ?_⟩
    refine q v H2 (by rw [unlend_len]; omega) ?_
    have i3 : Items K [] H2 (prs vs bs ++ (σ.zip (lend hds ρ1).2 ++ ((some v, d) :: l))) := i2.perm (by
      refine List.Perm.trans List.perm_middle.symm ?_
      exact List.Perm.append_left _ List.perm_middle.symm)
    exact (unlend_items (by omega) a1 n2 (by omega) i3).perm List.perm_middle
  · cases hf
theorem de_call {k n : Nat} {x : Str} {ps : List Str} {F : List D → Option (D × List D)} {p pos : Pos} {e : Expr} {es : List Expr} {fa : Ev → Option (List Hd × Ev)} (hF : FOk X.prog X.w X.K X.mg X.base k x ps F) (hr : Room k X.A) (hg : Gl X x) (ha : DA X (e :: es) fa)
    (hdb : (x == ("__debug__" : Str)) = false := by decide) (he : starEach (e :: es) X.env = (false, eval e X.env) :: starEach es X.env := by rfl) (hpl : (backTo pos (starEach es X.env)).any (·.1) = false := by rfl)
    (hn : ps.length = n := by rfl) : DE X (.Call (.Name x p) (e :: es) [] pos) (eCall n F fa) := by
  subst hn
  obtain ⟨f, fd, h1, h2, h3, h4, h5⟩ := hF.ex
  obtain ⟨t, ht, ka⟩ := ha.ex
  exact ⟨_, pe_call h5 hr hg h1 h2 h3 .nil pass0 ht hdb he hpl, fun σ H ρ l Q r ρ' hl hi hf q => call_core (k := k) (es := e :: es) ka σ H ρ l Q r ρ' hl hi hf q⟩
theorem de_call0 {k : Nat} {x : Str} {F : List D → Option (D × List D)} {p pos : Pos} (hF : FOk X.prog X.w X.K X.mg X.base k x [] F) (hr : Room k X.A) (hg : Gl X x) (hdb : (x == ("__debug__" : Str)) = false := by decide) :
    DE X (.Call (.Name x p) [] [] pos) (eCall 0 F aNil) := by
  obtain ⟨f, fd, h1, h2, h3, h4, h5⟩ := hF.ex
  obtain ⟨t, ht, ka⟩ := (da_nil (X := X)).ex
  refine ⟨_, pe_call0 h5 hr hg h1 h2 h3 .nil pass0 hdb, fun σ H ρ l Q r ρ' hl hi hf q => ?_⟩
  exact call_core (k := k) (es := []) (t := tNil) (fun σ H ρ l Q r ρ' hl hi hf q => by cases hf; exact q [] H rfl trivial hi) σ H ρ l Q r ρ' hl hi hf q

/-! ### calls of builtins -/
def OpN (K : Frg) (r : List V → Hp → VK → Prop) (g : List D → Option D) : Prop := ∀ (xs : List V) (H : Hp) (ds : List D) (l : List Itm) (Q : VK) (d : D), Items K [] H l → Paired (fun x dx => (some x, dx) ∈ l) xs ds → g ds = some d →
  (∀ v H', Items K [] H' ((some v, d) :: l) → Q v H') → r xs H Q
def eN (g : List D → Option D) (fa : Ev → Option (List Hd × Ev)) : Ev → Option (D × Ev) := fun ρ => (fa ρ).bind fun p => (g (p.1.map (Hd.get p.2))).map fun d => (d, p.2)
theorem mem_hits {K : Frg} {H : Hp} {σ : Sl} {ρ : Ev} (hl : σ.length = ρ.length) : ∀ {hs : List Hd} {vs : List V} {l : List Itm}, hats σ hs vs → Paired (fun x dx => (some x, dx) ∈ hits hs vs ++ (σ.zip ρ ++ l)) vs (hs.map (Hd.get ρ))
  | [], [], _, _ => .nil
  | [], _ :: _, _, h => h.elim
  | _ :: _, [], _, h => h.elim
  | h :: hs, v :: vs, l, ha => by
    refine .cons ?_ (Paired.mapP (mem_hits (K := K) (H := H) hl (l := l) ha.2) fun x dx hm => ?_)
    · cases h with
      | tm d => simp [Hd.its, Hd.get, hits]
      | sl i =>
        have h1 : σ[i]? = some (some v) := ha.1
        have h2 : i < ρ.length := by
          have := (List.getElem?_eq_some_iff.mp h1).1
          omega
        have h3 : ρ[i]? = some ρ[i] := List.getElem?_eq_getElem h2
        simp only [Hd.get, getD_of h3]
        exact List.mem_append_right _ (List.mem_append_left _ (zip_mem h1 h3))
    · show _ ∈ (h.its v ++ hits hs vs) ++ _
      rw [List.append_assoc]
      exact List.mem_append_right _ hm
theorem callN {fa : Ev → Option (List Hd × Ev)} {es : List Expr} {r : List V → Hp → VK → Prop} {g : List D → Option D} (hg : OpN X.K r g) (ha : DA X es fa) :
    ∃ t, PA X es t ∧ ∀ (σ : Sl) (H : Hp) (ρ : Ev) (l : List Itm) (Q : VK) (d : D) (ρ' : Ev), σ.length = ρ.length → Items X.K [] H (σ.zip ρ ++ l) → eN g fa ρ = some (d, ρ') →
      (∀ v H', ρ'.length = ρ.length → Items X.K [] H' ((some v, d) :: (σ.zip ρ' ++ l)) → Q v H') → tCB r t σ H Q := by
  obtain ⟨t, ht, ka⟩ := ha.ex
  refine ⟨t, ht, fun σ H ρ l Q d ρ' hl hi hf q => ?_⟩
  obtain ⟨⟨hds, ρ1⟩, e1, hf⟩ := Option.bind_eq_some_iff.mp hf
  obtain ⟨d', e2, hf⟩ := Option.map_eq_some_iff.mp hf
  cases hf
  refine ka σ H ρ l _ hds _ hl hi e1 fun vs H1 l1 a1 i1 => ?_
  exact hg vs H1 _ _ Q _ i1 (mem_hits (K := X.K) (H := H1) (by show σ.length = ρ1.length; have l2 : ρ1.length = ρ.length := l1; omega) a1) e2 fun v H2 i2 => q v H2 l1 (i2.sub ⟨hits hds vs, List.perm_middle.symm⟩)
theorem de_bi {x : Str} {id : String} {p pos : Pos} {e : Expr} {es : List Expr} {fa : Ev → Option (List Hd × Ev)} {r : List V → Hp → VK → Prop} {g : List D → Option D} (hc : CallR X (.builtin id) r) (hgo : OpN X.K r g) (hg : Gl X x) (hm : X.mg x = none) (hv : bootBuiltins x = some (.builtin id)) (ha : DA X (e :: es) fa)
    (hn : x ≠ "__name__" := by decide) (hdb : (x == ("__debug__" : Str)) = false := by decide) (he : starEach (e :: es) X.env = (false, eval e X.env) :: starEach es X.env := by rfl) (hpl : (backTo pos (starEach es X.env)).any (·.1) = false := by rfl) :
    DE X (.Call (.Name x p) (e :: es) [] pos) (eN g fa) := by
  obtain ⟨t, ht, k⟩ := callN hgo ha
  exact ⟨_, pe_callB hc hg hm hv ht hn hdb he hpl, k⟩
theorem de_ty {x : Str} {T : String} {p pos : Pos} {e : Expr} {es : List Expr} {fa : Ev → Option (List Hd × Ev)} {r : List V → Hp → VK → Prop} {g : List D → Option D} (hc : CallR X (.type T) r) (hgo : OpN X.K r g) (hg : Gl X x) (hm : X.mg x = none) (hv : bootBuiltins x = some (.type T)) (ha : DA X (e :: es) fa)
    (hn : x ≠ "__name__" := by decide) (hdb : (x == ("__debug__" : Str)) = false := by decide) (he : starEach (e :: es) X.env = (false, eval e X.env) :: starEach es X.env := by rfl) (hpl : (backTo pos (starEach es X.env)).any (·.1) = false := by rfl) :
    DE X (.Call (.Name x p) (e :: es) [] pos) (eN g fa) := by
  obtain ⟨t, ht, k⟩ := callN hgo ha
  exact ⟨_, pe_callTy hc hg hm hv ht hn hdb he hpl, k⟩
end
end Mv
end
section
set_option Elab.async false
set_option linter.all false
set_option maxRecDepth 100000
/-! Judgements, third part: displays, methods, statements, targets. -/
namespace Mv
open PySem PySem.Spec PyProof.Rows L2

/-- all by themselves -/
def tms : List Hd → Option (List D)
  | [] => some []
  | .tm d :: hs => (tms hs).map fun r => d :: r
  | .sl _ :: _ => none
theorem tms_hits : ∀ {hs : List Hd} {ds : List D} {vs : List V}, tms hs = some ds → vs.length = hs.length → hits hs vs = prs vs ds ∧ ds.length = vs.length
  | [], _, [], h, _ => by cases h; exact ⟨rfl, rfl⟩
  | [], _, _ :: _, _, h => by simp at h
  | _ :: _, _, [], _, h => by simp at h
  | .sl _ :: _, _, _ :: _, h, _ => by cases h
  | .tm d :: hs, _, v :: vs, h, hl => by
    obtain ⟨r, h1, h2⟩ := Option.map_eq_some_iff.mp h
    subst h2
    obtain ⟨k1, k2⟩ := tms_hits (vs := vs) h1 (by simpa using hl)
    refine ⟨?_, by simp [k2]⟩
    show [(some v, d)] ++ hits hs vs = (some v, d) :: prs vs r
    rw [k1]; rfl
section
variable {X : Cx}
def eTup (fa : Ev → Option (List Hd × Ev)) : Ev → Option (D × Ev) := fun ρ => (fa ρ).bind fun p => (tms p.1).bind fun ds => if ds.length ≤ 16777216 then some (.tup ds, p.2) else none
def eLst (fa : Ev → Option (List Hd × Ev)) : Ev → Option (D × Ev) := fun ρ => (fa ρ).bind fun p => (tms p.1).bind fun ds => if ds.length ≤ 16777216 then some (.lst true ds, p.2) else none
theorem de_tup {es : List Expr} {k : Nat} {pos : Pos} {fa : Ev → Option (List Hd × Ev)} (h : DA X es fa) : DE X (.Tuple es k pos) (eTup fa) := by
  obtain ⟨t, ht, ka⟩ := h.ex
  refine ⟨_, pe_tup ht, fun σ H ρ l Q r ρ' hl hi hf q => ?_⟩
  obtain ⟨⟨hds, ρ1⟩, e1, hf⟩ := Option.bind_eq_some_iff.mp hf
  obtain ⟨ds, e2, hf⟩ := Option.bind_eq_some_iff.mp hf
  split at hf
  · rename_i hz
    cases hf
    refine ka σ H ρ l _ hds _ hl hi e1 fun vs H1 l1 a1 i1 => ?_
    obtain ⟨k1, k2⟩ := tms_hits e2 (hats_len a1)
    refine ⟨by rw [sizeLine_eq, ← k2]; exact hz, fun p np => q (.ref p) _ l1 ?_⟩
    rw [k1] at i1
    exact Items.newT np k2.symm i1
  · cases hf
theorem de_lst {es : List Expr} {pos : Pos} {fa : Ev → Option (List Hd × Ev)} (h : DA X es fa) : DE X (.List es pos) (eLst fa) := by
  obtain ⟨t, ht, ka⟩ := h.ex
  refine ⟨_, pe_lst ht, fun σ H ρ l Q r ρ' hl hi hf q => ?_⟩
  obtain ⟨⟨hds, ρ1⟩, e1, hf⟩ := Option.bind_eq_some_iff.mp hf
  obtain ⟨ds, e2, hf⟩ := Option.bind_eq_some_iff.mp hf
  split at hf
  · rename_i hz
    cases hf
    refine ka σ H ρ l _ hds _ hl hi e1 fun vs H1 l1 a1 i1 => ?_
    obtain ⟨k1, k2⟩ := tms_hits e2 (hats_len a1)
    refine ⟨by rw [sizeLine_eq, ← k2]; exact hz, fun p np => q (.ref p) _ l1 ?_⟩
    rw [k1] at i1
    exact Items.new np k2.symm i1 (fun b hb => by cases hb)
  · cases hf

/-! ### methods that change a list in a slot -/
def MutOp (K : Frg) (r : V → List V → Hp → VK → Prop) (g : List D → List D → Option (D × List D)) : Prop := ∀ (a : Addr) (vs : List V) (H : Hp) (ds xs : List D) (l : List Itm) (Q : VK) (d : D) (ys : List D), vs.length = ds.length →
  Items K [] H ((some (.ref a), .lst true xs) :: (prs vs ds ++ l)) → g xs ds = some (d, ys) → (∀ v H', Items K [] H' ((some v, d) :: (some (.ref a), .lst true ys) :: l) → Q v H') → r (.ref a) vs H Q
def eMut (i : Nat) (g : List D → List D → Option (D × List D)) (fa : Ev → Option (List Hd × Ev)) : Ev → Option (D × Ev) := fun ρ => match ρ[i]? with
  | some (.lst _ _) => (fa ρ).bind fun p => (tms p.1).bind fun ds => match p.2[i]? with
    | some (.lst true xs) => (g xs ds).map fun q => (q.1, p.2.set i (.lst true q.2))
    | _ => none
  | _ => none
theorem mut_core {r : V → List V → Hp → VK → Prop} {g : List D → List D → Option (D × List D)} {i : Nat} {fa : Ev → Option (List Hd × Ev)} {t : TA} {x : Str} {pos : Pos} (hN : X.N[i]? = some x) (hg : MutOp X.K r g)
    (ka : ∀ (σ : Sl) (H : Hp) (ρ : Ev) (l : List Itm) (Q : List V → Hp → Prop) (r : List Hd) (ρ' : Ev), σ.length = ρ.length → Items X.K [] H (σ.zip ρ ++ l) → fa ρ = some (r, ρ') →
    (∀ vs H', ρ'.length = ρ.length → hats σ r vs → Items X.K [] H' (hits r vs ++ (σ.zip ρ' ++ l)) → Q vs H') → t σ H Q)
    (σ : Sl) (H : Hp) (ρ : Ev) (l : List Itm) (Q : VK) (d : D) (ρ' : Ev) (hl : σ.length = ρ.length) (hi : Items X.K [] H (σ.zip ρ ++ l)) (hf : eMut i g fa ρ = some (d, ρ'))
    (q : ∀ v H', ρ'.length = ρ.length → Items X.K [] H' ((some v, d) :: (σ.zip ρ' ++ l)) → Q v H') : tBM X.K "list" r (tVar i) t σ H Q := by
  unfold eMut at hf
  split at hf
  · rename_i b zs e5
    obtain ⟨⟨hds, ρ1⟩, e1, hf⟩ := Option.bind_eq_some_iff.mp hf
    obtain ⟨ds, e2, hf⟩ := Option.bind_eq_some_iff.mp hf
    split at hf
    · rename_i xs e3
      obtain ⟨⟨d', ys⟩, e4, hf⟩ := Option.map_eq_some_iff.mp hf
      obtain ⟨ed, eρ⟩ : d' = d ∧ ρ1.set i (.lst true ys) = ρ' := by cases hf; exact ⟨rfl, rfl⟩
      subst ed eρ
      obtain ⟨v, hv⟩ := slot_val hi hl e5 (by intro z; cases z)
      refine ⟨v, hv, ?_, ?_⟩
      · obtain ⟨a, us, rfl, hs, _⟩ := hi.list (List.mem_append_left _ (zip_mem hv e5))
        exact .inl ⟨rfl, us, SqL.of hs⟩
      · refine ka σ H ρ l _ hds ρ1 hl hi e1 fun vs H1 l1 a1 i1 => ?_
        obtain ⟨k1, k2⟩ := tms_hits e2 (hats_len a1)
        rw [k1] at i1
        have i2 : Items X.K [] H1 (σ.zip ρ1 ++ (prs vs ds ++ l)) := i1.perm perm_mid
        obtain ⟨A, B, h1, h2⟩ := i2.slot hv e3
        obtain ⟨a, us, rfl, hs, _⟩ := h1.list (List.mem_cons_self)
        refine hg a vs H1 ds xs (A ++ B ++ l) Q d' ys k2.symm (h1.perm (.cons _ perm_mid)) e4 fun w H2 i3 => ?_
        refine q w H2 (by show (ρ1.set i _).length = _; simp; exact l1) ?_
        have i4 := h2 [] H2 ((some w, d') :: l) (.lst true ys) (i3.perm (by
          refine List.Perm.trans (List.Perm.swap _ _ _) ?_
          exact .cons _ (List.perm_middle.symm)))
        exact i4.perm List.perm_middle
    · cases hf
  · cases hf
theorem de_mut (i : Nat) {id : String} {name x : Str} {e : Expr} {es : List Expr} {npos apos cpos : Pos} {r : V → List V → Hp → VK → Prop} {g : List D → List D → Option (D × List D)} {fa : Ev → Option (List Hd × Ev)} (slot : Slot "list" name id) (hty : typeOf (.builtin id) = pure (.type "method_descriptor"))
    (hm : MtR X id r) (hg : MutOp X.K r g) (ha : DA X (e :: es) fa)
    (hN : X.N[i]? = some x := by rfl) (hv : Vis X.env.scope x := by first | exact Or.inl rfl | exact Or.inr (Or.inl rfl) | exact Or.inr (Or.inr rfl)) (hd : (x == ("__debug__" : Str)) = false := by decide)
    (hcd : (x == ("__classdict__" : Str)) = false := by decide)
    (hbase : attributeBase (.Name x npos) name X.env (eval (.Name x npos) X.env) = eval (.Name x npos) X.env := by rfl)
    (hfew : ((backTo cpos (starEach (e :: es) X.env)).all (fun x => !x.1) && (backToKw cpos (keywordEach [] X.env)).all (fun x => x.1.isSome)
      && decide ((e :: es).length + ([] : List Keyword).length + (if ([] : List Keyword).isEmpty then 0 else 1) < 30)) = true := by rfl)
    (hline : (apos.endLine == cpos.line) = true := by rfl) (hs : starEach (e :: es) X.env = (false, eval e X.env) :: starEach es X.env := by rfl) (hplain : (backTo cpos (starEach es X.env)).any (·.1) = false := by rfl) :
    DE X (.Call (.Attribute (.Name x npos) name apos) (e :: es) [] cpos) (eMut i g fa) := by
  obtain ⟨t, ht, ka⟩ := ha.ex
  exact ⟨_, pe_bm PySem.F.plainAttrs_list slot hty hm (pe_var hN hv hd hcd) ht hbase hfew hline hs hplain, fun σ H ρ l Q r ρ' hl hi hf q => mut_core (x := x) (pos := npos) hN hg ka σ H ρ l Q r ρ' hl hi hf q⟩
theorem de_mut0 (i : Nat) {id : String} {name x : Str} {npos apos cpos : Pos} {r : V → List V → Hp → VK → Prop} {g : List D → List D → Option (D × List D)} (slot : Slot "list" name id) (hty : typeOf (.builtin id) = pure (.type "method_descriptor"))
    (hm : MtR X id r) (hg : MutOp X.K r g)
    (hN : X.N[i]? = some x := by rfl) (hv : Vis X.env.scope x := by first | exact Or.inl rfl | exact Or.inr (Or.inl rfl) | exact Or.inr (Or.inr rfl)) (hd : (x == ("__debug__" : Str)) = false := by decide)
    (hcd : (x == ("__classdict__" : Str)) = false := by decide)
    (hbase : attributeBase (.Name x npos) name X.env (eval (.Name x npos) X.env) = eval (.Name x npos) X.env := by rfl)
    (hline : (apos.endLine == cpos.line) = true := by rfl) :
    DE X (.Call (.Attribute (.Name x npos) name apos) [] [] cpos) (eMut i g aNil) := by
  refine ⟨_, pe_bm0 PySem.F.plainAttrs_list slot hty hm (pe_var hN hv hd hcd) hbase hline, fun σ H ρ l Q d ρ' hl hi hf q => ?_⟩
  exact mut_core (x := x) (pos := npos) (t := tNil) hN hg (fun σ H ρ l Q r ρ' hl hi hf q => by cases hf; exact q [] H rfl trivial hi) σ H ρ l Q d ρ' hl hi hf q
/-- methods that read: the receiver is the first operand -/
def kindD (T : String) : D → Bool
  | .lst _ _ => T == "list"
  | .cst _ => T == "list"
  | .str _ => T == "str"
  | _ => false
theorem kind_ty {K : Frg} {H : Hp} {T : String} {d : D} {l : List Itm} {v : V} (h : kindD T d = true) (hi : Items K [] H l) (hm : (some v, d) ∈ l) : tyV K T v H := by
  have hz := hi.view hm
  cases d with
  | lst _ _ =>
    obtain ⟨a, us, rfl, hs, _⟩ := hz
    exact .inl ⟨by simpa [kindD] using h, us, SqL.of hs⟩
  | cst _ =>
    obtain ⟨a, us, rfl, hs, _⟩ := hz
    exact .inl ⟨by simpa [kindD] using h, us, hs⟩
  | str _ =>
    cases hz
    show T = "str"
    simpa [kindD] using h
  | _ => cases h
def eMt (T : String) (g : List D → Option D) (fo : Ev → Option (Hd × Ev)) (fa : Ev → Option (List Hd × Ev)) : Ev → Option (D × Ev) := fun ρ => (fo ρ).bind fun p => if kindD T (p.1.get p.2) = true then (fa p.2).bind fun q => (g (p.1.get q.2 :: q.1.map (Hd.get q.2))).map fun d => (d, q.2) else none
theorem de_mt {T id : String} {name : Str} {o e : Expr} {es : List Expr} {apos cpos : Pos} {r : V → List V → Hp → VK → Prop} {g : List D → Option D} {fo : Ev → Option (Hd × Ev)} {fa : Ev → Option (List Hd × Ev)} (pa : PlainAttrs T) (slot : Slot T name id) (hty : typeOf (.builtin id) = pure (.type "method_descriptor"))
    (hm : MtR X id r) (hg : OpN X.K (fun xs H Q => ∃ x r', xs = x :: r' ∧ r x r' H Q) g) (ho : DH X o fo) (ha : DA X (e :: es) fa)
    (hbase : attributeBase o name X.env (eval o X.env) = eval o X.env := by rfl)
    (hfew : ((backTo cpos (starEach (e :: es) X.env)).all (fun x => !x.1) && (backToKw cpos (keywordEach [] X.env)).all (fun x => x.1.isSome)
      && decide ((e :: es).length + ([] : List Keyword).length + (if ([] : List Keyword).isEmpty then 0 else 1) < 30)) = true := by rfl)
    (hline : (apos.endLine == cpos.line) = true := by rfl) (hs : starEach (e :: es) X.env = (false, eval e X.env) :: starEach es X.env := by rfl) (hplain : (backTo cpos (starEach es X.env)).any (·.1) = false := by rfl) :
    DE X (.Call (.Attribute o name apos) (e :: es) [] cpos) (eMt T g fo fa) := by
  obtain ⟨to, hto, ko⟩ := ho.ex
  obtain ⟨t, ht, ka⟩ := ha.ex
  refine ⟨_, pe_bm pa slot hty hm hto ht hbase hfew hline hs hplain, fun σ H ρ l Q d ρ' hl hi hf q => ?_⟩
  obtain ⟨⟨hd, ρ1⟩, e2, hf⟩ := Option.bind_eq_some_iff.mp hf
  replace hf : (if kindD T (hd.get ρ1) = true then (fa ρ1).bind fun q => (g (hd.get q.2 :: q.1.map (Hd.get q.2))).map fun d => (d, q.2) else none) = some (d, ρ') := hf
  split at hf
  · rename_i kd
    obtain ⟨⟨hs, ρ3⟩, e4, hf⟩ := Option.bind_eq_some_iff.mp hf
    obtain ⟨d', e6, hf⟩ := Option.map_eq_some_iff.mp hf
    obtain ⟨ed, eρ⟩ : d' = d ∧ ρ3 = ρ' := by cases hf; exact ⟨rfl, rfl⟩
    subst ed eρ
    refine ko σ H ρ l _ hd ρ1 hl hi e2 fun v H1 l1 a1 i1 => ⟨kind_ty kd i1 (mem_hd (X := X) (hl := by omega) a1 i1), ?_⟩
    refine ka σ H1 ρ1 (hd.its v ++ l) _ hs _ (by omega) (i1.perm perm_mid) e4 fun vs H2 l2 a2 i2 => ?_
    have i3 : Items X.K [] H2 (hits (hd :: hs) (v :: vs) ++ (σ.zip ρ3 ++ l)) := i2.perm (by
      show List.Perm _ ((hd.its v ++ hits hs vs) ++ _)
      rw [List.append_assoc]
      refine List.Perm.trans (List.Perm.append_left _ perm_mid) perm_mid)
    have l3 : ρ3.length = ρ.length := by have z : ρ3.length = ρ1.length := l2; omega
    obtain ⟨x, r', ex, hr⟩ := hg (v :: vs) H2 _ _ Q _ i3 (mem_hits (K := X.K) (H := H2) (by omega) (hs := hd :: hs) ⟨a1, a2⟩) e6 fun w H3 i4 => q w H3 l3 (i4.sub ⟨hits (hd :: hs) (v :: vs), List.perm_middle.symm⟩)
    cases ex
    exact hr
  · cases hf
theorem de_mt0 {T id : String} {name : Str} {o : Expr} {apos cpos : Pos} {r : V → List V → Hp → VK → Prop} {g : List D → Option D} {fo : Ev → Option (Hd × Ev)} (pa : PlainAttrs T) (slot : Slot T name id) (hty : typeOf (.builtin id) = pure (.type "method_descriptor"))
    (hm : MtR X id r) (hg : OpN X.K (fun xs H Q => ∃ x r', xs = x :: r' ∧ r x r' H Q) g) (ho : DH X o fo)
    (hbase : attributeBase o name X.env (eval o X.env) = eval o X.env := by rfl) (hline : (apos.endLine == cpos.line) = true := by rfl) :
    DE X (.Call (.Attribute o name apos) [] [] cpos) (eMt T g fo aNil) := by
  obtain ⟨to, hto, ko⟩ := ho.ex
  refine ⟨_, pe_bm0 pa slot hty hm hto hbase hline, fun σ H ρ l Q d ρ' hl hi hf q => ?_⟩
  obtain ⟨⟨hd, ρ1⟩, e2, hf⟩ := Option.bind_eq_some_iff.mp hf
  replace hf : (if kindD T (hd.get ρ1) = true then (aNil ρ1).bind fun q => (g (hd.get q.2 :: q.1.map (Hd.get q.2))).map fun d => (d, q.2) else none) = some (d, ρ') := hf
  split at hf
  · rename_i kd
    obtain ⟨d', e6, hf⟩ := Option.map_eq_some_iff.mp hf
    obtain ⟨ed, eρ⟩ : d' = d ∧ ρ1 = ρ' := by cases hf; exact ⟨rfl, rfl⟩
    subst ed eρ
    refine ko σ H ρ l _ hd ρ1 hl hi e2 fun v H1 l1 a1 i1 => ⟨kind_ty kd i1 (mem_hd (X := X) (hl := by omega) a1 i1), ?_⟩
    have i3 : Items X.K [] H1 (hits [hd] [v] ++ (σ.zip ρ1 ++ l)) := by
      show Items X.K [] H1 ((hd.its v ++ []) ++ _)
      rw [List.append_nil]
      exact i1
    obtain ⟨x, r', ex, hr⟩ := hg [v] H1 _ _ Q _ i3 (mem_hits (K := X.K) (H := H1) (by omega) (hs := [hd]) ⟨a1, trivial⟩) e6 fun w H3 i4 => q w H3 l1 (i4.sub ⟨hits [hd] [v], List.perm_middle.symm⟩)
    cases ex
    exact hr
  · cases hf

/-! ### statements -/
variable {C : List Nat}
theorem Agr.refl {σ : Sl} : Agr C σ σ := fun _ _ => rfl
theorem Agr.trans {σ σ' σ2 : Sl} (a : Agr C σ σ') (b : Agr C σ' σ2) : Agr C σ σ2 := fun i hi => (b i hi).trans (a i hi)
theorem EndOk.step {D' : Ends} {σ σ1 : Sl} {l : List Itm} {o : Out} (h : EndOk X C D' σ l o) (a : Agr C σ σ1) (hl : σ1.length = σ.length) : EndOk X C D' σ1 l o := by
  cases o with
  | nx ρ' => exact fun σ' H' l1 l2 a' i => h σ' H' (by omega) (by omega) (a.trans a') i
  | bk ρ' => exact fun σ' H' l1 l2 a' i => h σ' H' (by omega) (by omega) (a.trans a') i
  | ct ρ' => exact fun σ' H' l1 l2 a' i => h σ' H' (by omega) (by omega) (a.trans a') i
  | rt d ρ' => exact fun v σ' H' l1 l2 a' i => h v σ' H' (by omega) (by omega) (a.trans a') i
def bNil : Ev → Option Out := fun ρ => some (.nx ρ)
def bCons (f g : Ev → Option Out) : Ev → Option Out := fun ρ => (f ρ).bind fun o => match o with
  | .nx ρ' => g ρ'
  | o => some o
theorem dss_nil : DSs X C [] bNil := ⟨tNext, pss_nil, fun D' σ H ρ l o hl hi hf k => by cases hf; exact k σ H rfl hl.symm Agr.refl hi⟩
theorem dss_cons {st : Stmt} {rest : List Stmt} {f g : Ev → Option Out} (h : DS X C st f) (h' : DSs X C rest g) : DSs X C (st :: rest) (bCons f g) := by
  obtain ⟨t, ht, k⟩ := h.ex
  obtain ⟨t', ht', k'⟩ := h'.ex
  refine ⟨_, pss_cons ht ht', fun D' σ H ρ l o hl hi hf q => ?_⟩
  obtain ⟨o1, e1, hf⟩ := Option.bind_eq_some_iff.mp hf
  refine k { D' with nx := t' D' } σ H ρ l o1 hl hi e1 ?_
  cases o1 with
  | nx ρ1 => exact fun σ1 H1 l1 l2 a1 i1 => k' D' σ1 H1 ρ1 l o (by omega) i1 hf (q.step a1 l1)
  | bk ρ1 => cases hf; exact q
  | ct ρ1 => cases hf; exact q
  | rt d ρ1 => cases hf; exact q
theorem dss_one {st : Stmt} {f : Ev → Option Out} (h : DS X C st f) : DSs X C [st] f := by
  obtain ⟨t, ht, k⟩ := h.ex
  exact ⟨t, pss_one ht, k⟩
theorem ds_pass {pos : Pos} : DS X C (.Pass pos) bNil := ⟨tNext, ps_pass, fun D' σ H ρ l o hl hi hf k => by cases hf; exact k σ H rfl hl.symm Agr.refl hi⟩
def bBrk : Ev → Option Out := fun ρ => some (.bk ρ)
def bCnt : Ev → Option Out := fun ρ => some (.ct ρ)
theorem ds_break {pos : Pos} : DS X C (.Break pos) bBrk := ⟨_, ps_break, fun D' σ H ρ l o hl hi hf k => by cases hf; exact k σ H rfl hl.symm Agr.refl hi⟩
theorem ds_continue {pos : Pos} : DS X C (.Continue pos) bCnt := ⟨_, ps_continue, fun D' σ H ρ l o hl hi hf k => by cases hf; exact k σ H rfl hl.symm Agr.refl hi⟩
def bExp (f : Ev → Option (D × Ev)) : Ev → Option Out := fun ρ => (f ρ).map fun p => .nx p.2
theorem ds_expr {e : Expr} {pos : Pos} {f : Ev → Option (D × Ev)} (h : DE X e f) (hs : swapsWith e none pos.line X.env = pure false := by rfl) : DS X C (.Expr e pos) (bExp f) := by
  obtain ⟨t, ht, k⟩ := h.ex
  refine ⟨_, ps_expr ht hs, fun D' σ H ρ l o hl hi hf q => ?_⟩
  obtain ⟨⟨d, ρ1⟩, e1, hf⟩ := Option.map_eq_some_iff.mp hf
  cases hf
  exact k σ H ρ l _ d ρ1 hl hi e1 fun v H1 l1 i1 => q σ H1 rfl (by show ρ1.length = _; omega) Agr.refl i1.tail
def bRet (f : Ev → Option (D × Ev)) : Ev → Option Out := fun ρ => (f ρ).map fun p => .rt p.1 p.2
theorem ds_ret {e : Expr} {pos : Pos} {f : Ev → Option (D × Ev)} (h : DE X e f) : DS X C (.Return (some e) pos) (bRet f) := by
  obtain ⟨t, ht, k⟩ := h.ex
  refine ⟨_, ps_ret ht, fun D' σ H ρ l o hl hi hf q => ?_⟩
  obtain ⟨⟨d, ρ1⟩, e1, hf⟩ := Option.map_eq_some_iff.mp hf
  cases hf
  exact k σ H ρ l _ d ρ1 hl hi e1 fun v H1 l1 i1 => q v σ H1 rfl (by show ρ1.length = _; omega) Agr.refl i1
def bRetN : Ev → Option Out := fun ρ => some (.rt .non ρ)
theorem ds_retN {pos : Pos} : DS X C (.Return none pos) bRetN :=
  ⟨_, ps_retN, fun D' σ H ρ l o hl hi hf q => by cases hf; exact q .non σ H rfl hl.symm Agr.refl (hi.add (d := .non) rfl fun _ _ => rfl)⟩
def bIf (c : Ev → Option (Bool × Ev)) (f g : Ev → Option Out) : Ev → Option Out := fun ρ => (c ρ).bind fun p => if p.1 = true then f p.2 else g p.2
theorem ds_if {c : Expr} {a b : List Stmt} {pos : Pos} {fc : Ev → Option (Bool × Ev)} {f g : Ev → Option Out} (hc : DT X c fc) (ha : DSs X C a f) (hb : DSs X C b g) : DS X C (.If c a b pos) (bIf fc f g) := by
  obtain ⟨t, ht, k⟩ := hc.ex
  obtain ⟨ta, pa, ka⟩ := ha.ex
  obtain ⟨tb, pb, kb⟩ := hb.ex
  refine ⟨_, ps_if ht pa pb, fun D' σ H ρ l o hl hi hf q => ?_⟩
  obtain ⟨⟨x, ρ1⟩, e1, hf⟩ := Option.bind_eq_some_iff.mp hf
  refine k σ H ρ l _ x ρ1 hl hi e1 fun H' hl' hi' => ?_
  cases x with
  | true =>
    rw [if_pos rfl] at hf
    rw [if_pos rfl]
    exact ka D' σ H' ρ1 l o (by omega) hi' hf q
  | false =>
    rw [if_neg Bool.false_ne_true] at hf
    rw [if_neg Bool.false_ne_true]
    exact kb D' σ H' ρ1 l o (by omega) hi' hf q

/-! ### targets -/
def gNm (i : Nat) : D → Ev → Option Ev := fun d ρ => some (ρ.set i d)
theorem Agr.set {σ : Sl} {i : Nat} {o : Option V} (h : i ∉ C) : Agr C σ (σ.set i o) := fun j hj => by
  have hne : i ≠ j := fun z => h (by rw [z]; exact hj)
  rw [List.getElem?_set_ne hne]
theorem set_items {K : Frg} {E : List Addr} {H : Hp} {σ : Sl} {ρ : Ev} {l : List Itm} {i : Nat} {o : Option V} {d : D} (hl : σ.length = ρ.length) (hi : i < σ.length) (h : Items K E H ((o, d) :: (σ.zip ρ ++ l))) : Items K E H ((σ.set i o).zip (ρ.set i d) ++ l) := by
  have h1 : σ[i]? = some σ[i] := List.getElem?_eq_getElem hi
  have h2 : ρ[i]? = some (ρ[i]'(by omega)) := List.getElem?_eq_getElem (by omega)
  obtain ⟨A, B, e1, _, e3⟩ := zip_at h1 h2
  rw [e3]
  rw [e1] at h
  have h3 : Items K E H ((σ[i], ρ[i]'(by omega)) :: ((o, d) :: (A ++ B ++ l))) := h.perm (by
    refine List.Perm.trans (.cons _ ?_) (List.Perm.swap _ _ _)
    simp only [List.append_assoc, List.cons_append]
    exact List.perm_middle)
  exact Items.perm2 h3.tail
theorem dg_name (i : Nat) {x : Str} {pos : Pos} (hN : X.N.Nodup) (hC : i ∉ C := by decide) (hi : X.N[i]? = some x := by rfl) (hx : Loc X.env.scope x := by first | exact Or.inl rfl | exact Or.inr rfl)
    (hf : X.fn x = true ∨ X.env.scope.names.lookup x = some .local := by first | exact .inl rfl | exact .inr rfl | assumption) : DG X C (.Name x pos) (gNm i) := by
  refine ⟨gName i, pg_name hN hi hx hf, fun v d σ H ρ l Q ρ' hl hi' hf q => ?_⟩
  cases hf
  by_cases h : i < σ.length
  · exact q _ H (by simp) (by simp [hl]) (Agr.set hC) (set_items hl h hi')
  · have e1 : σ.set i (some v) = σ := List.set_eq_of_length_le (by omega)
    have e2 : ρ.set i d = ρ := List.set_eq_of_length_le (by omega)
    refine q _ H (by simp) (by simp [hl]) (Agr.set hC) ?_
    rw [e1, e2]
    exact hi'.tail
def gsNil : List D → Ev → Option Ev := fun ds ρ => match ds with
  | [] => some ρ
  | _ => none
def gsCons (f : D → Ev → Option Ev) (g : List D → Ev → Option Ev) : List D → Ev → Option Ev := fun ds ρ => match ds with
  | d :: r => (f d ρ).bind fun ρ1 => g r ρ1
  | _ => none
theorem dgs_nil : DGs X C [] gsNil := by
  refine ⟨gNil, pgs_nil, fun vs ds σ H ρ l Q ρ' hl hv hi hf q => ?_⟩
  cases ds with
  | cons _ _ => cases hf
  | nil =>
    cases hf
    cases vs with
    | cons _ _ => simp at hv
    | nil => exact ⟨rfl, q σ H rfl hl.symm Agr.refl hi⟩
theorem dgs_cons {e : Expr} {es : List Expr} {f : D → Ev → Option Ev} {g : List D → Ev → Option Ev} (h : DG X C e f) (h' : DGs X C es g) (hs : (assignEach (e :: es) X.env).map (·.2) = assign e X.env :: (assignEach es X.env).map (·.2) := by rfl) : DGs X C (e :: es) (gsCons f g) := by
  obtain ⟨t, ht, k⟩ := h.ex
  obtain ⟨t', ht', k'⟩ := h'.ex
  refine ⟨_, pgs_cons ht ht' hs, fun vs ds σ H ρ l Q ρ' hl hv hi hf q => ?_⟩
  cases ds with
  | nil => cases hf
  | cons d r =>
    cases vs with
    | nil => simp at hv
    | cons v vr =>
      obtain ⟨ρ1, e1, hf⟩ := Option.bind_eq_some_iff.mp hf
      refine ⟨v, vr, rfl, ?_⟩
      have hi' : Items X.K [] H ((some v, d) :: (prs vr r ++ (σ.zip ρ ++ l))) := hi
      refine k v d σ H ρ (prs vr r ++ l) _ ρ1 hl (hi'.perm (.cons _ perm_mid)) e1 fun σ1 H1 l1 l2 a1 i1 => ?_
      refine k' vr r σ1 H1 ρ1 l Q ρ' (by omega) (by simpa using hv) (i1.perm perm_mid) hf fun σ2 H2 l3 l4 a2 i2 => q σ2 H2 (by omega) (by omega) (a1.trans a2) i2
def gTp (n : Nat) (g : List D → Ev → Option Ev) : D → Ev → Option Ev := fun d ρ => match d with
  | .tup ds => if ds.length = n then g ds ρ else none
  | .lst _ ds => if ds.length = n ∧ D.frzL ds = true then g ds ρ else none
  | _ => none
theorem pg_or {X : Cx} {e : Expr} {t u : TG} (h : PG X e t) (k : PG X e u) : PG X e (fun v σ H Q => t v σ H Q ∨ u v σ H Q) := ⟨fun pins s σ H v w Q I r q => by
  rcases q with q | q
  · exact h.run pins s σ H v w Q I r q
  · exact k.run pins s σ H v w Q I r q⟩
theorem dg_tup {es : List Expr} {k : Nat} {pos : Pos} {n : Nat} {g : List D → Ev → Option Ev} (hc : X.calm = true) (h : DGs X C es g)
    (hn : (assignEach es X.env).length = n := by rfl) (hst : (assignEach es X.env).findIdx? (·.1) = none := by rfl) : DG X C (.Tuple es k pos) (gTp n g) := by
  obtain ⟨t, ht, kk⟩ := h.ex
  refine ⟨_, pg_or (pg_tup hc ht hn hst) (pg_unl hc ht hn hst), fun v d σ H ρ l Q ρ' hl hi hf q => ?_⟩
  cases d with
  | tup ds =>
    replace hf : (if ds.length = n then g ds ρ else none) = some ρ' := hf
    split at hf
    · rename_i hd
      obtain ⟨a, xs, rfl, hs, hx, i1⟩ := hi.openT
      exact .inl ⟨a, xs, rfl, hs, by omega, kk xs ds σ H ρ l Q ρ' hl hx i1 hf q⟩
    · cases hf
  | lst b ds =>
    replace hf : (if ds.length = n ∧ D.frzL ds = true then g ds ρ else none) = some ρ' := hf
    split at hf
    · rename_i hd
      obtain ⟨a, xs, rfl, hs, hx, i1⟩ := hi.listAll List.mem_cons_self hd.2
      have i2 := i1.sub ⟨[(some (.ref a), .lst b ds)], List.perm_middle⟩
      exact .inr ⟨a, xs, rfl, SqL.of hs, by omega, kk xs ds σ H ρ l Q ρ' hl hx i2 hf q⟩
    · cases hf
  | _ => cases hf
/-- x[i] = v, x a name's owned list -/
def gIx (j : Nat) (fi : Ev → Option (Hd × Ev)) : D → Ev → Option Ev := fun d ρ => match ρ[j]? with
  | some (.lst _ _) => (fi ρ).bind fun p => match p.2[j]?, p.1.get p.2 with
    | some (.lst true xs), .int k => (ixN xs.length k).map fun m => p.2.set j (.lst true (xs.set m d))
    | _, _ => none
  | _ => none
theorem prs_set {xs : List V} {ds : List D} {m : Nat} {v : V} {d : D} (hl : xs.length = ds.length) (hm : m < xs.length) : ∃ i R, (prs xs ds).Perm (i :: R) ∧ (prs (xs.set m v) (ds.set m d)).Perm ((some v, d) :: R) := by
  induction xs generalizing ds m with
  | nil => simp at hm
  | cons x xs ih =>
    cases ds with
    | nil => simp at hl
    | cons e ds =>
      cases m with
      | zero => exact ⟨(some x, e), prs xs ds, .refl _, .refl _⟩
      | succ m =>
        obtain ⟨i, R, p1, p2⟩ := ih (ds := ds) (m := m) (by simpa using hl) (by simpa using hm)
        refine ⟨i, (some x, e) :: R, ?_, ?_⟩
        · exact (List.Perm.cons _ p1).trans (List.Perm.swap _ _ _)
        · exact (List.Perm.cons (some x, e) p2).trans (List.Perm.swap _ _ _)
theorem dg_ix (j : Nat) {x : Str} {i : Expr} {npos pos : Pos} {fi : Ev → Option (Hd × Ev)} (hi : DH X i fi) (hN : X.N[j]? = some x := by rfl) (hv : Vis X.env.scope x := by first | exact Or.inl rfl | exact Or.inr (Or.inl rfl) | exact Or.inr (Or.inr rfl)) (hd : (x == ("__debug__" : Str)) = false := by decide)
    (hcd : (x == ("__classdict__" : Str)) = false := by decide)
    (ha : ∀ v, assign (.Subscript (.Name x npos) i pos) X.env v = (do
      let ov ← holding [v] (eval (.Name x npos) X.env)
      let iv ← holding [v, ov] (eval i X.env)
      standAt pos
      holding [v, ov, iv] (setItem ov iv v)
      release [v, ov, iv] []) := by intro _; rfl) : DG X C (.Subscript (.Name x npos) i pos) (gIx j fi) := by
  obtain ⟨ti, hti, ki⟩ := hi.ex
  refine ⟨_, pg_sub (pe_var hN hv hd hcd) hti set_list ha, fun v d σ H ρ l Q ρ' hl hi hf q => ?_⟩
  unfold gIx at hf
  split at hf
  rotate_left
  · cases hf
  rename_i b0 zs e5
  obtain ⟨⟨h, ρ1⟩, e1, hf⟩ := Option.bind_eq_some_iff.mp hf
  split at hf
  · rename_i xs k e2 e3
    obtain ⟨m, e4, hf⟩ := Option.map_eq_some_iff.mp hf
    subst hf
    have hi1 : Items X.K [] H (σ.zip ρ ++ ((some v, d) :: l)) := hi.perm List.perm_middle.symm
    obtain ⟨u, hu⟩ := slot_val hi1 hl e5 (by intro z; cases z)
    refine ⟨u, hu, ?_⟩
    refine ki σ H ρ _ _ h ρ1 hl hi1 e1 fun w H1 l1 a1 i1 => ?_
    have hw : w = .int k := by
      have := i1.view (mem_hd (X := X) (hl := by omega) a1 i1)
      rw [show h.get ρ1 = .int k from e3] at this
      exact this
    subst hw
    have i2 : Items X.K [] H1 (σ.zip ρ1 ++ ((some v, d) :: l)) := i1.drop
    obtain ⟨A, B, h1, h2⟩ := i2.slot hu e2
    obtain ⟨a, us, rfl, hs, hlen, _⟩ := h1.list (List.mem_cons_self)
    obtain ⟨us', hs', hlen', hop⟩ := h1.open
    rw [hs] at hs'
    cases hs'
    obtain ⟨_, hm, _, _⟩ := ixN_seq e4
    refine ⟨a, us, k, m, rfl, rfl, hs, by rw [hlen]; exact e4, ?_⟩
    obtain ⟨it, R, p1, p2⟩ := prs_set (xs := us) (ds := xs) (m := m) (v := v) (d := d) hlen (by omega)
    have hcl : Items X.K [a] H1 (prs (us.set m v) (xs.set m d) ++ (A ++ B ++ l)) := by
      have z1 : Items X.K [a] H1 (it :: (R ++ ((some v, d) :: (A ++ B ++ l)))) := hop.perm (by
        refine (List.Perm.append_right _ p1).trans ?_
        exact .cons _ (List.Perm.append_left _ List.perm_middle))
      have z2 : Items X.K [a] H1 ((some v, d) :: R ++ (A ++ B ++ l)) := z1.tail.perm List.perm_middle
      exact z2.perm (List.Perm.append_right _ p2.symm)
    have i3 := Items.close hs (by simp [hlen]) hcl
    refine q σ _ rfl (by show (ρ1.set j _).length = _; simp; omega) Agr.refl ?_
    exact h2 [] _ l _ i3
  · cases hf
/-- target = e -/
def bAsg (f : Ev → Option (D × Ev)) (g : D → Ev → Option Ev) : Ev → Option Out := fun ρ => (f ρ).bind fun p => (g p.1 p.2).map Out.nx
theorem ds_asg {tg e : Expr} {pos : Pos} {f : Ev → Option (D × Ev)} {g : D → Ev → Option Ev} (he : DE X e f) (hg : DG X C tg g) (hs : swapsWithSole [tg] e pos.line X.env = pure false := by rfl) (hw : swappedStores [tg] e X.env = pure none := by rfl)
    (h1 : (assignEach [tg] X.env).map (·.2) = [assign tg X.env] := by rfl) : DS X C (.Assign [tg] e pos) (bAsg f g) := by
  obtain ⟨t, ht, k⟩ := he.ex
  obtain ⟨t', ht', k'⟩ := hg.ex
  refine ⟨_, ps_asg ht ht' hs hw h1, fun D' σ H ρ l o hl hi hf q => ?_⟩
  obtain ⟨⟨d, ρ1⟩, e1, hf⟩ := Option.bind_eq_some_iff.mp hf
  obtain ⟨ρ2, e2, hf⟩ := Option.map_eq_some_iff.mp hf
  subst hf
  refine k σ H ρ l _ d ρ1 hl hi e1 fun v H1 l1 i1 => ?_
  exact k' v d σ H1 ρ1 l _ ρ2 (by omega) i1 e2 fun σ2 H2 l2 l3 a2 i2 => q σ2 H2 l2 l3 a2 i2
theorem ds_set (i : Nat) {x : Str} {e : Expr} {pos' pos : Pos} {f : Ev → Option (D × Ev)} (hN : X.N.Nodup) (he : DE X e f) (hC : i ∉ C := by decide) (hi : X.N[i]? = some x := by rfl) (hx : Loc X.env.scope x := by first | exact Or.inl rfl | exact Or.inr rfl)
    (hs : swapsWith e (some (.Name x pos')) pos.line X.env = pure false := by rfl) (hf : X.fn x = true ∨ X.env.scope.names.lookup x = some .local := by first | exact .inl rfl | exact .inr rfl | assumption) : DS X C (.Assign [.Name x pos'] e pos) (bAsg f (gNm i)) := by
  obtain ⟨t, ht, k⟩ := he.ex
  obtain ⟨t', ht', k'⟩ := (dg_name (C := C) (pos := pos') i hN hC hi hx hf).ex
  refine ⟨tAsg t (gName i), ps_set hN hi hx ht hs hf, fun D' σ H ρ l o hl hi hf q => ?_⟩
  obtain ⟨⟨d, ρ1⟩, e1, hf⟩ := Option.bind_eq_some_iff.mp hf
  cases hf
  refine k σ H ρ l _ d ρ1 hl hi e1 fun v H1 l1 i1 => ?_
  show D'.nx (σ.set i (some v)) H1
  by_cases h : i < σ.length
  · exact q _ H1 (by simp) (by simp; omega) (Agr.set hC) (set_items (by show σ.length = ρ1.length; have l2 : ρ1.length = ρ.length := l1; omega) h i1)
  · have e1 : σ.set i (some v) = σ := List.set_eq_of_length_le (by omega)
    have e2 : ρ1.set i d = ρ1 := List.set_eq_of_length_le (by omega)
    refine q _ H1 (by simp) (by simp; omega) (Agr.set hC) ?_
    show Items X.K [] H1 ((σ.set i (some v)).zip (ρ1.set i d) ++ l)
    rw [e1, e2]
    exact i1.tail
/-- a, b = e1, e2 -/
def bPar (i j : Nat) (fa : Ev → Option (List Hd × Ev)) : Ev → Option Out := fun ρ => (fa ρ).bind fun p => match tms p.1 with
  | some [d, e] => some (.nx ((p.2.set i d).set j e))
  | _ => none
theorem ds_par (i j : Nat) {x y : Str} {a b : Expr} {px py pt pos : Pos} {kt k2 pt2} {fa : Ev → Option (List Hd × Ev)} (hc : X.calm = true) (hN : X.N.Nodup) (ha : DA X [a, b] fa) (hC : i ∉ C := by decide) (hC2 : j ∉ C := by decide) (hi : X.N[i]? = some x := by rfl) (hj : X.N[j]? = some y := by rfl) (hij : i ≠ j := by decide)
    (hx : X.env.scope.names.lookup x = some .local := by rfl) (hy : X.env.scope.names.lookup y = some .local := by rfl)
    (hw : swappedStores [.Tuple [.Name x px, .Name y py] kt pt] (.Tuple [a, b] k2 pt2) X.env = pure (some [x, y]) := by rfl)
    (hs : swapsWithSole [.Tuple [.Name x px, .Name y py] kt pt] (.Tuple [a, b] k2 pt2) pos.line X.env = pure false := by rfl) :
    DS X C (.Assign [.Tuple [.Name x px, .Name y py] kt pt] (.Tuple [a, b] k2 pt2) pos) (bPar i j fa) := by
  obtain ⟨t, ht, k⟩ := ha.ex
  refine ⟨_, ps_par hc hN hi hj hij hx hy ht hw hs, fun D' σ H ρ l o hl hi hf q => ?_⟩
  obtain ⟨⟨hds, ρ1⟩, e1, hf⟩ := Option.bind_eq_some_iff.mp hf
  split at hf
  · rename_i d e e2
    cases hf
    refine k σ H ρ l _ hds ρ1 hl hi e1 fun vs H1 l1 a1 i1 => ?_
    obtain ⟨k1, k2⟩ := tms_hits e2 (hats_len a1)
    match vs, k2, k1, i1 with
    | [v, w], _, k1, i1 =>
      refine ⟨v, w, rfl, ?_⟩
      rw [k1] at i1
      have i2 : Items X.K [] H1 ((some v, d) :: (σ.zip ρ1 ++ ((some w, e) :: l))) := i1.perm (.cons _ (show List.Perm ((some w, e) :: (σ.zip ρ1 ++ l)) _ from List.perm_middle.symm))
      refine q _ H1 (by simp) (by simp; omega) ((Agr.set hC).trans (Agr.set hC2)) ?_
      have st : ∀ (σ : Sl) (ρ : Ev) (i : Nat) (v : V) (d : D) (l : List Itm), σ.length = ρ.length → Items X.K [] H1 ((some v, d) :: (σ.zip ρ ++ l)) → Items X.K [] H1 ((σ.set i (some v)).zip (ρ.set i d) ++ l) := fun σ ρ i v d l hl hi => by
        by_cases h : i < σ.length
        · exact set_items hl h hi
        · rw [show σ.set i (some v) = σ from List.set_eq_of_length_le (by omega), show ρ.set i d = ρ from List.set_eq_of_length_le (by omega)]
          exact hi.tail
      have i3 := st σ ρ1 i v d _ (by omega) i2
      exact st _ _ j w e l (by simp; omega) (i3.perm List.perm_middle)
  · cases hf
/-- x op= e -/
def bAug (i : Nat) (g : D → D → Option D) (fe : Ev → Option (Hd × Ev)) : Ev → Option Out := fun ρ => (fe ρ).bind fun p => match ρ[i]? with
  | some .any => none
  | none => none
  | some _ => (g (p.2.getD i .any) (p.1.get p.2)).map fun d => .nx (p.2.set i d)
theorem ds_aug (i : Nat) {x : Str} {e : Expr} {op : Operator} {pos' pos : Pos} {r : R2} {g : D → D → Option D} {fe : Ev → Option (Hd × Ev)} (hN : X.N.Nodup) (ho : PIp X op r) (hg : Op2 X.K r g) (he : DH X e fe) (hC : i ∉ C := by decide) (hi : X.N[i]? = some x := by rfl) (hx : Loc X.env.scope x := by first | exact Or.inl rfl | exact Or.inr rfl)
    (hf : X.fn x = true ∨ X.env.scope.names.lookup x = some .local := by first | exact .inl rfl | exact .inr rfl | assumption) : DS X C (.AugAssign (.Name x pos') op e pos) (bAug i g fe) := by
  obtain ⟨t, ht, k⟩ := he.ex
  refine ⟨_, ps_aug hN hi hx ht ho hf, fun D' σ H ρ l o hl hi hf q => ?_⟩
  obtain ⟨⟨h, ρ1⟩, e1, hf⟩ := Option.bind_eq_some_iff.mp hf
  split at hf
  · cases hf
  · cases hf
  · rename_i d0 hd e0
    obtain ⟨d, e2, hf⟩ := Option.map_eq_some_iff.mp hf
    subst hf
    obtain ⟨v, hv⟩ := slot_val hi hl e0 hd
    have hlt : i < σ.length := (List.getElem?_eq_some_iff.mp hv).1
    refine ⟨v, hv, k σ H ρ l _ h ρ1 hl hi e1 fun w H1 l1 a1 i1 => ?_⟩
    have e3 : ρ1[i]? = some (ρ1[i]'(by omega)) := List.getElem?_eq_getElem (by omega)
    have m1 : (some v, ρ1.getD i .any) ∈ h.its w ++ (σ.zip ρ1 ++ l) := by
      rw [getD_of e3]
      exact List.mem_append_right _ (List.mem_append_left _ (zip_mem hv e3))
    refine hg v w H1 _ _ _ _ d i1 m1 (mem_hd (X := X) (hl := by omega) a1 i1) e2 fun z H2 i2 => ?_
    refine q _ H2 (by simp) (by simp; omega) (Agr.set hC) (set_items (by show σ.length = ρ1.length; have l2 : ρ1.length = ρ.length := l1; omega) hlt ?_)
    exact i2.sub ⟨h.its w, List.perm_middle.symm⟩
end
end Mv
end
section
set_option Elab.async false
set_option linter.all false
set_option maxRecDepth 100000
/-! Loops, comprehensions, the program's own defs. -/
namespace Mv
open PySem PySem.Spec PyProof.Rows L2

/-! ### a loop's turns, by fuel; the loop as such -/
def lp {α β : Type} (step : Nat → α → Option (α ⊕ β)) : Nat → Nat → α → Option β
  | 0, _, _ => none
  | n + 1, k, a => (step k a).bind fun s => match s with
    | .inl b => lp step n (k + 1) b
    | .inr o => some o
theorem lp_more {α β : Type} {step : Nat → α → Option (α ⊕ β)} {o : β} : ∀ {n k : Nat} {a : α}, lp step n k a = some o → ∀ m, lp step (n + m) k a = some o
  | 0, _, _, h, _ => by cases h
  | n + 1, k, a, h, m => by
    rw [Nat.add_right_comm]
    obtain ⟨s, e1, e2⟩ := Option.bind_eq_some_iff.mp h
    refine Option.bind_eq_some_iff.mpr ⟨s, e1, ?_⟩
    cases s with
    | inl b => exact lp_more (n := n) e2 m
    | inr o => exact e2
open Classical in
noncomputable def lrun {α β : Type} (step : Nat → α → Option (α ⊕ β)) (a : α) : Option β := if h : ∃ o n, lp step n 0 a = some o then some h.choose else none
theorem lrun_iff {α β : Type} {step : Nat → α → Option (α ⊕ β)} {a : α} {o : β} : lrun step a = some o ↔ ∃ n, lp step n 0 a = some o := by
  constructor
  · intro h
    unfold lrun at h
    split at h
    · rename_i hx
      cases h
      exact hx.choose_spec
    · cases h
  · rintro ⟨n, h⟩
    have hx : ∃ o n, lp step n 0 a = some o := ⟨o, n, h⟩
    unfold lrun
    rw [dif_pos hx]
    obtain ⟨m, hm⟩ := hx.choose_spec
    have h1 := lp_more h m
    have h2 := lp_more hm n
    rw [Nat.add_comm] at h2
    rw [h1] at h2
    exact h2.symm
/-- a loop by what holds between its turns -/
theorem lp_inv {α β : Type} {step : Nat → α → Option (α ⊕ β)} (P : Nat → α → Prop) (Q : β → Prop) (μ : Nat → α → Nat) (hs : ∀ k a, P k a → ∃ s, step k a = some s ∧ match s with
    | .inl b => P (k + 1) b ∧ μ (k + 1) b < μ k a
    | .inr o => Q o) : ∀ (m k : Nat) (a : α), μ k a < m → P k a → ∃ o, lp step m k a = some o ∧ Q o
  | 0, _, _, h, _ => absurd h (Nat.not_lt_zero _)
  | m + 1, k, a, hm, h => by
    obtain ⟨s, e, h1⟩ := hs k a h
    cases s with
    | inr o => exact ⟨o, by unfold lp; rw [e]; rfl, h1⟩
    | inl b =>
      obtain ⟨o, e2, q⟩ := lp_inv P Q μ hs m (k + 1) b (by omega) h1.1
      exact ⟨o, by unfold lp; rw [e]; exact e2, q⟩
theorem lrun_inv {α β : Type} {step : Nat → α → Option (α ⊕ β)} (P : Nat → α → Prop) (Q : β → Prop) (μ : Nat → α → Nat) {a : α} (h0 : P 0 a) (hs : ∀ k a, P k a → ∃ s, step k a = some s ∧ match s with
    | .inl b => P (k + 1) b ∧ μ (k + 1) b < μ k a
    | .inr o => Q o) : ∃ o, lrun step a = some o ∧ Q o := by
  obtain ⟨o, e, q⟩ := lp_inv P Q μ hs (μ 0 a + 1) 0 a (by omega) h0
  exact ⟨o, lrun_iff.mpr ⟨_, e⟩, q⟩

abbrev Src := Nat → Ev → Option (Option D)
def fStep (it : Src) (g : D → Ev → Option Ev) (body : Ev → Option Out) : Nat → Ev → Option (Ev ⊕ Out) := fun k ρ => (it k ρ).bind fun x => match x with
  | none => some (.inr (.nx ρ))
  | some d => (g d ρ).bind fun ρ1 => (body ρ1).map fun o => match o with
    | .nx ρ2 => .inl ρ2
    | .ct ρ2 => .inl ρ2
    | .bk ρ2 => .inr (.nx ρ2)
    | .rt d ρ2 => .inr (.rt d ρ2)
noncomputable def bFor (fi : Ev → Option (Src × Ev)) (g : D → Ev → Option Ev) (body : Ev → Option Out) : Ev → Option Out := fun ρ => (fi ρ).bind fun p => lrun (fStep p.1 g body) p.2
def wStep (c : Ev → Option (Bool × Ev)) (body : Ev → Option Out) : Nat → Ev → Option (Ev ⊕ Out) := fun _ ρ => (c ρ).bind fun p => if p.1 = true then (body p.2).map fun o => match o with
    | .nx ρ2 => .inl ρ2
    | .ct ρ2 => .inl ρ2
    | .bk ρ2 => .inr (.nx ρ2)
    | .rt d ρ2 => .inr (.rt d ρ2)
  else some (.inr (.nx p.2))
noncomputable def bWhile (c : Ev → Option (Bool × Ev)) (body : Ev → Option Out) : Ev → Option Out := fun ρ => lrun (wStep c body) ρ

section
variable (X : Cx)
def ItOk (C : List Nat) (σ : Sl) (held : List Itm) (J : It) (it : Src) : Prop := ∀ (k : Nat) (σ1 : Sl) (ρ1 : Ev) (H1 : Hp) (l1 : List Itm), Agr C σ σ1 → σ1.length = σ.length → ρ1.length = σ.length → Items X.K [] H1 (σ1.zip ρ1 ++ (held ++ l1)) →
  (it k ρ1 = some none → J.stop k H1) ∧ ∀ d, it k ρ1 = some (some d) → J.go k H1 ∧ ∀ x H2, J.yld k H1 x H2 → Items X.K [] H2 ((some x, d) :: (σ1.zip ρ1 ++ (held ++ l1)))
structure DI (C : List Nat) (tg iter : Expr) (f : Ev → Option (Src × Ev)) : Prop where
  ex : ∃ t, PI X tg iter t ∧ ∀ (σ : Sl) (H : Hp) (ρ : Ev) (l : List Itm) (R : It → Hp → Prop) (it : Src) (ρ' : Ev), σ.length = ρ.length → Items X.K [] H (σ.zip ρ ++ l) → f ρ = some (it, ρ') →
    (∀ J H' held, ρ'.length = ρ.length → Items X.K [] H' (σ.zip ρ' ++ (held ++ l)) → ItOk X C σ held J it → R J H') → t σ H R
end
section
variable {X : Cx} {C : List Nat}
theorem ds_for {tg iter : Expr} {body : List Stmt} {pos : Pos} {fi : Ev → Option (Src × Ev)} {g : D → Ev → Option Ev} {fb : Ev → Option Out} (C2 : List Nat) (hc : X.calm = true) (hi : DI X C2 tg iter fi) (hg : DG X C2 tg g) (hb : DSs X C2 body fb) (hC : ∀ i ∈ C, i ∈ C2 := by decide)
    (hp : PassesOwn (model X.prog X.w) X.A X.env X.xe := by exact PassesOwn.never) (hs : ∀ x, foldedSetIterable iter X.env x = pure x := by intro _; rfl) : DS X C (.For tg iter body [] pos) (bFor fi g fb) := by
  obtain ⟨ti, pi, ki⟩ := hi.ex
  obtain ⟨tg', pg, kg⟩ := hg.ex
  obtain ⟨tb, pb, kb⟩ := hb.ex
  refine ⟨_, ps_for hp hc pi pg pb hs, fun D' σ H ρ l o hl hI hf q => ?_⟩
  obtain ⟨⟨it, ρ0⟩, e1, hf⟩ := Option.bind_eq_some_iff.mp hf
  obtain ⟨n0, hf⟩ := lrun_iff.mp hf
  refine ki σ H ρ l _ it ρ0 hl hI e1 fun J H' held l1 i1 ok => ?_
  refine ⟨fun k m σ1 H1 => ∃ ρ1, Agr C2 σ σ1 ∧ σ1.length = σ.length ∧ ρ1.length = σ.length ∧ Items X.K [] H1 (σ1.zip ρ1 ++ (held ++ l)) ∧ lp (fStep it g fb) m k ρ1 = some o, ⟨n0, ρ0, Agr.refl, rfl, by omega, i1, hf⟩, ?_⟩
  rintro k m σ1 H1 ⟨ρ1, ag, h1, h2, i2, e2⟩
  obtain ⟨ks, kn⟩ := ok k σ1 ρ1 H1 l ag h1 h2 i2
  cases m with
  | zero => cases e2
  | succ m =>
    obtain ⟨s, e3, e4⟩ := Option.bind_eq_some_iff.mp e2
    obtain ⟨x, e5, e6⟩ := Option.bind_eq_some_iff.mp e3
    have agC : Agr C σ σ1 := fun i hi => ag i (hC i hi)
    cases x with
    | none =>
      cases e6
      cases e4
      exact .inl ⟨ks e5, q σ1 H1 h1 h2 agC (i2.sub ⟨held, perm_mid⟩)⟩
    | some d =>
      obtain ⟨kg1, ky⟩ := kn d e5
      obtain ⟨ρ2, e7, e8⟩ := Option.bind_eq_some_iff.mp e6
      obtain ⟨o1, e9, e10⟩ := Option.map_eq_some_iff.mp e8
      refine .inr ⟨kg1, fun σ' H' => ∃ ρ', s = .inl ρ' ∧ Agr C2 σ σ' ∧ σ'.length = σ.length ∧ ρ'.length = σ.length ∧ Items X.K [] H' (σ'.zip ρ' ++ (held ++ l)), ?_, ?_⟩
      · rintro σ' H' ⟨ρ', es, a', b1, b2, i3⟩
        subst es
        exact ⟨m, Nat.lt_succ_self m, ρ', a', b1, b2, i3, e4⟩
      · intro x H2 hy
        have i3 := ky x H2 hy
        refine kg x d σ1 H2 ρ1 (held ++ l) _ ρ2 (by omega) i3 e7 fun σ3 H3 m1 m2 a3 i4 => ?_
        refine kb _ σ3 H3 ρ2 (held ++ l) o1 (by omega) i4 e9 ?_
        cases o1 with
        | nx ρ3 =>
          exact fun σ4 H4 m3 m4 a4 i5 => ⟨ρ3, e10.symm, (ag.trans a3).trans a4, by omega, by omega, i5⟩
        | ct ρ3 =>
          exact fun σ4 H4 m3 m4 a4 i5 => ⟨ρ3, e10.symm, (ag.trans a3).trans a4, by omega, by omega, i5⟩
        | bk ρ3 =>
          subst e10
          cases e4
          exact fun σ4 H4 m3 m4 a4 i5 => q σ4 H4 (by omega) (by omega) (fun i hi => ((ag.trans a3).trans a4) i (hC i hi)) (i5.sub ⟨held, perm_mid⟩)
        | rt d2 ρ3 =>
          subst e10
          cases e4
          exact fun v σ4 H4 m3 m4 a4 i5 => q v σ4 H4 (by omega) (by omega) (fun i hi => ((ag.trans a3).trans a4) i (hC i hi)) (i5.sub ⟨held, (List.Perm.cons _ perm_mid).trans List.perm_middle.symm⟩)
theorem ds_while {c : Expr} {body : List Stmt} {pos : Pos} {fc : Ev → Option (Bool × Ev)} {fb : Ev → Option Out} (hc : DT X c fc) (hb : DSs X C body fb) (hp : PassesOwn (model X.prog X.w) X.A X.env X.xe := by exact PassesOwn.never) :
    DS X C (.While c body [] pos) (bWhile fc fb) := by
  obtain ⟨tc, pc, kc⟩ := hc.ex
  obtain ⟨tb, pb, kb⟩ := hb.ex
  refine ⟨_, ps_while hp pc pb, fun D' σ H ρ l o hl hI hf q => ?_⟩
  obtain ⟨n0, hf⟩ := lrun_iff.mp hf
  refine ⟨fun m σ1 H1 => ∃ ρ1 k, Agr C σ σ1 ∧ σ1.length = σ.length ∧ ρ1.length = σ.length ∧ Items X.K [] H1 (σ1.zip ρ1 ++ l) ∧ lp (wStep fc fb) m k ρ1 = some o, ⟨n0, ρ, 0, Agr.refl, rfl, hl.symm, hI, hf⟩, ?_⟩
  rintro m σ1 H1 ⟨ρ1, k, ag, h1, h2, i2, e2⟩
  cases m with
  | zero => cases e2
  | succ m =>
    obtain ⟨s, e3, e4⟩ := Option.bind_eq_some_iff.mp e2
    obtain ⟨⟨b, ρ2⟩, e5, e6⟩ := Option.bind_eq_some_iff.mp e3
    refine kc σ1 H1 ρ1 l _ b ρ2 (by omega) i2 e5 fun H2 m1 i3 => ?_
    cases b with
    | false =>
      rw [if_neg Bool.false_ne_true] at e6
      rw [if_neg Bool.false_ne_true]
      cases e6
      cases e4
      exact q σ1 H2 h1 (by show ρ2.length = _; omega) ag i3
    | true =>
      rw [if_pos rfl] at e6
      rw [if_pos rfl]
      obtain ⟨o1, e9, e10⟩ := Option.map_eq_some_iff.mp e6
      refine ⟨fun σ' H' => ∃ ρ', s = .inl ρ' ∧ Agr C σ σ' ∧ σ'.length = σ.length ∧ ρ'.length = σ.length ∧ Items X.K [] H' (σ'.zip ρ' ++ l), ?_, ?_⟩
      · rintro σ' H' ⟨ρ', es, a', b1, b2, i4⟩
        subst es
        exact ⟨m, Nat.lt_succ_self m, ρ', k + 1, a', b1, b2, i4, e4⟩
      · refine kb _ σ1 H2 ρ2 l o1 (by omega) i3 e9 ?_
        cases o1 with
        | nx ρ3 => exact fun σ4 H4 m3 m4 a4 i5 => ⟨ρ3, e10.symm, ag.trans a4, by omega, by omega, i5⟩
        | ct ρ3 => exact fun σ4 H4 m3 m4 a4 i5 => ⟨ρ3, e10.symm, ag.trans a4, by omega, by omega, i5⟩
        | bk ρ3 =>
          subst e10
          cases e4
          exact fun σ4 H4 m3 m4 a4 i5 => q σ4 H4 (by omega) (by omega) (ag.trans a4) i5
        | rt d2 ρ3 =>
          subst e10
          cases e4
          exact fun v σ4 H4 m3 m4 a4 i5 => q v σ4 H4 (by omega) (by omega) (ag.trans a4) i5

/-! ### what is walked -/
def itD (d : D) (k : Nat) : Option (Option D) := match d with
  | .lst _ ds => match ds[k]? with
    | some c => if c.frz = true then some (some c) else none
    | none => some none
  | .cst ds => match ds[k]? with
    | some c => if c.frz = true then some (some c) else none
    | none => some none
  | .tup ds => match ds[k]? with
    | some c => if c.frz = true then some (some c) else none
    | none => some none
  | .str x => match x.cps[k]? with
    | some c => some (some (.str ⟨#[c]⟩))
    | none => some none
  | _ => none
def isL : D → Bool
  | .lst _ _ => true
  | .cst _ => true
  | _ => false
def isT : D → Bool
  | .tup _ => true
  | _ => false
def isS : D → Bool
  | .str _ => true
  | _ => false
/-- one kind all the time -/
def itK (kd : D → Bool) (h : Hd) : Src := fun k ρ => if kd (h.get ρ) = true then itD (h.get ρ) k else none
def iSq (f : Ev → Option (Hd × Ev)) : Ev → Option (Src × Ev) := fun ρ => (f ρ).bind fun p => match p.1.get p.2 with
  | .lst _ _ => some (itK isL p.1, p.2)
  | .cst _ => some (itK isL p.1, p.2)
  | .tup _ => some (itK isT p.1, p.2)
  | .str _ => some (itK isS p.1, p.2)
  | _ => none
def iAny (K : Frg) (te : TE) : TI := fun σ H R => te σ H fun x H1 => (∃ a xs, x = .ref a ∧ SqL K H1 a xs ∧ R (Itl K a) H1) ∨ (∃ a xs, x = .ref a ∧ SqT K H1 a xs ∧ R (Itt K a) H1) ∨ ∃ z, x = .str z ∧ R (Its z) H1
theorem pi_any {tg e : Expr} {te : TE} (he : PE X e te) : PI X tg e (iAny X.K te) := by
  constructor
  intro pins s σ H R I h
  refine thn (he.run pins s σ H _ I h) ?_
  rintro v s1 ⟨x, H1, I1, r1, q1⟩
  rcases q1 with ⟨a, xs, rfl, hq, q⟩ | ⟨a, xs, rfl, hq, q⟩ | ⟨z, rfl, q⟩
  · cases r1
    obtain ⟨its, rv, pl, hz⟩ := I1.list hq
    refine wpAny_pyIter_list pl.isList ⟨_, [s1.heap.objs.size], _, _, H1, rfl, ?_, turn_list a s1.heap.objs.size, ?_, ?_, q⟩
    · exact I1.kept (t' := s1.toks) fun b o eb => Heap.get?_push_of_some _ eb
    · exact ⟨_, Heap.get?_push_size _ rfl, rfl, rfl⟩
    · intro b hb
      rw [List.mem_singleton] at hb
      subst hb
      exact I1.fpOk (Nat.le_refl _) (I1.hok.fresh (Nat.le_refl _))
  · cases r1
    obtain ⟨its, rv, pt, hz⟩ := I1.tuple hq
    have ht : s1.heap.IsTuple a its.toArray := pt
    refine wpAny_pyIter_tuple ht ⟨_, [s1.heap.objs.size], _, _, H1, rfl, ?_, turn_tuple a s1.heap.objs.size, ?_, ?_, q⟩
    · exact I1.kept (t' := s1.toks) fun b o eb => Heap.get?_push_of_some _ eb
    · exact ⟨_, Heap.get?_push_size _ rfl, rfl, rfl⟩
    · intro b hb
      rw [List.mem_singleton] at hb
      subst hb
      exact I1.fpOk (Nat.le_refl _) (I1.hok.fresh (Nat.le_refl _))
  · obtain ⟨t, rfl⟩ := r1
    cases ha : z.cps.all (· < 128)
    · refine wpAny_pyIter_wide ha (pi_one (tk := s1.toks) I1 _ (turn_str _ z t "str_iterator" ?_) ?_ q)
      · exact .inr rfl
      · exact ⟨_, Heap.get?_push_size _ rfl, rfl, rfl⟩
    · refine wpAny_pyIter_ascii ha (pi_one (tk := s1.toks) I1 _ (turn_str _ z t "str_ascii_iterator" ?_) ?_ q)
      · exact .inl rfl
      · exact ⟨_, Heap.get?_push_size _ rfl, rfl, rfl⟩
def hsl (C : List Nat) : Hd → Prop
  | .sl i => i ∈ C
  | .tm _ => True
theorem SqL.fun {K : Frg} {P : Program} {w : World} {H : Hp} {a : Addr} {xs ys : List V} (h : H a = some (.lst xs)) (h' : SqL K H a ys) (hK : ∀ o, K.lookup a = some o → False) : xs = ys := by
  rcases h' with (h' | ⟨o, h'⟩) | ⟨o, _, _, h', _⟩
  · rw [h] at h'; cases h'; rfl
  · rw [h] at h'; cases h'
  · exact (hK o h').elim
theorem it_item {K : Frg} {H : Hp} {l : List Itm} {v : V} {d : D} (hi : Items K [] H l) (hm : (some v, d) ∈ l) (k : Nat) :
    (∀ b ds, d = .lst b ds → ∃ a, v = .ref a ∧ (itD d k = some none → (Itl K a).stop k H) ∧ ∀ c, itD d k = some (some c) → (Itl K a).go k H ∧ ∀ x H2, (Itl K a).yld k H x H2 → Items K [] H2 ((some x, c) :: l)) ∧
    (∀ ds, d = .cst ds → ∃ a, v = .ref a ∧ (itD d k = some none → (Itl K a).stop k H) ∧ ∀ c, itD d k = some (some c) → (Itl K a).go k H ∧ ∀ x H2, (Itl K a).yld k H x H2 → Items K [] H2 ((some x, c) :: l)) ∧
    (∀ ds, d = .tup ds → ∃ a, v = .ref a ∧ (itD d k = some none → (Itt K a).stop k H) ∧ ∀ c, itD d k = some (some c) → (Itt K a).go k H ∧ ∀ x H2, (Itt K a).yld k H x H2 → Items K [] H2 ((some x, c) :: l)) ∧
    (∀ z, d = .str z → v = .str z ∧ (itD d k = some none → (Its z).stop k H) ∧ ∀ c, itD d k = some (some c) → (Its z).go k H ∧ ∀ x H2, (Its z).yld k H x H2 → Items K [] H2 ((some x, c) :: l)) := by
  have key : ∀ (ds : List D) (xs : List V) (P : Prop) (c : D), xs.length = ds.length → (match ds[k]? with
    | some c => if c.frz = true then some (some c) else none
    | none => some (none : Option D)) = some (some c) → ds[k]? = some c ∧ c.frz = true ∧ ∃ x, xs[k]? = some x := fun ds xs P c hl h => by
    split at h
    · rename_i c' e
      split at h
      · rename_i z
        cases h
        have : k < xs.length := by rw [hl]; exact (List.getElem?_eq_some_iff.mp e).1
        exact ⟨e, z, _, List.getElem?_eq_getElem this⟩
      · cases h
    · cases h
  have stp : ∀ (ds : List D) (xs : List V), xs.length = ds.length → (match ds[k]? with
    | some c => if c.frz = true then some (some c) else none
    | none => some (none : Option D)) = some none → xs.length ≤ k := fun ds xs hl h => by
    split at h
    · split at h <;> cases h
    · rename_i e
      rw [hl]
      exact List.getElem?_eq_none_iff.mp e
  refine ⟨?_, ?_, ?_, ?_⟩
  · rintro b ds rfl
    obtain ⟨a, xs, rfl, hs, hl, _, hd⟩ := hi.list hm
    refine ⟨a, rfl, fun h => ⟨xs, SqL.of hs, stp ds xs hl h⟩, fun c h => ?_⟩
    obtain ⟨e1, z, x, e2⟩ := key ds xs True c hl h
    refine ⟨⟨xs, x, SqL.of hs, e2⟩, fun y H2 hy => ?_⟩
    obtain ⟨rfl, hy⟩ := hy
    exact hd k c y e1 (hy xs (SqL.of hs)) z
  · rintro ds rfl
    obtain ⟨a, xs, rfl, hs, hl, _, hd⟩ := hi.const hm
    refine ⟨a, rfl, fun h => ⟨xs, hs, stp ds xs hl h⟩, fun c h => ?_⟩
    obtain ⟨e1, z, x, e2⟩ := key ds xs True c hl h
    refine ⟨⟨xs, x, hs, e2⟩, fun y H2 hy => ?_⟩
    obtain ⟨rfl, hy⟩ := hy
    exact hd k c y e1 (hy xs hs) z
  · rintro ds rfl
    obtain ⟨a, xs, rfl, hs, hl, _, hd⟩ := hi.tuple hm
    refine ⟨a, rfl, fun h => ⟨xs, hs, stp ds xs hl h⟩, fun c h => ?_⟩
    obtain ⟨e1, z, x, e2⟩ := key ds xs True c hl h
    refine ⟨⟨xs, x, hs, e2⟩, fun y H2 hy => ?_⟩
    obtain ⟨rfl, hy⟩ := hy
    exact hd k c y e1 (hy xs hs) z
  · rintro z rfl
    have hv : v = .str z := hi.view hm
    refine ⟨hv, fun h => ?_, fun c h => ?_⟩
    · show z.cps.size ≤ k
      replace h : (match z.cps[k]? with
        | some c => some (some (D.str ⟨#[c]⟩))
        | none => some (none : Option D)) = some none := h
      split at h
      · cases h
      · rename_i e
        simpa using e
    · replace h : (match z.cps[k]? with
        | some c => some (some (D.str ⟨#[c]⟩))
        | none => some (none : Option D)) = some (some c) := h
      split at h
      · rename_i u e
        cases h
        have hk : k < z.cps.size := by
          rw [Array.getElem?_eq_some_iff] at e
          exact e.1
        refine ⟨hk, fun x H2 hy => ?_⟩
        obtain ⟨rfl, w, e2, rfl⟩ := hy
        rw [e] at e2
        cases e2
        exact hi.add rfl fun _ _ => rfl
      · cases h
theorem di_any {tg e : Expr} {f : Ev → Option (Hd × Ev)} (h : DH X e f) (hC : ∀ ρ hd ρ', f ρ = some (hd, ρ') → hsl C hd) : DI X C tg e (iSq f) := by
  obtain ⟨t, ht, k⟩ := h.ex
  refine ⟨_, pi_any ht, fun σ H ρ l R it ρ' hl hi hf q => ?_⟩
  obtain ⟨⟨hd, ρ1⟩, e1, hf⟩ := Option.bind_eq_some_iff.mp hf
  refine k σ H ρ l _ hd ρ1 hl hi e1 fun v H1 l1 a1 i1 => ?_
  have hh := hC ρ hd ρ1 e1
  have m1 := mem_hd (X := X) (hl := by omega) a1 i1
  -- at a later turn the operand is still there
  have late : ∀ (σ1 : Sl) (ρ2 : Ev) (H2 : Hp) (l1 : List Itm), Agr C σ σ1 → σ1.length = σ.length → ρ2.length = σ.length → Items X.K [] H2 (σ1.zip ρ2 ++ (hd.its v ++ l1)) → (some v, hd.get ρ2) ∈ σ1.zip ρ2 ++ (hd.its v ++ l1) := fun σ1 ρ2 H2 l1 ag h1 h2 i2 => by
    cases hd with
    | tm d => simp [Hd.its, Hd.get]
    | sl i =>
      have a1' : σ[i]? = some (some v) := a1
      have a2 : σ1[i]? = some (some v) := by rw [ag i hh]; exact a1'
      have h3 : i < ρ2.length := by have := (List.getElem?_eq_some_iff.mp a2).1; omega
      have h4 : ρ2[i]? = some ρ2[i] := List.getElem?_eq_getElem h3
      show (some v, ρ2.getD i .any) ∈ _
      rw [getD_of h4]
      exact List.mem_append_left _ (zip_mem a2 h4)
  have i1' : Items X.K [] H1 (σ.zip ρ1 ++ (hd.its v ++ l)) := i1.perm perm_mid
  have item := fun (σ1 : Sl) (ρ2 : Ev) (H2 : Hp) (l1 : List Itm) (k : Nat) (ag : Agr C σ σ1) (h1 : σ1.length = σ.length) (h2 : ρ2.length = σ.length) (i2 : Items X.K [] H2 (σ1.zip ρ2 ++ (hd.its v ++ l1))) => it_item i2 (late σ1 ρ2 H2 l1 ag h1 h2 i2) k
  have i1' : Items X.K [] H1 (σ.zip ρ1 ++ (hd.its v ++ l)) := i1.perm perm_mid
  -- a list
  have okL : ∀ a xs, v = .ref a → SqL X.K H1 a xs → it = itK isL hd → ρ' = ρ1 → iAny X.K t σ H R → True := fun _ _ _ _ _ _ _ => trivial
  have doL : ∀ a xs, v = .ref a → SqL X.K H1 a xs → it = itK isL hd → ρ1 = ρ' → R (Itl X.K a) H1 := by
    rintro a xs rfl hs rfl rfl
    refine q _ H1 (hd.its (.ref a)) l1 i1' fun k σ1 ρ2 H2 l2 ag h1 h2 i2 => ?_
    obtain ⟨it1, it2, it3, it4⟩ := item σ1 ρ2 H2 l2 k ag h1 h2 i2
    unfold itK
    cases e : hd.get ρ2 with
    | lst b ds =>
      obtain ⟨a', ev, p1, p2⟩ := it1 b ds e
      cases ev
      rw [e] at p1 p2
      exact ⟨fun h => p1 h, fun d h => p2 d h⟩
    | cst ds =>
      obtain ⟨a', ev, p1, p2⟩ := it2 ds e
      cases ev
      rw [e] at p1 p2
      exact ⟨fun h => p1 h, fun d h => p2 d h⟩
    | _ => exact ⟨fun h => (by cases h), fun d h => (by cases h)⟩
  have doT : ∀ a xs, v = .ref a → SqT X.K H1 a xs → it = itK isT hd → ρ1 = ρ' → R (Itt X.K a) H1 := by
    rintro a xs rfl hs rfl rfl
    refine q _ H1 (hd.its (.ref a)) l1 i1' fun k σ1 ρ2 H2 l2 ag h1 h2 i2 => ?_
    obtain ⟨it1, it2, it3, it4⟩ := item σ1 ρ2 H2 l2 k ag h1 h2 i2
    unfold itK
    cases e : hd.get ρ2 with
    | tup ds =>
      obtain ⟨a', ev, p1, p2⟩ := it3 ds e
      cases ev
      rw [e] at p1 p2
      exact ⟨fun h => p1 h, fun d h => p2 d h⟩
    | _ => exact ⟨fun h => (by cases h), fun d h => (by cases h)⟩
  have doS : ∀ z, v = .str z → it = itK isS hd → ρ1 = ρ' → R (Its z) H1 := by
    rintro z rfl rfl rfl
    refine q _ H1 (hd.its (.str z)) l1 i1' fun k σ1 ρ2 H2 l2 ag h1 h2 i2 => ?_
    obtain ⟨it1, it2, it3, it4⟩ := item σ1 ρ2 H2 l2 k ag h1 h2 i2
    unfold itK
    cases e : hd.get ρ2 with
    | str z' =>
      obtain ⟨ev, p1, p2⟩ := it4 z' e
      cases ev
      rw [e] at p1 p2
      exact ⟨fun h => p1 h, fun d h => p2 d h⟩
    | _ => exact ⟨fun h => (by cases h), fun d h => (by cases h)⟩
  show (∃ a xs, v = .ref a ∧ SqL X.K H1 a xs ∧ R (Itl X.K a) H1) ∨ (∃ a xs, v = .ref a ∧ SqT X.K H1 a xs ∧ R (Itt X.K a) H1) ∨ ∃ z, v = .str z ∧ R (Its z) H1
  replace hf : (match hd.get ρ1 with
    | .lst _ _ => some (itK isL hd, ρ1)
    | .cst _ => some (itK isL hd, ρ1)
    | .tup _ => some (itK isT hd, ρ1)
    | .str _ => some (itK isS hd, ρ1)
    | _ => none) = some (it, ρ') := hf
  cases e : hd.get ρ1 with
  | lst b ds =>
    rw [e] at hf m1
    obtain ⟨a, xs, ev, hs, _⟩ := i1.list m1
    exact .inl ⟨a, xs, ev, SqL.of hs, doL a xs ev (SqL.of hs) (by cases hf; rfl) (by cases hf; rfl)⟩
  | cst ds =>
    rw [e] at hf m1
    obtain ⟨a, xs, ev, hs, _⟩ := i1.const m1
    exact .inl ⟨a, xs, ev, hs, doL a xs ev hs (by cases hf; rfl) (by cases hf; rfl)⟩
  | tup ds =>
    rw [e] at hf m1
    obtain ⟨a, xs, ev, hs, _⟩ := i1.tuple m1
    exact .inr (.inl ⟨a, xs, ev, hs, doT a xs ev hs (by cases hf; rfl) (by cases hf; rfl)⟩)
  | str z =>
    rw [e] at hf m1
    have ev : v = .str z := i1.view m1
    exact .inr (.inr ⟨z, ev, doS z ev (by cases hf; rfl) (by cases hf; rfl)⟩)
  | _ => rw [e] at hf; cases hf
/-- for .. in range(..) -/
def itR (lo c : Int) (n : Nat) : Src := fun k _ => if k < n then some (some (.int (lo + (k : Int) * c))) else some none
def iRg1 (fa : Ev → Option (List Hd × Ev)) : Ev → Option (Src × Ev) := fun ρ => (fa ρ).bind fun p => match p.1.map (Hd.get p.2) with
  | [.int j] => if -(2 ^ 62) ≤ j ∧ j < 2 ^ 62 then some (itR 0 1 j.toNat, p.2) else none
  | _ => none
def iRg2 (fa : Ev → Option (List Hd × Ev)) : Ev → Option (Src × Ev) := fun ρ => (fa ρ).bind fun p => match p.1.map (Hd.get p.2) with
  | [.int i, .int j] => if -(2 ^ 62) ≤ i ∧ i < 2 ^ 62 ∧ -(2 ^ 62) ≤ j ∧ j < 2 ^ 62 then some (itR i 1 (j - i).toNat, p.2) else none
  | _ => none
theorem itR_ok {C : List Nat} {σ : Sl} {lo : Int} {n : Nat} : ItOk X C σ [] (Itr lo n) (itR lo 1 n) := fun k σ1 ρ1 H1 l1 ag h1 h2 i1 => by
  unfold itR
  by_cases hk : k < n
  · rw [if_pos hk]
    refine ⟨fun h => (by cases h), fun d h => ?_⟩
    cases h
    refine ⟨hk, fun x H2 hy => ?_⟩
    obtain ⟨rfl, rfl⟩ := hy
    rw [Int.mul_one]
    exact i1.add rfl fun _ _ => rfl
  · rw [if_neg hk]
    exact ⟨fun _ => Nat.le_of_not_lt hk, fun d h => (by cases h)⟩
theorem di_range1 {a : Expr} {tg : Expr} {fa : Ev → Option (List Hd × Ev)} {p pos : Pos} (hg : Gl X "range") (hm : X.mg "range" = none) (ha : DA X [a] fa) (hs : starEach [a] X.env = [(false, eval a X.env)] := by rfl) : DI X C tg (.Call (.Name "range" p) [a] [] pos) (iRg1 fa) := by
  obtain ⟨t, ht, k⟩ := ha.ex
  refine ⟨_, pi_range1 hg hm ht hs, fun σ H ρ l R it ρ' hl hi hf q => ?_⟩
  obtain ⟨⟨hds, ρ1⟩, e1, hf⟩ := Option.bind_eq_some_iff.mp hf
  refine k σ H ρ l _ hds ρ1 hl hi e1 fun vs H1 l1 a1 i1 => ?_
  have hm := mem_hits (K := X.K) (H := H1) (ρ := ρ1) (by omega) (l := l) a1
  replace hf : (match hds.map (Hd.get ρ1) with
    | [.int j] => if -(2 ^ 62) ≤ j ∧ j < 2 ^ 62 then some (itR 0 1 j.toNat, ρ1) else none
    | _ => none) = some (it, ρ') := hf
  split at hf
  · rename_i j e
    rw [e] at hm
    cases hm with
    | cons m1 mr =>
      cases mr
      rename_i x
      have hx : x = .int j := i1.view m1
      subst hx
      split at hf
      · rename_i hj
        cases hf
        refine ⟨j, rfl, hj.1, hj.2, q (Itr 0 j.toNat) H1 [] l1 ?_ itR_ok⟩
        exact i1.drop
      · cases hf
  · cases hf
theorem di_range2 {a b : Expr} {tg : Expr} {fa : Ev → Option (List Hd × Ev)} {p pos : Pos} (hg : Gl X "range") (hm : X.mg "range" = none) (ha : DA X [a, b] fa) (hs : starEach [a, b] X.env = [(false, eval a X.env), (false, eval b X.env)] := by rfl) (hs2 : starEach [b] X.env = [(false, eval b X.env)] := by rfl) :
    DI X C tg (.Call (.Name "range" p) [a, b] [] pos) (iRg2 fa) := by
  obtain ⟨t, ht, k⟩ := ha.ex
  refine ⟨_, pi_range2 hg hm ht hs hs2, fun σ H ρ l R it ρ' hl hi hf q => ?_⟩
  obtain ⟨⟨hds, ρ1⟩, e1, hf⟩ := Option.bind_eq_some_iff.mp hf
  refine k σ H ρ l _ hds ρ1 hl hi e1 fun vs H1 l1 a1 i1 => ?_
  have hm := mem_hits (K := X.K) (H := H1) (ρ := ρ1) (by omega) (l := l) a1
  replace hf : (match hds.map (Hd.get ρ1) with
    | [.int i, .int j] => if -(2 ^ 62) ≤ i ∧ i < 2 ^ 62 ∧ -(2 ^ 62) ≤ j ∧ j < 2 ^ 62 then some (itR i 1 (j - i).toNat, ρ1) else none
    | _ => none) = some (it, ρ') := hf
  split at hf
  · rename_i i j e
    rw [e] at hm
    cases hm with
    | cons m1 mr =>
      cases mr with
      | cons m2 mr =>
        cases mr
        rename_i x y
        have hx : x = .int i := i1.view m1
        have hy : y = .int j := i1.view m2
        subst hx hy
        split at hf
        · rename_i hj
          cases hf
          refine ⟨i, j, rfl, hj, q (Itr i (j - i).toNat) H1 [] l1 ?_ itR_ok⟩
          exact i1.drop
        · cases hf
  · cases hf
end
end Mv
end
section
set_option Elab.async false
set_option linter.all false
set_option maxRecDepth 100000
/-! Comprehensions; the program's own defs. -/
namespace Mv
open PySem PySem.Spec PyProof.Rows L2

section
variable {X : Cx} {C : List Nat}
/-! ### a comprehension's own names -/
def wipeD (ρ : Ev) : List Nat → Ev
  | [] => ρ
  | v :: vs => (wipeD ρ vs).set v .any
def hold (σ : Sl) (ρ : Ev) : List Nat → List Itm
  | [] => []
  | v :: vs => ((σ[v]?).getD none, ρ.getD v .any) :: hold σ ρ vs
/-- the outer data at those places again -/
def unw (ρ : Ev) : List Nat → Ev → Ev
  | [], ρ2 => ρ2
  | v :: vs, ρ2 => unw ρ vs (ρ2.set v (ρ.getD v .any))
def unwS (σ : Sl) : List Nat → Sl → Sl
  | [], σ2 => σ2
  | v :: vs, σ2 => unwS σ vs (σ2.set v ((σ[v]?).getD none))
theorem wipeD_len (ρ : Ev) : ∀ vs, (wipeD ρ vs).length = ρ.length
  | [] => rfl
  | v :: vs => by unfold wipeD; rw [List.length_set, wipeD_len ρ vs]
theorem unw_len (ρ : Ev) : ∀ vs ρ2, (unw ρ vs ρ2).length = ρ2.length
  | [], _ => rfl
  | v :: vs, ρ2 => by unfold unw; rw [unw_len ρ vs]; simp
theorem unwS_len (σ : Sl) : ∀ vs σ2, (unwS σ vs σ2).length = σ2.length
  | [], _ => rfl
  | v :: vs, σ2 => by unfold unwS; rw [unwS_len σ vs]; simp
theorem wipe_get (σ : Sl) {i : Nat} : ∀ {vs : List Nat}, i ∉ vs → (wipe σ vs)[i]? = σ[i]?
  | [], _ => rfl
  | v :: vs, h => by
    unfold wipe
    have hne : v ≠ i := fun z => h (by simp [z])
    rw [List.getElem?_set_ne hne]
    exact wipe_get σ fun z => h (by simp [z])
theorem wipeD_get (ρ : Ev) {i : Nat} : ∀ {vs : List Nat}, i ∉ vs → (wipeD ρ vs)[i]? = ρ[i]?
  | [], _ => rfl
  | v :: vs, h => by
    unfold wipeD
    have hne : v ≠ i := fun z => h (by simp [z])
    rw [List.getElem?_set_ne hne]
    exact wipeD_get ρ fun z => h (by simp [z])
theorem wipe_items {K : Frg} {E : List Addr} {H : Hp} {σ : Sl} {ρ : Ev} (hl : σ.length = ρ.length) : ∀ {vs : List Nat} {l : List Itm}, vs.Nodup → (∀ v ∈ vs, v < σ.length) → Items K E H (σ.zip ρ ++ l) → Items K E H ((wipe σ vs).zip (wipeD ρ vs) ++ (hold σ ρ vs ++ l))
  | [], _, _, _, h => h
  | v :: vs, l, nd, hv, h => by
    obtain ⟨nd1, nd2⟩ := List.nodup_cons.mp nd
    have ih := wipe_items hl nd2 (fun w hw => hv w (by simp [hw])) h
    have hlt : v < σ.length := hv v (by simp)
    have e1 : (wipe σ vs)[v]? = some σ[v] := by rw [wipe_get σ nd1]; exact List.getElem?_eq_getElem hlt
    have e2 : (wipeD ρ vs)[v]? = some (ρ[v]'(by omega)) := by rw [wipeD_get ρ nd1]; exact List.getElem?_eq_getElem (by omega)
    obtain ⟨A, B, k1, _, k3⟩ := zip_at e1 e2
    unfold wipe wipeD hold
    rw [k3]
    rw [k1] at ih
    have e3 : (σ[v]?).getD none = σ[v] := by rw [List.getElem?_eq_getElem hlt]; rfl
    have e4 : ρ.getD v .any = ρ[v]'(by omega) := getD_of (List.getElem?_eq_getElem (by omega))
    rw [e3, e4]
    have h1 := Items.perm1 ih
    have h2 : Items K E H ((none, D.any) :: ((σ[v], ρ[v]'(by omega)) :: (A ++ B ++ (hold σ ρ vs ++ l)))) := h1.blank
    have h3 : Items K E H ((none, D.any) :: (A ++ B ++ ((σ[v], ρ[v]'(by omega)) :: (hold σ ρ vs ++ l)))) := h2.perm (.cons _ List.perm_middle.symm)
    exact Items.perm2 h3
theorem unwipe_items {K : Frg} {E : List Addr} {H : Hp} {σ : Sl} {ρ : Ev} : ∀ {vs : List Nat} {σ2 : Sl} {ρ2 : Ev} {l : List Itm}, σ2.length = ρ2.length → (∀ v ∈ vs, v < σ2.length) → Items K E H (σ2.zip ρ2 ++ (hold σ ρ vs ++ l)) → Items K E H ((unwS σ vs σ2).zip (unw ρ vs ρ2) ++ l)
  | [], _, _, _, _, _, h => h
  | v :: vs, σ2, ρ2, l, hl, hv, h => by
    unfold unwS unw
    refine unwipe_items (by simp [hl]) (fun w hw => by rw [List.length_set]; exact hv w (by simp [hw])) ?_
    have h1 : Items K E H (((σ[v]?).getD none, ρ.getD v .any) :: (σ2.zip ρ2 ++ (hold σ ρ vs ++ l))) := h.perm List.perm_middle
    exact set_items hl (hv v (by simp)) h1
theorem unwS_get (σ : Sl) {i : Nat} : ∀ {vs : List Nat} {σ2 : Sl}, i ∉ vs → (unwS σ vs σ2)[i]? = σ2[i]?
  | [], _, _ => rfl
  | v :: vs, σ2, h => by
    unfold unwS
    have hne : v ≠ i := fun z => h (by simp [z])
    rw [unwS_get σ (fun z => h (by simp [z])), List.getElem?_set_ne hne]
theorem unwS_own (σ : Sl) {i : Nat} : ∀ {vs : List Nat} {σ2 : Sl}, i ∈ vs → i < σ.length → σ2.length = σ.length → (unwS σ vs σ2)[i]? = σ[i]?
  | [], _, h, _, _ => by cases h
  | v :: vs, σ2, h, hi, hl => by
    unfold unwS
    by_cases hm : i ∈ vs
    · exact unwS_own σ hm hi (by simp [hl])
    · have e : i = v := by simpa [hm] using h
      subst e
      rw [unwS_get σ hm, List.getElem?_set_self (by omega), List.getElem?_eq_getElem hi]
      rfl
theorem unwS_eq {σ σ2 : Sl} {vs : List Nat} (hl : σ2.length = σ.length) (h : ∀ i, i ∉ vs → σ2[i]? = σ[i]?) : unwS σ vs σ2 = σ := by
  apply List.ext_getElem?
  intro i
  by_cases hm : i ∈ vs
  · by_cases hi : i < σ.length
    · exact unwS_own σ hm hi hl
    · rw [List.getElem?_eq_none (by rw [unwS_len]; omega), List.getElem?_eq_none (by omega)]
  · rw [unwS_get σ hm]
    exact h i hm
theorem wipe_same {σ σ2 : Sl} : ∀ {vs : List Nat}, σ2.length = σ.length → (∀ i, i ∉ vs → σ2[i]? = σ[i]?) → wipe σ2 vs = wipe σ vs := by
  have get_in : ∀ (σ : Sl) (vs : List Nat) (i : Nat), i ∈ vs → i < σ.length → (wipe σ vs)[i]? = some none := fun σ vs => by
    induction vs with
    | nil => intro i h; cases h
    | cons v vs ih =>
      intro i h hi
      unfold wipe
      by_cases e : v = i
      · subst e
        rw [List.getElem?_set_self (by rw [wipe_length]; exact hi)]
      · rw [List.getElem?_set_ne e]
        exact ih i (by simpa [Ne.symm e] using h) hi
  intro vs hl h
  apply List.ext_getElem?
  intro i
  by_cases hm : i ∈ vs
  · by_cases hi : i < σ.length
    · rw [get_in σ vs i hm hi, get_in σ2 vs i hm (by omega)]
    · rw [List.getElem?_eq_none (by rw [wipe_length]; omega), List.getElem?_eq_none (by rw [wipe_length]; omega)]
  · rw [wipe_get σ hm, wipe_get σ2 hm]
    exact h i hm

/-! ### [elt for tg in iter if test] -/
def cStep (vs : List Nat) (it : Src) (g : D → Ev → Option Ev) (test : Ev → Option (Bool × Ev)) (elt : Ev → Option (D × Ev)) : Nat → List D × Ev → Option ((List D × Ev) ⊕ (D × Ev)) := fun k a => (it k a.2).bind fun x => match x with
  | none => some (.inr (.lst true a.1, a.2))
  | some d => (g d (wipeD a.2 vs)).bind fun ρ1 => (test ρ1).bind fun p => if p.1 = true then (elt p.2).bind fun q => if a.1.length < 16777216 then some (.inl (a.1 ++ [q.1], unw a.2 vs q.2)) else none
    else some (.inl (a.1, unw a.2 vs p.2))
noncomputable def eLc (vs : List Nat) (fi : Ev → Option (Src × Ev)) (g : D → Ev → Option Ev) (test : Ev → Option (Bool × Ev)) (elt : Ev → Option (D × Ev)) : Ev → Option (D × Ev) := fun ρ => (fi ρ).bind fun p => lrun (cStep vs p.1 g test elt) ([], p.2)
def tAll : Ev → Option (Bool × Ev) := fun ρ => some (true, ρ)
structure DTs (X : Cx) (ifs : List Expr) (f : Ev → Option (Bool × Ev)) : Prop where
  ex : ∃ t, PTs X ifs t ∧ ∀ (σ : Sl) (H : Hp) (ρ : Ev) (l : List Itm) (Q : Bool → Hp → Prop) (r : Bool) (ρ' : Ev), σ.length = ρ.length → Items X.K [] H (σ.zip ρ ++ l) → f ρ = some (r, ρ') →
    (∀ H', ρ'.length = ρ.length → Items X.K [] H' (σ.zip ρ' ++ l) → Q r H') → t σ H Q
theorem dts_nil : DTs X [] tAll := ⟨_, pts_nil, fun σ H ρ l Q r ρ' hl hi hf q => by cases hf; exact q H rfl hi⟩
theorem dts_one {c : Expr} {f : Ev → Option (Bool × Ev)} (h : DT X c f) : DTs X [c] f := by
  obtain ⟨t, ht, k⟩ := h.ex
  exact ⟨_, pts_one ht, k⟩
/-! the reading that stands for all -/
def canE (K : Frg) (f : Ev → Option (D × Ev)) : TE := fun σ H Q => ∃ (ρ : Ev) (l : List Itm) (r : D) (ρ' : Ev), σ.length = ρ.length ∧ Items K [] H (σ.zip ρ ++ l) ∧ f ρ = some (r, ρ') ∧
  ∀ v H', ρ'.length = ρ.length → Items K [] H' ((some v, r) :: (σ.zip ρ' ++ l)) → Q v H'
def canT (K : Frg) (f : Ev → Option (Bool × Ev)) : TT := fun σ H Q => ∃ (ρ : Ev) (l : List Itm) (r : Bool) (ρ' : Ev), σ.length = ρ.length ∧ Items K [] H (σ.zip ρ ++ l) ∧ f ρ = some (r, ρ') ∧
  ∀ H', ρ'.length = ρ.length → Items K [] H' (σ.zip ρ' ++ l) → Q r H'
def canG (K : Frg) (C : List Nat) (f : D → Ev → Option Ev) : TG := fun v σ H Q => ∃ (d : D) (ρ : Ev) (l : List Itm) (ρ' : Ev), σ.length = ρ.length ∧ Items K [] H ((some v, d) :: (σ.zip ρ ++ l)) ∧ f d ρ = some ρ' ∧
  ∀ σ' H', σ'.length = σ.length → ρ'.length = σ.length → Agr C σ σ' → Items K [] H' (σ'.zip ρ' ++ l) → Q σ' H'
theorem DE.can {e : Expr} {f : Ev → Option (D × Ev)} (h : DE X e f) : PE X e (canE X.K f) := by
  obtain ⟨t, ht, k⟩ := h.ex
  exact ⟨fun pins s σ H Q I ⟨ρ, l, r, ρ', h1, h2, h3, h4⟩ => ht.run pins s σ H Q I (k σ H ρ l Q r ρ' h1 h2 h3 h4)⟩
theorem DTs.can {ifs : List Expr} {f : Ev → Option (Bool × Ev)} (h : DTs X ifs f) : PTs X ifs (canT X.K f) := by
  obtain ⟨t, ht, k⟩ := h.ex
  exact ⟨fun pins s σ H Q I ⟨ρ, l, r, ρ', h1, h2, h3, h4⟩ => ht.run pins s σ H Q I (k σ H ρ l Q r ρ' h1 h2 h3 h4)⟩
theorem DG.can {tg : Expr} {f : D → Ev → Option Ev} (h : DG X C tg f) : PG X tg (canG X.K C f) := by
  obtain ⟨t, ht, k⟩ := h.ex
  exact ⟨fun pins s σ H v u Q I hr ⟨d, ρ, l, ρ', h1, h2, h3, h4⟩ => ht.run pins s σ H v u Q I hr (k v d σ H ρ l Q ρ' h1 h2 h3 h4)⟩
theorem PE.len {e : Expr} {t : TE} (h : PE X e t) : PE X e (fun σ H Q => σ.length = X.N.length → t σ H Q) := ⟨fun pins s σ H Q I hw => h.run pins s σ H Q I (hw I.len)⟩
theorem PS.len {st : Stmt} {t : TS} (h : PS X st t) : PS X st (fun D' σ H => σ.length = X.N.length → t D' σ H) := ⟨fun pins s σ H D' I hw => h.run pins s σ H D' I (hw I.len)⟩
theorem lc_ok {fi : Ev → Option (Src × Ev)} {g : D → Ev → Option Ev} {test : Ev → Option (Bool × Ev)} {fe : Ev → Option (D × Ev)} {Cb : List Nat} {vs : List Nat} {n : Nat} {wi : TI}
    (hn : X.N.length = n) (nd : vs.Nodup) (hv : ∀ v ∈ vs, v < n) (hCb : ∀ i, i < n → i ∉ vs → i ∈ Cb)
    (ki : ∀ (σ : Sl) (H : Hp) (ρ : Ev) (l : List Itm) (R : It → Hp → Prop) (it : Src) (ρ' : Ev), σ.length = ρ.length → Items X.K [] H (σ.zip ρ ++ l) → fi ρ = some (it, ρ') →
      (∀ J H' held, ρ'.length = ρ.length → Items X.K [] H' (σ.zip ρ' ++ (held ++ l)) → ItOk X C σ held J it → R J H') → wi σ H R)
    (σ : Sl) (H : Hp) (ρ : Ev) (l : List Itm) (Q : VK) (r : D) (ρ' : Ev) (hσ : σ.length = n) (hl : σ.length = ρ.length) (hI : Items X.K [] H (σ.zip ρ ++ l)) (hf : eLc vs fi g test fe ρ = some (r, ρ'))
    (q : ∀ v H', ρ'.length = ρ.length → Items X.K [] H' ((some v, r) :: (σ.zip ρ' ++ l)) → Q v H') : tLc wi (canG X.K Cb g) (canT X.K test) (canE X.K fe) vs σ H Q := by
  obtain ⟨⟨it, ρ0⟩, e1, hf⟩ := Option.bind_eq_some_iff.mp hf
  obtain ⟨n0, hf⟩ := lrun_iff.mp hf
  refine ki σ H ρ l _ it ρ0 hl hI e1 fun J H1 held l1 i1 ok A hA => ?_
  refine ⟨fun k m H2 => ∃ acc ρ1, ρ1.length = σ.length ∧ Items X.K [] H2 ((some (.ref A), .lst true acc) :: (σ.zip ρ1 ++ (held ++ l))) ∧ lp (cStep vs it g test fe) m k (acc, ρ1) = some (r, ρ'), ⟨n0, [], ρ0, by omega, Items.new hA rfl i1 (fun b hb => by cases hb), hf⟩, ?_⟩
  rintro k m H2 ⟨acc, ρ1, h2, i2, e2⟩
  have i2' : Items X.K [] H2 (σ.zip ρ1 ++ (held ++ ((some (.ref A), .lst true acc) :: l))) := i2.perm (by
    refine List.Perm.trans List.perm_middle.symm ?_
    exact List.Perm.append_left _ List.perm_middle.symm)
  obtain ⟨ks, kn⟩ := ok k σ ρ1 H2 _ Agr.refl rfl h2 i2'
  cases m with
  | zero => cases e2
  | succ m =>
    obtain ⟨s, e3, e4⟩ := Option.bind_eq_some_iff.mp e2
    obtain ⟨x, e5, e6⟩ := Option.bind_eq_some_iff.mp e3
    cases x with
    | none =>
      cases e6
      cases e4
      exact .inl ⟨ks e5, q _ H2 (by show ρ1.length = _; omega) (i2.sub ⟨held, (List.Perm.cons _ perm_mid).trans List.perm_middle.symm⟩)⟩
    | some d =>
      obtain ⟨kg1, ky⟩ := kn d e5
      obtain ⟨ρ2, e7, e8⟩ := Option.bind_eq_some_iff.mp e6
      obtain ⟨⟨b, ρ3⟩, e9, e10⟩ := Option.bind_eq_some_iff.mp e8
      refine .inr ⟨kg1, fun H' => ∃ acc' ρ4, s = .inl (acc', ρ4) ∧ ρ4.length = σ.length ∧ Items X.K [] H' ((some (.ref A), .lst true acc') :: (σ.zip ρ4 ++ (held ++ l))), ?_, ?_⟩
      · rintro H' ⟨acc', ρ4, es, b1, i3⟩
        subst es
        exact ⟨m, Nat.lt_succ_self m, acc', ρ4, b1, i3, e4⟩
      · intro x H3 hy
        have i3 := ky x H3 hy
        have i4 : Items X.K [] H3 (σ.zip ρ1 ++ ((some x, d) :: (held ++ ((some (.ref A), .lst true acc) :: l)))) := i3.perm List.perm_middle.symm
        have i5 := wipe_items (vs := vs) (by omega) nd (fun v hv' => by rw [hσ]; exact hv v hv') i4
        have i6 : Items X.K [] H3 ((some x, d) :: ((wipe σ vs).zip (wipeD ρ1 vs) ++ (hold σ ρ1 vs ++ (held ++ ((some (.ref A), .lst true acc) :: l))))) := i5.perm (by
          refine List.Perm.trans (List.Perm.append_left _ List.perm_middle) ?_
          exact List.perm_middle)
        refine ⟨d, _, _, ρ2, by rw [wipe_length, wipeD_len]; omega, i6, e7, fun σ3 H4 m1 m2 ag i7 => ?_⟩
        rw [wipe_length] at m1 m2
        have same : ∀ i, i ∉ vs → σ3[i]? = σ[i]? := fun i hi => by
          by_cases hin : i < n
          · rw [ag i (hCb i hin hi), wipe_get σ hi]
          · rw [List.getElem?_eq_none (by omega), List.getElem?_eq_none (by omega)]
        refine ⟨wipe_same (by omega) same |>.trans ?_, ?_⟩
        · rfl
        · have back : ∀ (ρ5 : Ev) (H5 : Hp) (l' : List Itm), ρ5.length = σ.length → Items X.K [] H5 (σ3.zip ρ5 ++ (hold σ ρ1 vs ++ l')) → Items X.K [] H5 (σ.zip (unw ρ1 vs ρ5) ++ l') := fun ρ5 H5 l' hl5 hi5 => by
            have := unwipe_items (σ := σ) (ρ := ρ1) (vs := vs) (by omega) (fun v hv' => by rw [m1, hσ]; exact hv v hv') hi5
            rw [unwS_eq (by omega) same] at this
            exact this
          refine ⟨ρ2, _, b, ρ3, by omega, i7, e9, fun H5 m3 i8 => ?_⟩
          cases b with
          | false =>
            rw [if_neg Bool.false_ne_true] at e10
            rw [if_neg Bool.false_ne_true]
            cases e10
            refine ⟨acc, _, rfl, by rw [unw_len]; show ρ3.length = _; omega, ?_⟩
            have i9 := back ρ3 H5 _ (by omega) i8
            exact i9.perm (by
              refine List.Perm.trans (List.Perm.append_left _ List.perm_middle) ?_
              exact List.perm_middle)
          | true =>
            rw [if_pos rfl] at e10
            rw [if_pos rfl]
            obtain ⟨⟨y, ρ4⟩, e11, e12⟩ := Option.bind_eq_some_iff.mp e10
            replace e12 : (if acc.length < 16777216 then some (Sum.inl (acc ++ [y], unw ρ1 vs ρ4)) else none) = some s := e12
            split at e12
            · rename_i hz
              refine ⟨ρ3, _, y, ρ4, by omega, i8, e11, fun v H6 m4 i9 => ?_⟩
              have i10 : Items X.K [] H6 (σ3.zip ρ4 ++ (hold σ ρ1 vs ++ ((some v, y) :: (held ++ ((some (.ref A), .lst true acc) :: l))))) := i9.perm (by
                refine List.Perm.trans List.perm_middle.symm ?_
                exact List.Perm.append_left _ List.perm_middle.symm)
              have i11 := back ρ4 H6 _ (by omega) i10
              have i12 : Items X.K [] H6 ((some (.ref A), .lst true acc) :: ((some v, y) :: (σ.zip (unw ρ1 vs ρ4) ++ (held ++ l)))) := i11.perm (by
                refine List.Perm.trans List.perm_middle ?_
                refine List.Perm.trans (.cons _ (List.Perm.append_left _ List.perm_middle)) ?_
                refine List.Perm.trans (.cons _ List.perm_middle) ?_
                exact List.Perm.swap _ _ _)
              obtain ⟨us, hs, hlen, hop⟩ := i12.open
              refine ⟨us, hs, by rw [sizeLine_eq, hlen]; exact hz, acc ++ [y], _, by cases e12; rfl, by rw [unw_len]; omega, ?_⟩
              refine Items.close hs (by simp [hlen]) ?_
              have ep : prs (us ++ [v]) (acc ++ [y]) = prs us acc ++ [(some v, y)] := by
                show ((us ++ [v]).map some).zip (acc ++ [y]) = _
                rw [List.map_append, List.zip_append (by simp [hlen])]
                rfl
              rw [ep, List.append_assoc]
              exact hop
            · cases e12
theorem de_lc {elt tg iter : Expr} {ifs : List Expr} {scope : Scope} {own : List (Str × Nat)} {pos : Pos} {fi : Ev → Option (Src × Ev)} {g : D → Ev → Option Ev} {test : Ev → Option (Bool × Ev)} {fe : Ev → Option (D × Ev)} (C Cb : List Nat) (n : Nat)
    (hc : X.calm = true) (hN : X.N.Nodup) (hn : X.N.length = n) (hi : DI X C tg iter fi) (ok : BlkOk X.N X.env.scope scope own)
    (hg : ∀ (s : Shared) (H : Hp) (A : Addr) (cl : List (Str × Addr)) (fp : List Addr), DG (X.blk s H scope (compEnvC scope cl A X.env) fp) Cb tg g)
    (ht : ∀ (s : Shared) (H : Hp) (A : Addr) (cl : List (Str × Addr)) (fp : List Addr), DTs (X.blk s H scope (compEnvC scope cl A X.env) fp) ifs test)
    (he : ∀ (s : Shared) (H : Hp) (A : Addr) (cl : List (Str × Addr)) (fp : List Addr), DE (X.blk s H scope (compEnvC scope cl A X.env) fp) elt fe)
    (nd : (own.map (·.2)).Nodup := by decide) (hv : ∀ v ∈ own.map (·.2), v < n := by decide) (hCb : ∀ i, i < n → i ∉ own.map (·.2) → i ∈ Cb := by decide)
    (hs : ∀ x, foldedSetIterable iter X.env x = pure x := by intro _; rfl) : DE X (.ListComp elt [⟨tg, iter, ifs, 0⟩] scope pos) (eLc (own.map (·.2)) fi g test fe) := by
  obtain ⟨ti, pi, ki⟩ := hi.ex
  have h0 := pe_lc (te := canE X.K fe) (tt := canT X.K test) (g := canG X.K Cb g) hc hN pi ok (fun s H A cl fp => (hg s H A cl fp).can) (fun s H A cl fp => (ht s H A cl fp).can) (fun s H A cl fp => (he s H A cl fp).can) (pos := pos) hs
  exact ⟨_, PE.len h0, fun σ H ρ l Q r ρ' h2 h3 h4 h5 h1 => lc_ok hn nd hv hCb ki σ H ρ l Q r ρ' (by omega) h2 h3 h4 h5⟩
/-- name = [..] -/
theorem ds_setLc (i : Nat) {y : Str} {py : Pos} {elt tg iter : Expr} {ifs : List Expr} {scope : Scope} {own : List (Str × Nat)} {pos spos : Pos} {fi : Ev → Option (Src × Ev)} {g : D → Ev → Option Ev} {test : Ev → Option (Bool × Ev)} {fe : Ev → Option (D × Ev)} (C2 Cb : List Nat) (n : Nat)
    (hc : X.calm = true) (hN : X.N.Nodup) (hn : X.N.length = n) (hi : DI X C2 tg iter fi) (ok : BlkOk X.N X.env.scope scope own)
    (hg : ∀ (s : Shared) (H : Hp) (A : Addr) (cl : List (Str × Addr)) (fp : List Addr), DG (X.blk s H scope (compEnvC scope cl A X.env) fp) Cb tg g)
    (ht : ∀ (s : Shared) (H : Hp) (A : Addr) (cl : List (Str × Addr)) (fp : List Addr), DTs (X.blk s H scope (compEnvC scope cl A X.env) fp) ifs test)
    (he : ∀ (s : Shared) (H : Hp) (A : Addr) (cl : List (Str × Addr)) (fp : List Addr), DE (X.blk s H scope (compEnvC scope cl A X.env) fp) elt fe)
    (nd : (own.map (·.2)).Nodup := by decide) (hv : ∀ v ∈ own.map (·.2), v < n := by decide) (hCb : ∀ i, i < n → i ∉ own.map (·.2) → i ∈ Cb := by decide)
    (hC : i ∉ C := by decide) (hy : X.N[i]? = some y := by rfl) (hyl : X.env.scope.names.lookup y = some .local := by rfl)
    (hsw : swapsWith (.ListComp elt [⟨tg, iter, ifs, 0⟩] scope pos) (some (.Name y py)) spos.line X.env = pure true := by exact sw_true rfl rfl rfl (by decide +kernel))
    (hs : ∀ x, foldedSetIterable iter X.env x = pure x := by intro _; rfl) : DS X C (.Assign [.Name y py] (.ListComp elt [⟨tg, iter, ifs, 0⟩] scope pos) spos) (bAsg (eLc (own.map (·.2)) fi g test fe) (gNm i)) := by
  obtain ⟨ti, pi, ki⟩ := hi.ex
  have h0 := ps_setLc (te := canE X.K fe) (tt := canT X.K test) (g := canG X.K Cb g) (i := i) hc hN hy hyl hsw pi ok (fun s H A cl fp => (hg s H A cl fp).can) (fun s H A cl fp => (ht s H A cl fp).can) (fun s H A cl fp => (he s H A cl fp).can) hs
  refine ⟨_, PS.len h0, fun D' σ H ρ l o hl hI hf q h1 => ?_⟩
  obtain ⟨⟨d, ρ1⟩, e1, hf⟩ := Option.bind_eq_some_iff.mp hf
  cases hf
  refine lc_ok hn nd hv hCb ki σ H ρ l _ d ρ1 (by omega) hl hI e1 fun v H1 l1 i1 => ?_
  show D'.nx (σ.set i (some v)) H1
  by_cases h : i < σ.length
  · exact q _ H1 (by simp) (by simp; omega) (Agr.set hC) (set_items (by show σ.length = ρ1.length; have l2 : ρ1.length = ρ.length := l1; omega) h i1)
  · have e1 : σ.set i (some v) = σ := List.set_eq_of_length_le (by omega)
    have e2 : ρ1.set i d = ρ1 := List.set_eq_of_length_le (by omega)
    refine q _ H1 (by simp) (by simp; omega) (Agr.set hC) ?_
    show Items X.K [] H1 ((σ.set i (some v)).zip (ρ1.set i d) ++ l)
    rw [e1, e2]
    exact i1.tail

/-! ### the program's own defs -/
def keepL : List Bool → Ev → List D
  | c :: cs, d :: ρ => (if c = true then d else .any) :: keepL cs ρ
  | _, _ => []
def fnD (cs : List Bool) (ns : Nat) (body : Ev → Option Out) : List D → Option (D × List D) := fun ds => if ds.length = cs.length then (body (ds ++ List.replicate (ns - cs.length) .any)).bind fun o => match o with
    | .rt d ρ => some (d, keepL cs ρ)
    | .nx ρ => some (.non, keepL cs ρ)
    | _ => none
  else none
theorem keepL_items {K : Frg} {H : Hp} : ∀ {cs : List Bool} {σ : Sl} {ρ : Ev} {vs : List V} {l : List Itm}, vs.length = cs.length → cs.length ≤ σ.length → σ.length = ρ.length → (∀ i : Nat, cs[i]? = some true → σ[i]? = (vs[i]?).map some) →
    Items K [] H (σ.zip ρ ++ l) → Items K [] H (prs vs (keepL cs ρ) ++ l) ∧ (keepL cs ρ).length = cs.length
  | [], σ, ρ, vs, l, h1, h2, h3, h4, h => by
    unfold keepL
    cases vs with
    | cons _ _ => simp at h1
    | nil => exact ⟨h.drop, rfl⟩
  | c :: cs, [], _, _, _, _, h2, _, _, _ => by simp at h2
  | c :: cs, s :: σ, [], _, _, _, _, h3, _, _ => by simp at h3
  | c :: cs, s :: σ, d :: ρ, [], _, h1, _, _, _, _ => by simp at h1
  | c :: cs, s :: σ, d :: ρ, v :: vs, l, h1, h2, h3, h4, h => by
    have hh : Items K [] H ((s, d) :: (σ.zip ρ ++ l)) := h
    have rest : ∀ i : Nat, cs[i]? = some true → σ[i]? = (vs[i]?).map some := fun i hi => by
      have := h4 (i + 1) (by simpa using hi)
      simpa using this
    unfold keepL
    cases c with
    | true =>
      have e : s = some v := by
        have := h4 0 rfl
        simpa using this
      subst e
      have hh2 : Items K [] H (σ.zip ρ ++ ((some v, d) :: l)) := hh.perm List.perm_middle.symm
      obtain ⟨k1, k2⟩ := keepL_items (by simpa using h1) (by simpa using h2) (by simpa using h3) rest hh2
      refine ⟨?_, by simp [k2]⟩
      rw [if_pos rfl]
      exact k1.perm List.perm_middle
    | false =>
      obtain ⟨k1, k2⟩ := keepL_items (by simpa using h1) (by simpa using h2) (by simpa using h3) rest hh.tail
      refine ⟨?_, by simp [k2]⟩
      rw [if_neg Bool.false_ne_true]
      exact k1.blank
theorem start_zip {vs : List V} {ds : List D} {n : Nat} (h : vs.length = ds.length) : (vs.map some ++ List.replicate n none).zip (ds ++ List.replicate n D.any) = prs vs ds ++ List.replicate n ((none : Option V), D.any) := by
  rw [List.zip_append (by simp [h])]
  congr 1
  induction n with
  | zero => rfl
  | succ n ih => simp [List.replicate_succ, ih]
theorem blanks {K : Frg} {H : Hp} {l : List Itm} : ∀ {n : Nat}, Items K [] H l → Items K [] H (List.replicate n ((none : Option V), D.any) ++ l)
  | 0, h => h
  | n + 1, h => (blanks (n := n) h).blank
/-- a def by its body -/
theorem def_ok {P : Program} {w : World} {K : Frg} {mg : Str → Option Value} {base : Heap} {x : Str} {st : Stmt} {f : Addr} {fd : FuncData} {N ps : List Str} {k : Nat} (F : Fun K x x st f fd) (S : FnScope N ps (defScope st)) (hb : Binds K fd ps []) (hm : mg x = some (.ref f))
    (C : List Nat) (cs : List Bool) (ns : Nat) (body : Ev → Option Out) (hcs : cs.length = ps.length) (hns : N.length = ns) (hps : ps.length ≤ ns) (hC : ∀ i, i < cs.length → cs.getD i false = true → i ∈ C)
    (hbody : ∀ (cdv : Value) (A : Around) (outer : List Env) (s : Shared) (H : Hp) (E : XK), Room k (A.deeper (envOfC x (defScope st) s.heap.objs.size f cdv)) →
      DSs (cxOf CX0 P w K mg base N x (defScope st) f cdv A outer s H E).nox C (defBody st) body) : FOk P w K mg base (k + 1) x ps (fnD cs ns body) := by
  refine ⟨f, fd, hm, F.kp, hb, (by obtain ⟨oc, od, kV, doc, pm, an, cd', ct, osl, e, lk, _⟩ := F.ex; exact ⟨oc, od, osl, lk⟩), F.ok S ?_ ?_⟩
  · rintro vs H Q E ⟨l, ds, r, bs, h1, _⟩
    exact h1
  · rintro cdv A outer s H vs Q E hr ⟨l, ds, r, bs, h1, h2, hi, hf, q⟩
    obtain ⟨t, ht, kk⟩ := (hbody cdv A outer s H E hr).ex
    refine ⟨t, ht, ?_⟩
    unfold fnD at hf
    rw [if_pos (by omega)] at hf
    obtain ⟨o, e1, hf⟩ := Option.bind_eq_some_iff.mp hf
    have hst : L2.start N vs = vs.map some ++ List.replicate (ns - cs.length) none := by
      unfold L2.start
      rw [hns, h1, hcs]
    rw [hst]
    have hlen : (vs.map some ++ List.replicate (ns - cs.length) (none : Option V)).length = (ds ++ List.replicate (ns - cs.length) D.any).length := by simp [h1, h2]
    have key : ∀ (d : D) (ρ' : Ev) (σ' : Sl) (H' : Hp) (l' : List Itm), σ'.length = (vs.map some ++ List.replicate (ns - cs.length) (none : Option V)).length → ρ'.length = (vs.map some ++ List.replicate (ns - cs.length) (none : Option V)).length → Agr C (vs.map some ++ List.replicate (ns - cs.length) (none : Option V)) σ' →
        Items K [] H' (σ'.zip ρ' ++ l') → Items K [] H' (prs vs (keepL cs ρ') ++ l') ∧ (keepL cs ρ').length = cs.length := fun d ρ' σ' H' l' m1 m2 ag i => by
      refine keepL_items (by omega) (by rw [m1]; simp; omega) (by omega) (fun i hi => ?_) i
      have hlt : i < cs.length := (List.getElem?_eq_some_iff.mp hi).1
      have hin : i ∈ C := hC i hlt (by rw [List.getD_eq_getElem?_getD, hi]; rfl)
      rw [ag i hin, List.getElem?_append_left (by simp; omega), List.getElem?_map]
    refine kk _ _ H _ l o hlen ?_ e1 ?_
    · rw [start_zip (by omega), List.append_assoc]
      refine Items.perm (blanks (n := ns - cs.length) hi) perm_mid
    · cases o with
      | nx ρ' =>
        cases hf
        intro σ' H' m1 m2 ag i
        obtain ⟨k1, k2⟩ := key .non ρ' σ' H' l m1 m2 ag i
        exact q .non H' (by omega) (k1.add (d := .non) rfl fun _ _ => rfl)
      | rt d ρ' =>
        cases hf
        intro v σ' H' m1 m2 ag i
        have i' : Items K [] H' (σ'.zip ρ' ++ ((some v, r) :: l)) := i.perm List.perm_middle.symm
        obtain ⟨k1, k2⟩ := key r ρ' σ' H' ((some v, r) :: l) m1 m2 ag i'
        exact q v H' (by omega) (k1.perm List.perm_middle)
      | bk ρ' => cases hf
      | ct ρ' => cases hf
end
end Mv
end
section
set_option Elab.async false
set_option linter.all false
set_option maxRecDepth 100000
/-! What the operations make of data. -/
namespace Mv
open PySem PySem.Spec PyProof.Rows L2

/-! ### alternatives -/
def rOr (r r' : R2) : R2 := fun x y H Q => r x y H Q ∨ r' x y H Q
section
variable {X : Cx}
theorem OpR.or {f : Value → Value → Sem Value} {r r' : R2} (h : OpR X f r) (h' : OpR X f r') : OpR X f (rOr r r') := by
  intro pins s σ H x y v u Q I rx ry q
  rcases q with q | q
  · exact h pins s σ H x y v u Q I rx ry q
  · exact h' pins s σ H x y v u Q I rx ry q
def gOr (g g' : D → D → Option D) : D → D → Option D := fun a b => match g a b with
  | some d => some d
  | none => g' a b
theorem Op2.or {K : Frg} {r r' : R2} {g g' : D → D → Option D} (h : Op2 K r g) (h' : Op2 K r' g') : Op2 K (rOr r r') (gOr g g') := by
  intro x y H dx dy l Q d hi mx my hg q
  replace hg : (match g dx dy with
    | some d => some d
    | none => g' dx dy) = some d := hg
  split at hg
  · rename_i e
    exact .inl (h x y H dx dy l Q d hi mx my (by rw [e]; exact hg) q)
  · exact .inr (h' x y H dx dy l Q d hi mx my hg q)
end
/-! ### ints -/
/-- two ints in, under a condition, an int or a bool out -/
def gI (C : Int → Int → Prop) [∀ i j, Decidable (C i j)] (f : Int → Int → D) : D → D → Option D := fun a b => match a, b with
  | .int i, .int j => if C i j then some (f i j) else none
  | _, _ => none
def gI0 (f : Int → Int → D) : D → D → Option D := fun a b => match a, b with
  | .int i, .int j => some (f i j)
  | _, _ => none
section
variable {K : Frg}
theorem Op2.int {C C' : Int → Int → Prop} [∀ i j, Decidable (C' i j)] {f : Int → Int → V} {f' : Int → Int → D} (hC : ∀ i j, C' i j → C i j) (hf : ∀ i j, C' i j → (f' i j).frz = true ∧ ∀ G, Fz K G (f' i j) (f i j)) : Op2 K (rI C f) (gI C' f') := by
  intro x y H dx dy l Q d hi mx my hg q
  unfold gI at hg
  split at hg
  · rename_i i j
    split at hg
    · rename_i c
      cases hg
      refine ⟨i, j, hi.view mx, hi.view my, hC i j c, q _ H (hi.add (hf i j c).1 fun G _ => (hf i j c).2 G)⟩
    · cases hg
  · cases hg
theorem Op2.int0 {f : Int → Int → V} {f' : Int → Int → D} (hf : ∀ i j, (f' i j).frz = true ∧ ∀ G, Fz K G (f' i j) (f i j)) : Op2 K (rI0 f) (gI0 f') := by
  intro x y H dx dy l Q d hi mx my hg q
  unfold gI0 at hg
  split at hg
  · rename_i i j
    cases hg
    exact ⟨i, j, hi.view mx, hi.view my, q _ H (hi.add (hf i j).1 fun G _ => (hf i j).2 G)⟩
  · cases hg
end
def MulOk (i j : Int) : Prop := i.natAbs < 2 ^ 64 ∨ j.natAbs < 2 ^ 64 ∨ (i.natAbs < 2 ^ 4000 ∧ j.natAbs < 2 ^ 4000)
instance (i j : Int) : Decidable (MulOk i j) := by unfold MulOk; infer_instance
def DivOk (j : Int) : Prop := 0 < j ∧ j.natAbs < 2 ^ 4000
instance (j : Int) : Decidable (DivOk j) := by unfold DivOk; infer_instance
def DivNo (j : Int) : Prop := j < 0 ∧ j.natAbs < 2 ^ 4000
instance (j : Int) : Decidable (DivNo j) := by unfold DivNo; infer_instance
def PowOk (i j : Int) : Prop := 0 ≤ j ∧ j ≤ 1000000 ∧ i.natAbs < 2 ^ 64
instance (i j : Int) : Decidable (PowOk i j) := by unfold PowOk; infer_instance
def gAddS : D → D → Option D := fun a b => match a, b with
  | .str x, .str y => if x.length + y.length ≤ 16777216 then some (.str (x ++ y)) else none
  | _, _ => none
def gAddL : D → D → Option D := fun a b => match a, b with
  | .lst _ xs, .lst _ ys => if D.frzL xs = true ∧ D.frzL ys = true ∧ xs.length + ys.length ≤ 16777216 then some (.lst true (xs ++ ys)) else none
  | _, _ => none
def gAddT : D → D → Option D := fun a b => match a, b with
  | .tup xs, .tup ys => if D.frzL xs = true ∧ D.frzL ys = true ∧ xs ≠ [] ∧ xs.length + ys.length ≤ 16777216 then some (.tup (xs ++ ys)) else none
  | _, _ => none
def gAdd : D → D → Option D := fun a b => match a, b with
  | .int i, .int j => some (.int (i + j))
  | .str x, .str y => if x.length + y.length ≤ 16777216 then some (.str (x ++ y)) else none
  | .lst _ xs, .lst _ ys => if D.frzL xs = true ∧ D.frzL ys = true ∧ xs.length + ys.length ≤ 16777216 then some (.lst true (xs ++ ys)) else none
  | .tup xs, .tup ys => if D.frzL xs = true ∧ D.frzL ys = true ∧ xs.length + ys.length ≤ 16777216 then some (.tup (xs ++ ys)) else none
  | _, _ => none
def rAdd (K : Frg) : R2 := rOr (rI0 fun i j => .int (i + j)) (rOr (fun x y H Q => ∃ i j, x = .str i ∧ y = .str j ∧ i.length + j.length ≤ sizeLine ∧ Q (.str (i ++ j)) H) (rOr rCat (rCatA K)))
theorem frzL_app : ∀ {xs ys : List D}, D.frzL xs = true → D.frzL ys = true → D.frzL (xs ++ ys) = true
  | [], _, _, h => h
  | d :: ds, ys, h, h' => by
    have z : (d.frz && D.frzL ds) = true := h
    rw [Bool.and_eq_true] at z
    show (d.frz && D.frzL (ds ++ ys)) = true
    rw [z.1, frzL_app z.2 h']; rfl
theorem prs_app {xs ys : List V} {ds es : List D} (h : xs.length = ds.length) : prs (xs ++ ys) (ds ++ es) = prs xs ds ++ prs ys es := by
  show ((xs ++ ys).map some).zip (ds ++ es) = _
  rw [List.map_append, List.zip_append (by simp [h])]
  rfl
section
variable {X : Cx}
theorem op_addA : OpR X (binaryOp .Add) (rAdd X.K) := OpR.or op_add (OpR.or op_add_str (OpR.or op_cat op_catA))
theorem o2_add {K : Frg} : Op2 K (rAdd K) gAdd := by
  intro x y H dx dy l Q d hi mx my hg q
  unfold gAdd at hg
  split at hg
  · rename_i i j
    cases hg
    exact .inl ⟨i, j, hi.view mx, hi.view my, q _ H (hi.add rfl fun _ _ => rfl)⟩
  · rename_i a b
    split at hg
    · rename_i c
      cases hg
      exact .inr (.inl ⟨a, b, hi.view mx, hi.view my, by rw [sizeLine_eq]; exact c, q _ H (hi.add rfl fun _ _ => rfl)⟩)
    · cases hg
  · rename_i _ xs _ ys
    split at hg
    · rename_i c
      cases hg
      obtain ⟨a, us, rfl, ha, la, i1⟩ := hi.listAll mx c.1
      obtain ⟨b, ws, rfl, hb, lb, i2⟩ := i1.listAll (List.mem_append_right _ my) c.2.1
      refine .inr (.inr (.inl ⟨a, b, us, ws, rfl, rfl, ha, hb, by rw [sizeLine_eq, la, lb]; exact c.2.2, fun p np => q _ _ (Items.new np (by simp [la, lb]) ?_ (fun b hb => by cases hb))⟩))
      rw [prs_app la, List.append_assoc]
      exact i2.perm perm_mid
    · cases hg
  · rename_i xs ys
    split at hg
    · rename_i c
      cases hg
      obtain ⟨a, us, rfl, ha, la, i1⟩ := hi.tupleAll mx c.1
      obtain ⟨b, ws, rfl, hb, lb, i2⟩ := i1.tupleAll (List.mem_append_right _ my) c.2.1
      refine .inr (.inr (.inr ⟨a, b, us, ws, rfl, rfl, ha, hb, by rw [sizeLine_eq, la, lb]; exact c.2.2, fun e => ?_, fun _ e => ?_, fun _ _ p np => q _ _ (Items.newT np (by simp [la, lb]) ?_)⟩))
      · subst e
        have : xs = [] := by
          cases xs with
          | nil => rfl
          | cons _ _ => simp at la
        subst this
        exact q _ H (hi.dup my c.2.1)
      · subst e
        have : ys = [] := by
          cases ys with
          | nil => rfl
          | cons _ _ => simp at lb
        subst this
        rw [List.append_nil] at q
        exact q _ H (hi.dup mx c.1)
      · rw [prs_app la, List.append_assoc]
        exact i2.perm perm_mid
    · cases hg
  · cases hg
def gSubt : D → D → Option D := gI0 fun i j => .int (i - j)
theorem o2_sub {K : Frg} : Op2 K (rI0 fun i j => .int (i - j)) gSubt := Op2.int0 fun _ _ => ⟨rfl, fun _ => rfl⟩
def gMul : D → D → Option D := gI MulOk fun i j => .int (i * j)
def rMul : R2 := rOr (rI CMul fun i j => .int (i * j)) (rI CMulW fun i j => .int (i * j))
theorem op_mulA : OpR X (binaryOp .Mult) rMul := OpR.or op_mul op_mulW
theorem o2_mul {K : Frg} : Op2 K rMul gMul := by
  intro x y H dx dy l Q d hi mx my hg q
  unfold gMul gI at hg
  split at hg
  · rename_i i j
    split at hg
    · rename_i c
      cases hg
      have fin := q (.int (i * j)) H (hi.add rfl fun _ _ => rfl)
      rcases c with c | c | c
      · exact .inl ⟨i, j, hi.view mx, hi.view my, .inl (by omega), fin⟩
      · exact .inl ⟨i, j, hi.view mx, hi.view my, .inr (by omega), fin⟩
      · exact .inr ⟨i, j, hi.view mx, hi.view my, wide_mul c.1 c.2 (by decide) (by decide) (by decide), fin⟩
    · cases hg
  · cases hg
def gDiv : D → D → Option D := fun a b => match a, b with
  | .int i, .int j => if DivOk j then some (.int (i / j)) else if DivNo j then some (.int (i.fdiv j)) else none
  | _, _ => none
def CDivX (_ j : Int) : Prop := j ≠ 0 ∧ j.natAbs.log2 < 9000
theorem op_fdivX : OpR X (binaryOp .FloorDiv) (rI CDivX fun i j => .int (i.fdiv j)) := opI fun i j _ _ _ _ _ hc q => PyProof.Rows.floordiv_int hc.1 q (.inl (PyProof.noPylong_of_log2 hc.2))
theorem o2_div {K : Frg} : Op2 K (rI CDivX fun i j => .int (i.fdiv j)) gDiv := by
  intro x y H dx dy l Q d hi mx my hg q
  unfold gDiv at hg
  split at hg
  · rename_i i j
    split at hg
    · rename_i c
      cases hg
      refine ⟨i, j, hi.view mx, hi.view my, ⟨by have := c.1; omega, Nat.lt_of_lt_of_le (PySem.Flt.log2_lt_of (by decide) c.2) (by decide)⟩, ?_⟩
      show Q (.int (i.fdiv j)) H
      rw [Int.fdiv_eq_ediv_of_nonneg i (show 0 ≤ j by have := c.1; omega)]
      exact q _ H (hi.add rfl fun _ _ => rfl)
    · split at hg
      · rename_i c
        cases hg
        exact ⟨i, j, hi.view mx, hi.view my, ⟨by have := c.1; omega, Nat.lt_of_lt_of_le (PySem.Flt.log2_lt_of (by decide) c.2) (by decide)⟩, q _ H (hi.add rfl fun _ _ => rfl)⟩
      · cases hg
  · cases hg
def gMod : D → D → Option D := gI (fun _ j => 0 < j) fun i j => .int (i % j)
theorem o2_mod {K : Frg} : Op2 K (rI (fun _ j => 0 < j) fun i j => .int (i % j)) gMod := Op2.int (fun _ _ h => h) fun _ _ _ => ⟨rfl, fun _ => rfl⟩
def gPow : D → D → Option D := gI PowOk fun i j => .int (i ^ j.toNat)
theorem o2_pow {K : Frg} : Op2 K (rI CPow fun i j => .int (i ^ j.toNat)) gPow := Op2.int (fun _ _ h => h) fun _ _ _ => ⟨rfl, fun _ => rfl⟩
def gShl : D → D → Option D := gI PowOk fun i j => .int (i * 2 ^ j.toNat)
theorem o2_shl {K : Frg} : Op2 K (rI CPow fun i j => .int (i * 2 ^ j.toNat)) gShl := Op2.int (fun _ _ h => h) fun _ _ _ => ⟨rfl, fun _ => rfl⟩
def gShr : D → D → Option D := gI (fun _ j => 0 ≤ j) fun i j => .int (i / 2 ^ j.toNat)
theorem o2_shr {K : Frg} : Op2 K (rI (fun _ j => 0 ≤ j) fun i j => .int (i / 2 ^ j.toNat)) gShr := Op2.int (fun _ _ h => h) fun _ _ _ => ⟨rfl, fun _ => rfl⟩
def gNeg : D → Option D := fun a => match a with
  | .int i => some (.int (-i))
  | _ => none
theorem o1_neg {K : Frg} : Op1 K (rU fun i => .int (-i)) gNeg := by
  intro x H dx l Q d hi mx hg q
  unfold gNeg at hg
  split at hg
  · cases hg
    exact ⟨_, hi.view mx, q _ H (hi.add rfl fun _ _ => rfl)⟩
  · cases hg
def gLt : D → D → Option D := gI0 fun i j => .bl (decide (i < j))
def gLe : D → D → Option D := gI0 fun i j => .bl (decide (i ≤ j))
def gGt : D → D → Option D := gI0 fun i j => .bl (decide (j < i))
def gGe : D → D → Option D := gI0 fun i j => .bl (decide (j ≤ i))
theorem o2_lt {K : Frg} : Op2 K (rI0 fun i j => .bl (decide (i < j))) gLt := Op2.int0 fun _ _ => ⟨rfl, fun _ => rfl⟩
theorem o2_le {K : Frg} : Op2 K (rI0 fun i j => .bl (decide (i ≤ j))) gLe := Op2.int0 fun _ _ => ⟨rfl, fun _ => rfl⟩
theorem o2_gt {K : Frg} : Op2 K (rI0 fun i j => .bl (decide (j < i))) gGt := Op2.int0 fun _ _ => ⟨rfl, fun _ => rfl⟩
theorem o2_ge {K : Frg} : Op2 K (rI0 fun i j => .bl (decide (j ≤ i))) gGe := Op2.int0 fun _ _ => ⟨rfl, fun _ => rfl⟩

/-! ### equal -/
mutual
def D.pd : D → PyData
  | .bl b => .bool b
  | .int i => .int i
  | .str x => .str x
  | .lst _ xs => .list (D.pdL xs)
  | .cst xs => .list (D.pdL xs)
  | .tup xs => .tuple (D.pdL xs)
  | .non => .none
  | .any => .none
  | .rng _ _ => .none
  | .ty _ => .none
def D.pdL : List D → List PyData
  | [] => []
  | d :: ds => D.pd d :: D.pdL ds
end
mutual
def D.dat : D → Bool
  | .bl _ => true
  | .int _ => true
  | .str _ => true
  | .lst _ xs => D.datL xs
  | .cst xs => D.datL xs
  | .tup xs => D.datL xs
  | .non => true
  | .any => false
  | .rng _ _ => false
  | .ty _ => false
def D.datL : List D → Bool
  | [] => true
  | d :: ds => D.dat d && D.datL ds
end
mutual
theorem Fz.dp {K : Frg} {H : Hp} : ∀ (d : D) (v : V), d.dat = true → Fz K H d v → Dp K H v d.pd
  | .bl b, _, _, h => by cases h; exact .bl b
  | .int i, _, _, h => by cases h; exact .int i
  | .str x, _, _, h => by cases h; exact .str x
  | .non, _, _, h => by cases h; exact .non
  | .lst _ xs, _, z, ⟨a, us, ev, hs, hl⟩ => by subst ev; exact .lst (SqL.of hs) (FzL.dp xs us z hl)
  | .cst xs, _, z, ⟨a, us, ev, hs, hl⟩ => by subst ev; exact .lst hs (FzL.dp xs us z hl)
  | .tup xs, _, z, ⟨a, us, ev, hs, hl⟩ => by subst ev; exact .tup hs (FzL.dp xs us z hl)
  | .any, _, z, _ => by cases z
  | .rng _ _, _, z, _ => by cases z
  | .ty _, _, z, _ => by cases z
theorem FzL.dp {K : Frg} {H : Hp} : ∀ (ds : List D) (vs : List V), D.datL ds = true → FzL K H ds vs → DpAll K H vs (D.pdL ds)
  | [], _, _, h => by cases h; exact .nil
  | d :: ds, _, z, ⟨x, r, ex, h1, h2⟩ => by
    have z' : (d.dat && D.datL ds) = true := z
    rw [Bool.and_eq_true] at z'
    subst ex
    exact .cons (Fz.dp d x z'.1 h1) (FzL.dp ds r z'.2 h2)
end
/-- two simple things -/
def sEq : D → D → Option Bool
  | .int i, .int j => some (decide (i = j))
  | .bl i, .bl j => some (decide (i = j))
  | .str i, .str j => some (decide (i = j))
  | .non, .non => some true
  | .non, .int _ => some false
  | .int _, .non => some false
  | .non, .str _ => some false
  | .str _, .non => some false
  | .non, .bl _ => some false
  | .bl _, .non => some false
  | .int _, .str _ => some false
  | .str _, .int _ => some false
  | _, _ => none
theorem sEq_ok {K : Frg} {H : Hp} {dx dy : D} {x y : V} {b : Bool} (h : sEq dx dy = some b) (hx : Fz K H dx x) (hy : Fz K H dy y) : scal x y = true ∧ decide (x = y) = b := by
  unfold sEq at h
  split at h <;> first | cases h | skip
  all_goals (cases hx; cases hy; refine ⟨rfl, ?_⟩)
  all_goals first | (rw [decide_eq_decide]; constructor <;> intro z <;> first | (cases z; rfl) | (rw [z])) | rfl
def gEq : D → D → Option D := fun a b => match sEq a b with
  | some c => some (.bl c)
  | none => if a.dat = true ∧ b.dat = true ∧ SeqAt.shaped a.pd = true ∧ SeqAt.shaped b.pd = true then some (.bl (PyData.eqv a.pd b.pd)) else none
def gNe : D → D → Option D := fun a b => match sEq a b with
  | some c => some (.bl (!c))
  | none => if a.dat = true ∧ b.dat = true ∧ SeqAt.shaped a.pd = true ∧ SeqAt.shaped b.pd = true then some (.bl (!PyData.eqv a.pd b.pd)) else none
theorem o2_eq {K : Frg} : Op2 K (rOr rEq (rEqD K)) gEq := by
  intro x y H dx dy l Q d hi mx my hg q
  unfold gEq at hg
  split at hg
  · rename_i c e
    cases hg
    obtain ⟨k1, k2⟩ := sEq_ok e (hi.view mx) (hi.view my)
    exact .inl ⟨k1, by rw [k2]; exact q _ H (hi.add rfl fun _ _ => rfl)⟩
  · split at hg
    · rename_i c
      cases hg
      exact .inr ⟨_, _, Fz.dp _ _ c.1 (hi.view mx), Fz.dp _ _ c.2.1 (hi.view my), c.2.2.1, c.2.2.2, q _ H (hi.add rfl fun _ _ => rfl)⟩
    · cases hg
theorem o2_ne {K : Frg} : Op2 K (rOr rNe (rNeD K)) gNe := by
  intro x y H dx dy l Q d hi mx my hg q
  unfold gNe at hg
  split at hg
  · rename_i c e
    cases hg
    obtain ⟨k1, k2⟩ := sEq_ok e (hi.view mx) (hi.view my)
    exact .inl ⟨k1, by rw [k2]; exact q _ H (hi.add rfl fun _ _ => rfl)⟩
  · split at hg
    · rename_i c
      cases hg
      exact .inr ⟨_, _, Fz.dp _ _ c.1 (hi.view mx), Fz.dp _ _ c.2.1 (hi.view my), c.2.2.1, c.2.2.2, q _ H (hi.add rfl fun _ _ => rfl)⟩
    · cases hg
theorem op_eqA (hu : X.A.units + 64 < cLine) : OpR X (compareOp .Eq) (rOr rEq (rEqD X.K)) := OpR.or op_eq (op_eqD hu)
theorem op_neA (hu : X.A.units + 64 < cLine) : OpR X (compareOp .NotEq) (rOr rNe (rNeD X.K)) := OpR.or op_ne (op_neD hu)
/-! ### is -/
def gIsB (neg : Bool) : D → D → Option D := fun a b => match b with
  | .non => match a with
    | .any => none
    | .non => some (.bl (!neg))
    | _ => some (.bl neg)
  | .bl c => match a with
    | .any => none
    | .bl e => some (.bl (if neg then !(decide (e = c)) else decide (e = c)))
    | _ => some (.bl neg)
  | _ => none
/-- is a bool, whatever the left one -/
def rIsX (neg : Bool) : R2 := fun x y H Q => ∃ c : Bool, y = .bl c ∧ Q (.bl (if neg then !(decide (x = .bl c)) else decide (x = .bl c))) H
theorem op_isX : OpR X (compareOp .Is) (rIsX false) := by
  intro pins s σ H x y v u Q I rx ry h
  obtain ⟨c, rfl, q⟩ := h
  cases (show u = Value.bool c from ry)
  have q' : Q (.bl (decide (x = .bl c))) H := q
  cases x with
  | bl e =>
    cases (show v = Value.bool e from rx)
    by_cases z : e = c
    · subst z
      exact wpAny_is_self rfl ⟨.bl true, H, I, rfl, by simpa using q'⟩
    · exact wpAny_is_other rfl (fun w => z (Value.bool.inj w)) ⟨.bl false, H, I, rfl, by simpa [z] using q'⟩
  | non => cases (show v = Value.none from rx); exact wpAny_is_other rfl (fun w => nomatch w) ⟨.bl false, H, I, rfl, by simpa using q'⟩
  | int i => obtain ⟨t, rfl⟩ := rx; exact wpAny_is_other rfl (fun w => nomatch w) ⟨.bl false, H, I, rfl, by simpa using q'⟩
  | str i => obtain ⟨t, rfl⟩ := rx; exact wpAny_is_other rfl (fun w => nomatch w) ⟨.bl false, H, I, rfl, by simpa using q'⟩
  | byt i => obtain ⟨t, rfl⟩ := rx; exact wpAny_is_other rfl (fun w => nomatch w) ⟨.bl false, H, I, rfl, by simpa using q'⟩
  | flt i => obtain ⟨t, rfl⟩ := rx; exact wpAny_is_other rfl (fun w => nomatch w) ⟨.bl false, H, I, rfl, by simpa using q'⟩
  | ref a => cases (show v = Value.ref a from rx); exact wpAny_is_other rfl (fun w => nomatch w) ⟨.bl false, H, I, rfl, by simpa using q'⟩
  | ty n => cases (show v = Value.type n from rx); exact wpAny_is_other rfl (fun w => nomatch w) ⟨.bl false, H, I, rfl, by simpa using q'⟩
theorem op_isNotX : OpR X (compareOp .IsNot) (rIsX true) := by
  intro pins s σ H x y v u Q I rx ry h
  obtain ⟨c, rfl, q⟩ := h
  cases (show u = Value.bool c from ry)
  have q' : Q (.bl (!(decide (x = .bl c)))) H := q
  cases x with
  | bl e =>
    cases (show v = Value.bool e from rx)
    by_cases z : e = c
    · subst z
      exact wpAny_isNot_self rfl ⟨.bl false, H, I, rfl, by simpa using q'⟩
    · exact wpAny_isNot_other rfl (fun w => z (Value.bool.inj w)) ⟨.bl true, H, I, rfl, by simpa [z] using q'⟩
  | non => cases (show v = Value.none from rx); exact wpAny_isNot_other rfl (fun w => nomatch w) ⟨.bl true, H, I, rfl, by simpa using q'⟩
  | int i => obtain ⟨t, rfl⟩ := rx; exact wpAny_isNot_other rfl (fun w => nomatch w) ⟨.bl true, H, I, rfl, by simpa using q'⟩
  | str i => obtain ⟨t, rfl⟩ := rx; exact wpAny_isNot_other rfl (fun w => nomatch w) ⟨.bl true, H, I, rfl, by simpa using q'⟩
  | byt i => obtain ⟨t, rfl⟩ := rx; exact wpAny_isNot_other rfl (fun w => nomatch w) ⟨.bl true, H, I, rfl, by simpa using q'⟩
  | flt i => obtain ⟨t, rfl⟩ := rx; exact wpAny_isNot_other rfl (fun w => nomatch w) ⟨.bl true, H, I, rfl, by simpa using q'⟩
  | ref a => cases (show v = Value.ref a from rx); exact wpAny_isNot_other rfl (fun w => nomatch w) ⟨.bl true, H, I, rfl, by simpa using q'⟩
  | ty n => cases (show v = Value.type n from rx); exact wpAny_isNot_other rfl (fun w => nomatch w) ⟨.bl true, H, I, rfl, by simpa using q'⟩
theorem not_bl {K : Frg} {H : Hp} {d : D} {v : V} {c : Bool} (h : Fz K H d v) (h1 : d ≠ .any) (h2 : ∀ e, d ≠ .bl e) : decide (v = .bl c) = false := by
  apply decide_eq_false
  rintro rfl
  cases d with
  | any => exact h1 rfl
  | bl e => exact h2 e rfl
  | non => cases h
  | int _ => cases h
  | str _ => cases h
  | ty _ => cases h
  | lst _ _ => obtain ⟨a, xs, e, _⟩ := h; cases e
  | tup _ => obtain ⟨a, xs, e, _⟩ := h; cases e
  | cst _ => obtain ⟨a, xs, e, _⟩ := h; cases e
  | rng _ _ => obtain ⟨a, e, _⟩ := h; cases e
def rIs : R2 := rOr (fun x y H Q => y = .non ∧ Q (.bl (decide (x = .non))) H) (rIsX false)
def rIsNot : R2 := rOr (fun x y H Q => y = .non ∧ Q (.bl (!decide (x = .non))) H) (rIsX true)
theorem op_isA : OpR X (compareOp .Is) rIs := OpR.or op_isN op_isX
theorem op_isNotA : OpR X (compareOp .IsNot) rIsNot := OpR.or op_notN op_isNotX
theorem not_non {K : Frg} {H : Hp} {d : D} {v : V} (h : Fz K H d v) (h1 : d ≠ .any) (h2 : d ≠ .non) : decide (v = .non) = false := by
  apply decide_eq_false
  rintro rfl
  cases d with
  | any => exact h1 rfl
  | non => exact h2 rfl
  | bl _ => cases h
  | int _ => cases h
  | str _ => cases h
  | ty _ => cases h
  | lst _ _ => obtain ⟨a, xs, e, _⟩ := h; cases e
  | tup _ => obtain ⟨a, xs, e, _⟩ := h; cases e
  | cst _ => obtain ⟨a, xs, e, _⟩ := h; cases e
  | rng _ _ => obtain ⟨a, e, _⟩ := h; cases e
theorem o2_is {K : Frg} : Op2 K rIs (gIsB false) := by
  intro x y H dx dy l Q d hi mx my hg q
  unfold gIsB at hg
  split at hg
  · have hy : y = .non := hi.view my
    refine .inl ⟨hy, ?_⟩
    split at hg
    · cases hg
    · have hx : x = .non := hi.view mx
      cases hg
      rw [hx, decide_eq_true rfl]
      exact q _ H (hi.add rfl fun _ _ => rfl)
    · rename_i h1 h2
      cases hg
      rw [not_non (hi.view mx) h1 h2]
      exact q _ H (hi.add rfl fun _ _ => rfl)
  · rename_i c
    have hy : y = .bl c := hi.view my
    split at hg
    · cases hg
    · rename_i e
      have hx : x = .bl e := hi.view mx
      cases hg
      refine .inr ⟨c, hy, ?_⟩
      have : decide (x = .bl c) = decide (e = c) := by
        rw [hx]
        by_cases z : e = c
        · subst z; simp
        · simp [z]
      rw [this]
      exact q _ H (hi.add rfl fun _ _ => rfl)
    · rename_i h1 h2
      cases hg
      refine .inr ⟨c, hy, ?_⟩
      rw [not_bl (hi.view mx) h1 h2]
      exact q _ H (hi.add rfl fun _ _ => rfl)
  · cases hg
theorem o2_isNot {K : Frg} : Op2 K rIsNot (gIsB true) := by
  intro x y H dx dy l Q d hi mx my hg q
  unfold gIsB at hg
  split at hg
  · have hy : y = .non := hi.view my
    refine .inl ⟨hy, ?_⟩
    split at hg
    · cases hg
    · have hx : x = .non := hi.view mx
      cases hg
      rw [hx, decide_eq_true rfl]
      exact q _ H (hi.add rfl fun _ _ => rfl)
    · rename_i h1 h2
      cases hg
      rw [not_non (hi.view mx) h1 h2]
      exact q _ H (hi.add rfl fun _ _ => rfl)
  · rename_i c
    have hy : y = .bl c := hi.view my
    split at hg
    · cases hg
    · rename_i e
      have hx : x = .bl e := hi.view mx
      cases hg
      refine .inr ⟨c, hy, ?_⟩
      have : decide (x = .bl c) = decide (e = c) := by
        rw [hx]
        by_cases z : e = c
        · subst z; simp
        · simp [z]
      rw [this]
      exact q _ H (hi.add rfl fun _ _ => rfl)
    · rename_i h1 h2
      cases hg
      refine .inr ⟨c, hy, ?_⟩
      rw [not_bl (hi.view mx) h1 h2]
      exact q _ H (hi.add rfl fun _ _ => rfl)
  · cases hg

/-! ### items, lengths -/
def atF (xs : List D) (i : Int) : Option D := (atI xs i).bind fun d => if d.frz = true then some d else none
def gIdx : D → D → Option D := fun a b => match a, b with
  | .lst _ xs, .int i => atF xs i
  | .cst xs, .int i => atF xs i
  | .tup xs, .int i => atF xs i
  | .str z, .int i => if z.length ≤ 16777216 then (atI z.cps.toList i).map fun c => .str ⟨#[c]⟩ else none
  | _, _ => none
theorem atI_rel {xs : List V} {ds : List D} {i : Int} {d : D} (hl : xs.length = ds.length) (h : atI ds i = some d) : ∃ (j : Nat) (v : V), atI xs i = some v ∧ xs[j]? = some v ∧ ds[j]? = some d := by
  unfold atI at h ⊢
  rw [hl]
  cases e : ixN ds.length i with
  | none => rw [e] at h; cases h
  | some j =>
    rw [e] at h
    have h' : ds[j]? = some d := h
    have hj : j < xs.length := by rw [hl]; exact (List.getElem?_eq_some_iff.mp h').1
    exact ⟨j, xs[j], List.getElem?_eq_getElem hj, List.getElem?_eq_getElem hj, h'⟩
theorem o2_idx {K : Frg} : Op2 K (rIx K) gIdx := by
  intro x y H dx dy l Q d hi mx my hg q
  unfold gIdx at hg
  split at hg
  · rename_i b xs i
    obtain ⟨c, e1, e2⟩ := Option.bind_eq_some_iff.mp hg
    split at e2
    · rename_i z
      cases e2
      obtain ⟨a, us, rfl, hs, hl, _, hd⟩ := hi.list mx
      obtain ⟨j, v, k1, k2, k3⟩ := atI_rel hl e1
      exact .inl ⟨a, us, i, v, rfl, hi.view my, SqL.of hs, k1, q v H (hd j _ v k3 k2 z)⟩
    · cases e2
  · rename_i xs i
    obtain ⟨c, e1, e2⟩ := Option.bind_eq_some_iff.mp hg
    split at e2
    · rename_i z
      cases e2
      obtain ⟨a, us, rfl, hs, hl, _, hd⟩ := hi.const mx
      obtain ⟨j, v, k1, k2, k3⟩ := atI_rel hl e1
      exact .inl ⟨a, us, i, v, rfl, hi.view my, hs, k1, q v H (hd j _ v k3 k2 z)⟩
    · cases e2
  · rename_i xs i
    obtain ⟨c, e1, e2⟩ := Option.bind_eq_some_iff.mp hg
    split at e2
    · rename_i z
      cases e2
      obtain ⟨a, us, rfl, hs, hl, _, hd⟩ := hi.tuple mx
      obtain ⟨j, v, k1, k2, k3⟩ := atI_rel hl e1
      exact .inr (.inl ⟨a, us, i, v, rfl, hi.view my, hs, k1, q v H (hd j _ v k3 k2 z)⟩)
    · cases e2
  · rename_i z i
    split at hg
    · rename_i hz
      obtain ⟨c, e1, e2⟩ := Option.map_eq_some_iff.mp hg
      subst e2
      exact .inr (.inr ⟨z, i, c, hi.view mx, hi.view my, by rw [sizeLine_eq]; exact hz, e1, q _ H (hi.add rfl fun _ _ => rfl)⟩)
    · cases hg
  · cases hg
def gLen : List D → Option D := fun ds => match ds with
  | [.lst _ xs] => some (.int xs.length)
  | [.cst xs] => some (.int xs.length)
  | [.tup xs] => some (.int xs.length)
  | [.str z] => if z.length ≤ 16777216 then some (.int z.length) else none
  | _ => none
theorem one_of {K : Frg} {l : List Itm} {xs : List V} {d : D} (h : Paired (fun x dx => (some x, dx) ∈ l) xs [d]) : ∃ x, xs = [x] ∧ (some x, d) ∈ l := by
  cases h with
  | cons h r =>
    cases r
    exact ⟨_, rfl, h⟩
theorem two_of {K : Frg} {l : List Itm} {xs : List V} {d e : D} (h : Paired (fun x dx => (some x, dx) ∈ l) xs [d, e]) : ∃ x y, xs = [x, y] ∧ (some x, d) ∈ l ∧ (some y, e) ∈ l := by
  cases h with
  | cons h r =>
    cases r with
    | cons h' r =>
      cases r
      exact ⟨_, _, rfl, h, h'⟩
theorem on_len {K : Frg} : OpN K (fun xs H Q => ∃ x n, xs = [x] ∧ LenV K x H n ∧ Q (.int n) H) gLen := by
  intro xs H ds l Q d hi hm hg q
  unfold gLen at hg
  split at hg
  · obtain ⟨x, rfl, m⟩ := one_of (K := K) hm
    obtain ⟨a, us, rfl, hs, hl, _⟩ := hi.list m
    cases hg
    exact ⟨_, us.length, rfl, .inl ⟨us, SqL.of hs, rfl⟩, by rw [hl]; exact q _ H (hi.add rfl fun _ _ => rfl)⟩
  · obtain ⟨x, rfl, m⟩ := one_of (K := K) hm
    obtain ⟨a, us, rfl, hs, hl, _⟩ := hi.const m
    cases hg
    exact ⟨_, us.length, rfl, .inl ⟨us, hs, rfl⟩, by rw [hl]; exact q _ H (hi.add rfl fun _ _ => rfl)⟩
  · obtain ⟨x, rfl, m⟩ := one_of (K := K) hm
    obtain ⟨a, us, rfl, hs, hl, _⟩ := hi.tuple m
    cases hg
    exact ⟨_, us.length, rfl, .inr ⟨us, hs, rfl⟩, by rw [hl]; exact q _ H (hi.add rfl fun _ _ => rfl)⟩
  · rename_i z
    obtain ⟨x, rfl, m⟩ := one_of (K := K) hm
    have hx : x = .str z := hi.view m
    subst hx
    split at hg
    · rename_i hz
      cases hg
      exact ⟨_, z.length, rfl, ⟨by rw [sizeLine_eq]; exact hz, rfl⟩, q _ H (hi.add rfl fun _ _ => rfl)⟩
    · cases hg
  · cases hg
/-! ### builtins on ints -/
def gInt : List D → Option D := fun ds => match ds with
  | [.int i] => some (.int i)
  | [.bl b] => some (.int (if b then 1 else 0))
  | [.str a] => (PySem.intText? a).bind fun n => if a.length ≤ 640 then some (.int n) else none
  | _ => none
def rInt : List V → Hp → VK → Prop := fun xs H Q => ((∃ i, xs = [.int i] ∧ Q (.int i) H) ∨ ∃ k, xs = [.bl k] ∧ Q (.int (if k then 1 else 0)) H) ∨ ∃ a n, xs = [.str a] ∧ PySem.intText? a = some n ∧ a.length ≤ 640 ∧ Q (.int n) H
theorem call_intA : CallR X (.type "int") rInt := by
  intro pins s σ H xs us Q I r h
  rcases h with h | h
  · exact call_int1 pins s σ H xs us Q I r h
  · exact call_int_str pins s σ H xs us Q I r h
theorem on_int {K : Frg} : OpN K rInt gInt := by
  intro xs H ds l Q d hi hm hg q
  unfold gInt at hg
  split at hg
  · obtain ⟨x, rfl, m⟩ := one_of (K := K) hm
    cases hg
    exact .inl (.inl ⟨_, by rw [show x = _ from hi.view m], q _ H (hi.add rfl fun _ _ => rfl)⟩)
  · obtain ⟨x, rfl, m⟩ := one_of (K := K) hm
    cases hg
    exact .inl (.inr ⟨_, by rw [show x = _ from hi.view m], q _ H (hi.add rfl fun _ _ => rfl)⟩)
  · obtain ⟨x, rfl, m⟩ := one_of (K := K) hm
    obtain ⟨n, e, hg⟩ := Option.bind_eq_some_iff.mp hg
    split at hg
    · rename_i c
      cases hg
      exact .inr ⟨_, n, by rw [show x = _ from hi.view m], e, c, q _ H (hi.add rfl fun _ _ => rfl)⟩
    · cases hg
  · cases hg
def gAbs : List D → Option D := fun ds => match ds with
  | [.int i] => some (.int (if i < 0 then -i else i))
  | _ => none
theorem on_abs {K : Frg} : OpN K (fun xs H Q => ∃ i, xs = [.int i] ∧ Q (.int (if i < 0 then -i else i)) H) gAbs := by
  intro xs H ds l Q d hi hm hg q
  unfold gAbs at hg
  split at hg
  · obtain ⟨x, rfl, m⟩ := one_of (K := K) hm
    cases hg
    exact ⟨_, by rw [show x = _ from hi.view m], q _ H (hi.add rfl fun _ _ => rfl)⟩
  · cases hg
def gInt2 (f : Int → Int → Int) : List D → Option D := fun ds => match ds with
  | [.int i, .int j] => some (.int (f i j))
  | _ => none
theorem on_int2 {K : Frg} {f : Int → Int → Int} : OpN K (fun xs H Q => ∃ i j, xs = [.int i, .int j] ∧ Q (.int (f i j)) H) (gInt2 f) := by
  intro xs H ds l Q d hi hm hg q
  unfold gInt2 at hg
  split at hg
  · obtain ⟨x, y, rfl, m1, m2⟩ := two_of (K := K) hm
    cases hg
    exact ⟨_, _, by rw [show x = _ from hi.view m1, show y = _ from hi.view m2], q _ H (hi.add rfl fun _ _ => rfl)⟩
  · cases hg
def gMax2 : List D → Option D := gInt2 fun i j => if j > i then j else i
def gMin2 : List D → Option D := gInt2 fun i j => if j < i then j else i
def gGcd : List D → Option D := gInt2 fun a b => ((Nat.gcd a.natAbs b.natAbs : Nat) : Int)
theorem on_gcd {K : Frg} : OpN K rGcd gGcd := on_int2
def ints? : List D → Option (List Int)
  | [] => some []
  | .int i :: ds => (ints? ds).map fun r => i :: r
  | _ => none
theorem ints_ok {K : Frg} {H : Hp} : ∀ {ds : List D} {xs : List V} {ns : List Int}, ints? ds = some ns → FzL K H ds xs → xs = ns.map V.int
  | [], _, _, h, hl => by cases h; cases hl; rfl
  | .int i :: ds, _, _, h, ⟨x, r, ex, h1, h2⟩ => by
    obtain ⟨r', e1, e2⟩ := Option.map_eq_some_iff.mp h
    subst e2 ex
    rw [show x = .int i from h1, ints_ok e1 h2]
    rfl
  | .any :: _, _, _, h, _ => by cases h
  | .non :: _, _, _, h, _ => by cases h
  | .bl _ :: _, _, _, h, _ => by cases h
  | .str _ :: _, _, _, h, _ => by cases h
  | .lst _ _ :: _, _, _, h, _ => by cases h
  | .tup _ :: _, _, _, h, _ => by cases h
  | .cst _ :: _, _, _, h, _ => by cases h
  | .rng _ _ :: _, _, _, h, _ => by cases h
  | .ty _ :: _, _, _, h, _ => by cases h
def gSum : List D → Option D := fun ds => match ds with
  | [.lst _ xs] => (ints? xs).map fun ns => .int ns.sum
  | _ => none
theorem on_sum {K : Frg} : OpN K (rSum K) gSum := by
  intro xs H ds l Q d hi hm hg q
  unfold gSum at hg
  split at hg
  · obtain ⟨x, rfl, m⟩ := one_of (K := K) hm
    obtain ⟨ns, e, rfl⟩ := Option.map_eq_some_iff.mp hg
    obtain ⟨a, us, rfl, hs, hl, hz, _⟩ := hi.list m
    have := ints_ok e hz
    subst this
    exact ⟨a, ns, rfl, SqL.of hs, q _ H (hi.add rfl fun _ _ => rfl)⟩
  · cases hg
/-- the greatest, the least of some ints -/
def topI (ns : List Int) : Option Int := ns.max?
def botI (ns : List Int) : Option Int := ns.min?
def gMaxL : List D → Option D := fun ds => match ds with
  | [.lst _ xs] => (ints? xs).bind fun ns => ns.max?.map D.int
  | _ => none
def gMinL : List D → Option D := fun ds => match ds with
  | [.lst _ xs] => (ints? xs).bind fun ns => ns.min?.map D.int
  | _ => none
theorem on_maxL {K : Frg} : OpN K (rMax K) gMaxL := by
  intro xs H ds l Q d hi hm hg q
  unfold gMaxL at hg
  split at hg
  · obtain ⟨x, rfl, m⟩ := one_of (K := K) hm
    obtain ⟨ns, e, hg⟩ := Option.bind_eq_some_iff.mp hg
    obtain ⟨z, e2, rfl⟩ := Option.map_eq_some_iff.mp hg
    obtain ⟨a, us, rfl, hs, hl, hz, _⟩ := hi.list m
    have := ints_ok e hz
    subst this
    obtain ⟨z1, z2⟩ := List.max?_eq_some_iff.mp e2
    refine ⟨a, ns, rfl, SqL.of hs, List.length_pos_of_mem z1, fun y hy hle => ?_⟩
    have : y = z := Int.le_antisymm (z2 y hy) (hle z z1)
    rw [this]
    exact q _ H (hi.add rfl fun _ _ => rfl)
  · cases hg
theorem on_minL {K : Frg} : OpN K (rMin K) gMinL := by
  intro xs H ds l Q d hi hm hg q
  unfold gMinL at hg
  split at hg
  · obtain ⟨x, rfl, m⟩ := one_of (K := K) hm
    obtain ⟨ns, e, hg⟩ := Option.bind_eq_some_iff.mp hg
    obtain ⟨z, e2, rfl⟩ := Option.map_eq_some_iff.mp hg
    obtain ⟨a, us, rfl, hs, hl, hz, _⟩ := hi.list m
    have := ints_ok e hz
    subst this
    obtain ⟨z1, z2⟩ := List.min?_eq_some_iff.mp e2
    refine ⟨a, ns, rfl, SqL.of hs, List.length_pos_of_mem z1, fun y hy hle => ?_⟩
    have : y = z := Int.le_antisymm (hle z z1) (z2 y hy)
    rw [this]
    exact q _ H (hi.add rfl fun _ _ => rfl)
  · cases hg
/-! ### texts of numbers -/
def gStrI : List D → Option D := fun ds => match ds with
  | [.int i] => if i.natAbs < 2 ^ 1900 then some (.str (toString i)) else none
  | _ => none
theorem log_lt {i : Int} (h : i.natAbs < 2 ^ 1900) : i.natAbs.log2 < 1920 := Nat.lt_of_lt_of_le (PySem.Flt.log2_lt_of (by decide) h) (by decide)
theorem on_strI {K : Frg} : OpN K (fun xs H Q => ∃ i, xs = [.int i] ∧ i.natAbs.log2 < 1920 ∧ Q (.str (toString i)) H) gStrI := by
  intro xs H ds l Q d hi hm hg q
  unfold gStrI at hg
  split at hg
  · obtain ⟨x, rfl, m⟩ := one_of (K := K) hm
    split at hg
    · rename_i c
      cases hg
      exact ⟨_, by rw [show x = _ from hi.view m], log_lt c, q _ H (hi.add rfl fun _ _ => rfl)⟩
    · cases hg
  · cases hg
/-- repr of an int, of a text -/
def rRepr : List V → Hp → VK → Prop := fun xs H Q => (∃ i, xs = [.int i] ∧ i.natAbs.log2 < 1920 ∧ Q (.str (toString i)) H) ∨ ∃ z : Str, xs = [.str z] ∧ (reprText z).length ≤ sizeLine ∧ Q (.str (reprText z)) H
theorem call_repr : CallR X (.builtin "repr") rRepr := by
  intro pins s σ H xs us Q I r h
  rcases h with h | ⟨z, rfl, hz, q⟩
  · exact SkE.call_repr_int pins s σ H xs us Q I r h
  · cases r with
    | cons r rr =>
      cases rr
      obtain ⟨t, rfl⟩ := r
      exact PySem.P.repr_of_str ⟨.str _, H, I.tok _, ⟨_, rfl⟩, q⟩ hz
def gRepr : List D → Option D := fun ds => match ds with
  | [.int i] => if i.natAbs < 2 ^ 1900 then some (.str (toString i)) else none
  | [.str z] => if (reprText z).length ≤ 16777216 then some (.str (reprText z)) else none
  | _ => none
theorem on_repr {K : Frg} : OpN K rRepr gRepr := by
  intro xs H ds l Q d hi hm hg q
  unfold gRepr at hg
  split at hg
  · obtain ⟨x, rfl, m⟩ := one_of (K := K) hm
    split at hg
    · rename_i c
      cases hg
      exact .inl ⟨_, by rw [show x = _ from hi.view m], log_lt c, q _ H (hi.add rfl fun _ _ => rfl)⟩
    · cases hg
  · obtain ⟨x, rfl, m⟩ := one_of (K := K) hm
    split at hg
    · rename_i c
      cases hg
      exact .inr ⟨_, by rw [show x = _ from hi.view m], by rw [sizeLine_eq]; exact c, q _ H (hi.add rfl fun _ _ => rfl)⟩
    · cases hg
  · cases hg
/-! ### isinstance -/
def D.tyn : D → Option String
  | .non => some "NoneType"
  | .bl _ => some "bool"
  | .int _ => some "int"
  | .str _ => some "str"
  | .lst _ _ => some "list"
  | .tup _ => some "tuple"
  | _ => none
def isiT (a b : String) : Option Bool :=
  if b = "int" then (if a = "int" ∨ a = "bool" then some true else some false)
  else if b = "str" ∨ b = "bool" ∨ b = "list" ∨ b = "tuple" then some (decide (a = b))
  else none
def gIsi : List D → Option D := fun ds => match ds with
  | [a, .ty c] => a.tyn.bind fun t => (isiT t c).map D.bl
  | _ => none
theorem kit_all {K : Frg} : ∀ a ∈ ["NoneType", "bool", "int", "str", "list", "tuple"], ∀ b ∈ ["int", "str", "bool", "list", "tuple"], ∀ r, isiT a b = some r → PySem.W.kitOne K (.type a) (.type b) = some r := by
  intro a ha b hb r h
  apply kit_ty
  revert a b r
  decide +kernel
theorem tyn_in {d : D} {t : String} (h : d.tyn = some t) : t ∈ ["NoneType", "bool", "int", "str", "list", "tuple"] := by
  cases d <;> cases h <;> decide
theorem isi_in {a b : String} {r : Bool} (h : isiT a b = some r) : b ∈ ["int", "str", "bool", "list", "tuple"] := by
  unfold isiT at h
  split at h
  · rename_i e; subst e; decide
  · split at h
    · rename_i e
      rcases e with rfl | rfl | rfl | rfl <;> decide
    · cases h
theorem on_isi {K : Frg} : OpN K (rIsi K) gIsi := by
  intro xs H ds l Q d hi hm hg q
  unfold gIsi at hg
  split at hg
  · rename_i a c
    obtain ⟨x, y, rfl, m1, m2⟩ := two_of (K := K) hm
    obtain ⟨t, e1, hg⟩ := Option.bind_eq_some_iff.mp hg
    obtain ⟨b, e2, rfl⟩ := Option.map_eq_some_iff.mp hg
    have hy : y = .ty c := hi.view m2
    subst hy
    refine ⟨x, .ty c, .type t, .type c, b, rfl, .ty c, ?_, kit_all t (tyn_in e1) c (isi_in e2) b e2, q _ H (hi.add rfl fun _ _ => rfl)⟩
    have hx := hi.view m1
    cases a with
    | non => cases e1; cases hx; exact .base .non
    | bl _ => cases e1; cases hx; exact .base (.bl _)
    | int _ => cases e1; cases hx; exact .base (.int _)
    | str _ => cases e1; cases hx; exact .base (.str _)
    | lst _ _ =>
      cases e1
      obtain ⟨p, us, rfl, hs, _⟩ := hx
      exact .base (.lst hs)
    | tup _ =>
      cases e1
      obtain ⟨p, us, rfl, hs, _⟩ := hx
      rcases hs with (hs | ⟨o, hs⟩) | ⟨o, its, n, hs, hc, _⟩
      · exact .base (.tup hs)
      · exact .fTuple hs
      · exact .kTuple hs hc
    | any => cases e1
    | cst _ => cases e1
    | rng _ _ => cases e1
    | ty _ => cases e1
  · cases hg
/-! ### list.append -/
def gApp : List D → List D → Option (D × List D) := fun xs ds => match ds with
  | [d] => if xs.length < 16777216 then some (.non, xs ++ [d]) else none
  | _ => none
theorem mo_app {K : Frg} : MutOp K rAppend gApp := by
  intro a vs H ds xs l Q d ys hlen hi hg q
  unfold gApp at hg
  split at hg
  · rename_i e
    split at hg
    · rename_i c
      cases hg
      match vs, hlen with
      | [v], _ =>
        obtain ⟨us, hs, hl, hop⟩ := hi.open
        refine ⟨a, us, v, rfl, rfl, hs, by rw [sizeLine_eq, hl]; exact c, q .non _ ?_⟩
        have hcl : Items K [a] H (prs (us ++ [v]) (xs ++ [e]) ++ l) := by
          rw [prs_app hl, List.append_assoc]
          exact hop
        exact (Items.close hs (by simp [hl]) hcl).add (d := .non) rfl fun _ _ => rfl
    · cases hg
  · cases hg
/-! ### a module's name for a built-in function; a type's name -/
theorem de_bf {x : Str} {id : String} {p pos : Pos} {e : Expr} {es : List Expr} {fa : Ev → Option (List Hd × Ev)} {r : List V → Hp → VK → Prop} {g : List D → Option D} (hc : CallR X (.builtin id) r) (hgo : OpN X.K r g) (hg : Gl X x) (hm : X.mg x = some (.builtin id)) (ha : DA X (e :: es) fa)
    (hdb : (x == ("__debug__" : Str)) = false := by decide) (he : starEach (e :: es) X.env = (false, eval e X.env) :: starEach es X.env := by rfl) (hpl : (backTo pos (starEach es X.env)).any (·.1) = false := by rfl) :
    DE X (.Call (.Name x p) (e :: es) [] pos) (eN g fa) := by
  obtain ⟨t, ht, k⟩ := callN hgo ha
  exact ⟨_, pe_callBfun hc hg hm ht hdb he hpl, k⟩
theorem de_tyn {x : Str} {T : String} {pos : Pos} (hg : Gl X x) (hm : X.mg x = none) (hv : bootBuiltins x = some (.type T)) (hn : x ≠ "__name__" := by decide) (hd : (x == ("__debug__" : Str)) = false := by decide) : DE X (.Name x pos) (eC (.ty T)) :=
  de_const (pe_bltn (v := .ty T) hg hm hv rfl hn hd) rfl fun _ => rfl
end
end Mv
end
section
set_option Elab.async false
set_option linter.all false
set_option maxRecDepth 100000
/-! More of what the operations make of data. -/
namespace Mv
open PySem PySem.Spec PyProof.Rows L2

theorem hu64 {A : Around} {k : Nat} (hr : Room k A) : A.units + 64 < cLine := by have := hr.un; omega
theorem hu65 {A : Around} {k : Nat} (hr : Room k A) : A.units + 65 < cLine := by have := hr.un; omega
theorem hsl_of {C : List Nat} {f : Ev → Option (D × Ev)} : ∀ ρ hd ρ', hE f ρ = some (hd, ρ') → hsl C hd := fun ρ hd ρ' h => by
  obtain ⟨p, _, e⟩ := Option.map_eq_some_iff.mp h
  cases e
  trivial
theorem hsl_var {C : List Nat} {i : Nat} (hi : i ∈ C) : ∀ ρ hd ρ', hV i ρ = some (hd, ρ') → hsl C hd := fun ρ hd ρ' h => by
  unfold hV at h
  split at h
  · cases h
  · cases h; exact hi
  · cases h
theorem blk_ok {N : List Str} {sc scope : Scope} {own : List (Str × Nat)} (h : blkC N sc scope own = true) : BlkOk N sc scope own := blkOk_by h

theorem FOk.void {P : Program} {w : World} {K : Frg} {mg : Str → Option Value} {base : Heap} {k : Nat} {x : Str} {st : Stmt} {f : Addr} {fd : FuncData} {ps : List Str} (F : Fun K x x st f fd) (hb : Binds K fd ps []) (hm : mg x = some (.ref f)) :
    FOk P w K mg base k x ps (fun _ => none) :=
  ⟨f, fd, hm, F.kp, hb, (by obtain ⟨oc, od, kV, doc, pm, an, cd', ct, osl, e, lk, _⟩ := F.ex; exact ⟨oc, od, osl, lk⟩), ⟨fun vs H Q E ⟨l, ds, r, bs, h1, _⟩ => h1, fun A outer s H args us vs Q E _ _ _ _ ⟨l, ds, r, bs, _, _, _, hf, _⟩ => nomatch hf⟩⟩
/-- what was owned is frozen -/
def eFz (f : Ev → Option (D × Ev)) : Ev → Option (D × Ev) := fun ρ => (f ρ).map fun p => (p.1.fz, p.2)
theorem de_fz {X : Cx} {e : Expr} {f : Ev → Option (D × Ev)} (h : DE X e f) : DE X e (eFz f) := by
  obtain ⟨t, ht, k⟩ := h.ex
  refine ⟨t, ht, fun σ H ρ l Q r ρ' hl hi hf q => ?_⟩
  obtain ⟨⟨d, ρ1⟩, e1, hf⟩ := Option.map_eq_some_iff.mp hf
  cases hf
  exact k σ H ρ l Q d ρ1 hl hi e1 fun v H1 l1 i1 => q v H1 l1 i1.freeze
section
variable {X : Cx}
/-! ### f-strings -/
def gFmt : D → Option D := fun d => match d with
  | .str y => if y.length ≤ 16777216 then some (.str y) else none
  | .int i => if i.natAbs < 2 ^ 1900 then some (.str (toString i)) else none
  | _ => none
theorem de_fmt {e : Expr} {pos : Pos} {f : Ev → Option (Hd × Ev)} (h : DH X e f) : DE X (.FormattedValue e (-1) none pos) (e1 gFmt f) := by
  obtain ⟨t, ht, k⟩ := h.ex
  refine ⟨_, pe_fmt ht, fun σ H ρ l Q d ρ' hl hi hf q => ?_⟩
  obtain ⟨⟨hd, ρ1⟩, e1, hf⟩ := Option.bind_eq_some_iff.mp hf
  obtain ⟨b, e2, hf⟩ := Option.map_eq_some_iff.mp hf
  obtain ⟨eb, eρ⟩ : b = d ∧ ρ1 = ρ' := by cases hf; exact ⟨rfl, rfl⟩
  subst eb eρ
  refine k σ H ρ l _ hd ρ1 hl hi e1 fun v H' hl' ha hi' => ?_
  have hz := hi'.view (mem_hd (X := X) (hl := by omega) ha hi')
  replace e2 : gFmt (hd.get ρ1) = some b := e2
  unfold gFmt at e2
  split at e2
  · rename_i y e
    rw [e] at hz
    cases hz
    split at e2
    · rename_i c
      cases e2
      exact .inl ⟨y, rfl, by rw [sizeLine_eq]; exact c, q _ H' hl' (hi'.drop.add (d := .str y) rfl fun _ _ => rfl)⟩
    · cases e2
  · rename_i i e
    rw [e] at hz
    cases hz
    split at e2
    · rename_i c
      cases e2
      exact .inr ⟨i, rfl, log_lt c, q _ H' hl' (hi'.drop.add (d := .str (toString i)) rfl fun _ _ => rfl)⟩
    · cases e2
  · cases e2
def eJ : List (Ev → Option (D × Ev)) → Str → Ev → Option (D × Ev)
  | [], acc, ρ => some (.str acc, ρ)
  | f :: fs, acc, ρ => (f ρ).bind fun p => match p.1 with
    | .str y => if (acc ++ y).length ≤ 16777216 then eJ fs (acc ++ y) p.2 else none
    | _ => none
structure DJ (X : Cx) (es : List Expr) (fs : List (Ev → Option (D × Ev))) : Prop where
  ex : ∃ ts, PJ X es ts ∧ ∀ (σ : Sl) (H : Hp) (ρ : Ev) (l : List Itm) (acc : Str) (Q : Str → Hp → Prop) (r : D) (ρ' : Ev), σ.length = ρ.length → Items X.K [] H (σ.zip ρ ++ l) → eJ fs acc ρ = some (r, ρ') →
    (∀ out H', r = .str out → ρ'.length = ρ.length → Items X.K [] H' (σ.zip ρ' ++ l) → Q out H') → tJs ts acc σ H Q
theorem dj_nil : DJ X [] [] := ⟨[], .nil, fun σ H ρ l acc Q r ρ' hl hi hf q => by cases hf; exact q acc H rfl rfl hi⟩
theorem dj_cons {e : Expr} {es : List Expr} {f : Ev → Option (D × Ev)} {fs : List (Ev → Option (D × Ev))} (h : DE X e f) (h' : DJ X es fs) : DJ X (e :: es) (f :: fs) := by
  obtain ⟨t, ht, k⟩ := h.ex
  obtain ⟨ts, hts, k'⟩ := h'.ex
  refine ⟨t :: ts, .cons ht hts, fun σ H ρ l acc Q r ρ' hl hi hf q => ?_⟩
  obtain ⟨⟨d, ρ1⟩, e1, hf⟩ := Option.bind_eq_some_iff.mp hf
  refine k σ H ρ l _ d ρ1 hl hi e1 fun v H1 l1 i1 => ?_
  cases d with
  | str y =>
    replace hf : (if (acc ++ y).length ≤ 16777216 then eJ fs (acc ++ y) ρ1 else none) = some (r, ρ') := hf
    split at hf
    · rename_i c
      have hv : v = .str y := i1.view (List.mem_cons_self)
      exact ⟨y, hv, by rw [sizeLine_eq]; exact c, k' σ H1 ρ1 l (acc ++ y) Q r ρ' (by omega) i1.tail hf fun out H2 eo l2 i2 => q out H2 eo (by omega) i2⟩
    · cases hf
  | _ => cases hf
theorem de_joined {v1 v2 : Expr} {rest : List Expr} {pos : Pos} {fs : List (Ev → Option (D × Ev))} (h : DJ X (v1 :: v2 :: rest) fs) : DE X (.JoinedStr (v1 :: v2 :: rest) pos) (eJ fs Str.empty) := by
  obtain ⟨ts, hts, k⟩ := h.ex
  refine ⟨_, pe_joined hts, fun σ H ρ l Q r ρ' hl hi hf q => ?_⟩
  refine k σ H ρ l Str.empty _ r ρ' hl hi hf fun out H' eo hl' hi' => ?_
  subst eo
  exact q _ H' hl' (hi'.add (d := .str out) rfl fun _ _ => rfl)
theorem de_joined1 {e : Expr} {pos : Pos} {f : Ev → Option (D × Ev)} (h : DE X e f) : DE X (.JoinedStr [e] pos) f := by
  obtain ⟨t, ht, k⟩ := h.ex
  exact ⟨_, pe_joined1 ht, k⟩
end
end Mv
end
section
set_option Elab.async false
set_option linter.all false
set_option maxRecDepth 100000
/-! list, tuple, any, all. -/
namespace Mv
open PySem PySem.Spec PyProof.Rows L2
def gList : List D → Option D := fun ds => match ds with
  | [.lst _ xs] => if D.frzL xs = true then some (.lst true xs) else none
  | [.tup xs] => if D.frzL xs = true then some (.lst true xs) else none
  | _ => none
theorem on_list {K : Frg} : OpN K (fun xs H Q => ∃ p ys, xs = [.ref p] ∧ (SqL K H p ys ∨ SqT K H p ys) ∧ ∀ l, H l = none → Q (.ref l) (upd H l (.lst ys))) gList := by
  intro xs H ds l Q d hi hm hg q
  unfold gList at hg
  split at hg
  · obtain ⟨x, rfl, m⟩ := one_of (K := K) hm
    split at hg
    · rename_i c
      cases hg
      obtain ⟨a, us, rfl, hs, hl, i1⟩ := hi.listAll m c
      exact ⟨a, us, rfl, .inl (SqL.of hs), fun p np => q _ _ (Items.new np hl i1 (fun b hb => by cases hb))⟩
    · cases hg
  · obtain ⟨x, rfl, m⟩ := one_of (K := K) hm
    split at hg
    · rename_i c
      cases hg
      obtain ⟨a, us, rfl, hs, hl, i1⟩ := hi.tupleAll m c
      exact ⟨a, us, rfl, .inr hs, fun p np => q _ _ (Items.new np hl i1 (fun b hb => by cases hb))⟩
    · cases hg
  · cases hg
def gTuple : List D → Option D := fun ds => match ds with
  | [.lst _ xs] => if D.frzL xs = true then some (.tup xs) else none
  | [.tup xs] => if D.frzL xs = true then some (.tup xs) else none
  | _ => none
theorem on_tuple {K : Frg} : OpN K (fun xs H Q => ∃ p ys, xs = [.ref p] ∧ ((SqL K H p ys ∧ ∀ l, H l = none → Q (.ref l) (upd H l (.tup ys))) ∨ (SqT K H p ys ∧ Q (.ref p) H))) gTuple := by
  intro xs H ds l Q d hi hm hg q
  unfold gTuple at hg
  split at hg
  · obtain ⟨x, rfl, m⟩ := one_of (K := K) hm
    split at hg
    · rename_i c
      cases hg
      obtain ⟨a, us, rfl, hs, hl, i1⟩ := hi.listAll m c
      exact ⟨a, us, rfl, .inl ⟨SqL.of hs, fun p np => q _ _ (Items.newT np hl i1)⟩⟩
    · cases hg
  · obtain ⟨x, rfl, m⟩ := one_of (K := K) hm
    split at hg
    · rename_i c
      cases hg
      obtain ⟨a, us, rfl, hs, hl, _⟩ := hi.tuple m
      exact ⟨a, us, rfl, .inr ⟨hs, q _ _ (hi.dup m c)⟩⟩
    · cases hg
  · cases hg
def bls? : List D → Option (List Bool)
  | [] => some []
  | .bl i :: ds => (bls? ds).map fun r => i :: r
  | _ => none
theorem bls_ok {K : Frg} {H : Hp} : ∀ {ds : List D} {xs : List V} {ns : List Bool}, bls? ds = some ns → FzL K H ds xs → xs = ns.map V.bl
  | [], _, _, h, hl => by cases h; cases hl; rfl
  | .bl i :: ds, _, _, h, ⟨x, r, ex, h1, h2⟩ => by
    obtain ⟨r', e1, e2⟩ := Option.map_eq_some_iff.mp h
    subst e2 ex
    rw [show x = .bl i from h1, bls_ok e1 h2]
    rfl
  | .any :: _, _, _, h, _ => by cases h
  | .non :: _, _, _, h, _ => by cases h
  | .int _ :: _, _, _, h, _ => by cases h
  | .str _ :: _, _, _, h, _ => by cases h
  | .lst _ _ :: _, _, _, h, _ => by cases h
  | .tup _ :: _, _, _, h, _ => by cases h
  | .cst _ :: _, _, _, h, _ => by cases h
  | .rng _ _ :: _, _, _, h, _ => by cases h
  | .ty _ :: _, _, _, h, _ => by cases h
def gAny : List D → Option D := fun ds => match ds with
  | [.lst _ xs] => (bls? xs).map fun bs => .bl (bs.any id)
  | _ => none
def gAll : List D → Option D := fun ds => match ds with
  | [.lst _ xs] => (bls? xs).map fun bs => .bl (bs.all id)
  | _ => none
theorem on_any {K : Frg} : OpN K (rAny K) gAny := by
  intro xs H ds l Q d hi hm hg q
  unfold gAny at hg
  split at hg
  · obtain ⟨x, rfl, m⟩ := one_of (K := K) hm
    obtain ⟨ns, e, rfl⟩ := Option.map_eq_some_iff.mp hg
    obtain ⟨a, us, rfl, hs, hl, hz, _⟩ := hi.list m
    have := bls_ok e hz
    subst this
    exact ⟨a, ns, rfl, SqL.of hs, q _ H (hi.add rfl fun _ _ => rfl)⟩
  · cases hg
theorem on_all {K : Frg} : OpN K (rAll K) gAll := by
  intro xs H ds l Q d hi hm hg q
  unfold gAll at hg
  split at hg
  · obtain ⟨x, rfl, m⟩ := one_of (K := K) hm
    obtain ⟨ns, e, rfl⟩ := Option.map_eq_some_iff.mp hg
    obtain ⟨a, us, rfl, hs, hl, hz, _⟩ := hi.list m
    have := bls_ok e hz
    subst this
    exact ⟨a, ns, rfl, SqL.of hs, q _ H (hi.add rfl fun _ _ => rfl)⟩
  · cases hg
/-! ### what the top has left -/
theorem fn_top {K : Frg} {h : Heap} {mg : Str → Option Value} {x : Str} {st : Stmt} {f : Addr} {ps : List Str} {od an : Option Addr} {sl : Array (Option Value)} {oc kV dc pm cd ct : Value} (X : K.In h) (G : h.Ns mainGlobals mg)
    (a : PySem.W.nsIn K mainGlobals x = some (some (.ref f))) (l : K.lookup f = some ⟨oc, od, .func (PySem.W.fnOf x x (defArgs st) (defBody st) (defScope st) .none kV dc pm an cd ct), sl⟩) (c : PySem.W.codeIn K cd x = true) (k : PySem.W.keepIn K (.ref f) = true)
    (hb : ∀ (kV doc pm : Value) (an : Option Addr) (cdv ct : Value) (us : List Value), us.length = ps.length → bindArgs (PySem.W.fnOf x x (defArgs st) (defBody st) (defScope st) .none kV doc pm an cdv ct) ⟨us, []⟩ = pure (ps.zip us)) :
    ∃ f fd, Fun K x x st f fd ∧ Binds K fd ps [] ∧ mg x = some (.ref f) := by
  have F := fun_mk (st := st) l c k
  exact ⟨f, _, F, F.binds hb, PySem.W.mg_of X G a⟩
/-- the law's own promise -/
def spL (K : Frg) : Sp := fun vs H Q _ => ∃ (a : Addr) (ns : List Int), vs = [.ref a] ∧ SqL K H a (ns.map V.int) ∧ ns.length ≤ 63 ∧ ∀ H', Q (.bl true) H'
theorem law_end {P : Program} {w : World} {K : Frg} {mg : Str → Option Value} {base : Heap} {k : Nat} {x y : Str} {F : List D → Option (D × List D)} (h : FOk P w K mg base k x [y] F) (hF : ∀ ns : List Int, ns.length ≤ 63 → ∃ bs, F [.cst (ns.map D.int)] = some (.bl true, bs)) {fa : Addr} (hfa : mg x = some (.ref fa)) {fd : FuncData} {oc : Value} {od : Option Addr} {osl : Array (Option Value)} (hk : K.lookup fa = some ⟨oc, od, .func fd, osl⟩) :
    FnOk P w K mg base CX0 k fa fd [y] (spL K) := by
  obtain ⟨f, fd', h1, h2, h3, ⟨oc', od', osl', h4⟩, h5⟩ := h.ex
  rw [hfa] at h1
  cases h1
  rw [hk] at h4
  cases h4
  refine h5.imp ?_
  rintro vs H Q E ⟨a, ns, rfl, hs, hn, q⟩
  obtain ⟨bs, e⟩ := hF ns hn
  have hfz : ∀ ns : List Int, FzL K H (ns.map D.int) (ns.map V.int) := fun ns => by
    induction ns with
    | nil => rfl
    | cons n r ih => exact ⟨_, _, rfl, rfl, ih⟩
  have hfr : ∀ ns : List Int, D.frzL (ns.map D.int) = true := fun ns => by
    induction ns with
    | nil => rfl
    | cons n r ih => exact ih
  refine ⟨[], [.cst (ns.map D.int)], .bl true, bs, rfl, rfl, ?_, e, fun v H' hb hi => ?_⟩
  · exact ⟨H, [], Same.refl H, ⟨[], [], ⟨⟨a, _, rfl, hs, hfz ns⟩, rfl⟩, rfl, rfl⟩, .nil, fun a ha => by cases ha⟩
  · have : v = .bl true := hi.view (List.mem_cons_self)
    rw [this]
    exact q H'
end Mv
end
section
set_option Elab.async false
set_option linter.all false
set_option maxRecDepth 100000
/-! Slices. -/
namespace Mv
open PySem PySem.Spec PyProof.Rows L2
def cutD (xs : List D) (lo hi : Option Int) : List D := (xs.drop (HT.sIx xs.length 0 lo)).take (HT.sIx xs.length xs.length hi - HT.sIx xs.length 0 lo)
/-- what a slice makes of data (of a tuple never the whole) -/
def gSl : D → Option Int → Option Int → Option D := fun d lo hi => match d with
  | .lst _ xs => if D.frzL xs = true then some (.lst true (cutD xs lo hi)) else none
  | .str z => if z.length ≤ 16777216 then some (.str (cutS z lo hi)) else none
  | .tup xs => if D.frzL xs = true ∧ ¬ (HT.sIx xs.length 0 lo = 0 ∧ HT.sIx xs.length xs.length hi = xs.length) then some (.tup (cutD xs lo hi)) else none
  | _ => none
def rSl (K : PySem.W.Frag) : V → Option Int → Option Int → Hp → VK → Prop := fun x lo hi H Q => (rSlL K x lo hi H Q ∨ rSlS x lo hi H Q) ∨ rSlT K x lo hi H Q
theorem sl_any {X : Cx} : SlR X (rSl X.K) := SlR.or (SlR.or sl_list sl_str) sl_tup
theorem prs_drop : ∀ (n : Nat) (us : List V) (ds : List D), prs (us.drop n) (ds.drop n) = (prs us ds).drop n
  | 0, _, _ => rfl
  | n + 1, [], ds => by unfold prs; simp
  | n + 1, u :: us, [] => by unfold prs; simp
  | n + 1, u :: us, d :: ds => by
    show prs (us.drop n) (ds.drop n) = (prs us ds).drop n
    exact prs_drop n us ds
theorem prs_take : ∀ (n : Nat) (us : List V) (ds : List D), prs (us.take n) (ds.take n) = (prs us ds).take n
  | 0, _, _ => by unfold prs; simp
  | n + 1, [], ds => by unfold prs; simp
  | n + 1, u :: us, [] => by unfold prs; simp
  | n + 1, u :: us, d :: ds => by
    show (some u, d) :: prs (us.take n) (ds.take n) = (some u, d) :: (prs us ds).take n
    rw [prs_take n us ds]
theorem Items.cut {K : Frg} {E : List Addr} {H : Hp} {us : List V} {ds : List D} {l : List Itm} {lo hi : Option Int} (hl : us.length = ds.length) (h : Items K E H (prs us ds ++ l)) : Items K E H (prs (cutV us lo hi) (cutD ds lo hi) ++ l) := by
  unfold cutV cutD
  rw [hl, prs_take, prs_drop]
  generalize HT.sIx ds.length 0 lo = a
  generalize HT.sIx ds.length ds.length hi - a = b
  refine h.sub ⟨(prs us ds).take a ++ ((prs us ds).drop a).drop b, ?_⟩
  have e : prs us ds = (prs us ds).take a ++ (((prs us ds).drop a).take b ++ ((prs us ds).drop a).drop b) := by rw [List.take_append_drop, List.take_append_drop]
  conv => lhs; rw [e]
  simp only [List.append_assoc]
  refine List.Perm.append_left _ ?_
  rw [← List.append_assoc, ← List.append_assoc]
  exact List.Perm.append_right l List.perm_append_comm
theorem cutV_len {us : List V} {ds : List D} {lo hi : Option Int} (hl : us.length = ds.length) : (cutV us lo hi).length = (cutD ds lo hi).length := by
  unfold cutV cutD
  rw [List.length_take, List.length_take, List.length_drop, List.length_drop, hl]
theorem o3_sl {K : Frg} {x : V} {H : Hp} {dx : D} {lo hi : Option Int} {l : List Itm} {Q : VK} {d : D} (hi' : Items K [] H l) (m : (some x, dx) ∈ l) (hg : gSl dx lo hi = some d)
    (q : ∀ v H', Items K [] H' ((some v, d) :: l) → Q v H') : rSl K x lo hi H Q := by
  unfold gSl at hg
  split at hg
  · split at hg
    · rename_i c
      cases hg
      obtain ⟨a, us, rfl, hs, hl, i1⟩ := hi'.listAll m c
      exact .inl (.inl ⟨a, us, rfl, SqL.of hs, fun p np => q _ _ (Items.new np (cutV_len hl) (Items.cut hl i1) (fun b hb => by cases hb))⟩)
    · cases hg
  · split at hg
    · rename_i c
      cases hg
      rename_i z
      exact .inl (.inr ⟨z, hi'.view m, by rw [sizeLine_eq]; exact c, q _ H (hi'.add rfl fun _ _ => rfl)⟩)
    · cases hg
  · split at hg
    · rename_i c
      cases hg
      obtain ⟨a, us, rfl, hs, hl, i1⟩ := hi'.tupleAll m c.1
      exact .inr ⟨a, us, rfl, hs, by rw [hl]; exact c.2, fun p np => q _ _ (Items.newT np (cutV_len hl) (Items.cut hl i1))⟩
    · cases hg
  · cases hg
section
variable {X : Cx}
/-- a slice's bound -/
structure DP (X : Cx) (e : Option Expr) (f : Ev → Option (Option Int × Ev)) : Prop where
  ex : ∃ t, PO X e t ∧ ∀ (σ : Sl) (H : Hp) (ρ : Ev) (l : List Itm) (Q : Option Int → Hp → Prop) (r : Option Int) (ρ' : Ev), σ.length = ρ.length → Items X.K [] H (σ.zip ρ ++ l) → f ρ = some (r, ρ') →
    (∀ H', ρ'.length = ρ.length → Items X.K [] H' (σ.zip ρ' ++ l) → Q r H') → t σ H Q
def pN : Ev → Option (Option Int × Ev) := fun ρ => some (none, ρ)
def pS (f : Ev → Option (Hd × Ev)) : Ev → Option (Option Int × Ev) := fun ρ => (f ρ).bind fun p => match p.1.get p.2 with
  | .int i => some (some i, p.2)
  | _ => none
theorem dp_none : DP X none pN := ⟨_, po_none, fun σ H ρ l Q r ρ' hl hi hf q => by cases hf; exact q H rfl hi⟩
theorem dp_some {e : Expr} {f : Ev → Option (Hd × Ev)} (h : DH X e f) : DP X (some e) (pS f) := by
  obtain ⟨t, pt, k⟩ := h.ex
  refine ⟨_, po_some pt, fun σ H ρ l Q r ρ' hl hi hf q => ?_⟩
  obtain ⟨⟨hd, ρ1⟩, e1, hf⟩ := Option.bind_eq_some_iff.mp hf
  refine k σ H ρ l _ hd ρ1 hl hi e1 fun v H' l1 a1 i1 => ?_
  have m := i1.view (mem_hd (X := X) (hl := by omega) a1 i1)
  replace hf : (match hd.get ρ1 with
    | .int i => some (some i, ρ1)
    | _ => none) = some (r, ρ') := hf
  split at hf
  · rename_i i e
    cases hf
    rw [e] at m
    exact ⟨i, m, q H' l1 i1.drop⟩
  · cases hf
def eSl (fe : Ev → Option (Hd × Ev)) (fl fh : Ev → Option (Option Int × Ev)) : Ev → Option (D × Ev) := fun ρ => (fe ρ).bind fun p => (fl p.2).bind fun q => (fh q.2).bind fun r => (gSl (p.1.get r.2) q.1 r.1).map fun d => (d, r.2)
theorem de_sl {e : Expr} {lo hi : Option Expr} {p2 pos : Pos} {fe : Ev → Option (Hd × Ev)} {fl fh : Ev → Option (Option Int × Ev)} (he : DH X e fe) (hlo : DP X lo fl) (hhi : DP X hi fh) : DE X (.Subscript e (.Slice lo hi none p2) pos) (eSl fe fl fh) := by
  obtain ⟨te, pe, ke⟩ := he.ex
  obtain ⟨tl, pl, kl⟩ := hlo.ex
  obtain ⟨th, ph, kh⟩ := hhi.ex
  refine ⟨_, pe_slice sl_any pe pl ph, fun σ H ρ l Q d ρ' hl hi hf q => ?_⟩
  obtain ⟨⟨hd, ρ1⟩, e1, hf⟩ := Option.bind_eq_some_iff.mp hf
  obtain ⟨⟨lo, ρ2⟩, e2, hf⟩ := Option.bind_eq_some_iff.mp hf
  obtain ⟨⟨hi2, ρ3⟩, e3, hf⟩ := Option.bind_eq_some_iff.mp hf
  obtain ⟨d', e4, hf⟩ := Option.map_eq_some_iff.mp hf
  cases hf
  refine ke σ H ρ l _ hd ρ1 hl hi e1 fun v H1 l1 a1 i1 => ?_
  have i1' : Items X.K [] H1 (σ.zip ρ1 ++ (hd.its v ++ l)) := i1.perm (by
    rw [← List.append_assoc, ← List.append_assoc]
    exact List.Perm.append_right l List.perm_append_comm)
  refine kl σ H1 ρ1 _ _ lo ρ2 (by omega) i1' e2 fun H2 l2 i2 => ?_
  refine kh σ H2 ρ2 _ _ hi2 ρ3 (by omega) i2 e3 fun H3 l3 i3 => ?_
  have i3' : Items X.K [] H3 (hd.its v ++ (σ.zip ρ3 ++ l)) := i3.perm (by
    rw [← List.append_assoc, ← List.append_assoc]
    exact List.Perm.append_right l List.perm_append_comm)
  have m := mem_hd (X := X) (hl := by omega) a1 i3'
  refine o3_sl i3' m e4 fun w H4 i4 => ?_
  exact q w H4 (by show ρ3.length = ρ.length; omega) (i4.sub ⟨hd.its v, by
    exact List.perm_middle.symm⟩)
/-! ### enumerate, zip -/
theorem late1 {C : List Nat} {σ σ1 : Sl} {hd : Hd} {v : V} {ρ2 : Ev} (a1 : hd.at' σ v) (hh : hsl C hd) (ag : Agr C σ σ1) (h1 : σ1.length = σ.length) (h2 : ρ2.length = σ.length) : (some v, hd.get ρ2) ∈ σ1.zip ρ2 ∨ (some v, hd.get ρ2) ∈ hd.its v := by
  cases hd with
  | tm d => exact .inr (by simp [Hd.its, Hd.get])
  | sl i =>
    have a1' : σ[i]? = some (some v) := a1
    have a2 : σ1[i]? = some (some v) := by rw [ag i hh]; exact a1'
    have h3 : i < ρ2.length := by have := (List.getElem?_eq_some_iff.mp a2).1; omega
    have h4 : ρ2[i]? = some ρ2[i] := List.getElem?_eq_getElem h3
    refine .inl ?_
    show (some v, ρ2.getD i .any) ∈ _
    rw [getD_of h4]
    exact zip_mem a2 h4
/-- a list's turns -/
theorem it_list {K : Frg} {H : Hp} {l : List Itm} {v : V} {d : D} (hi : Items K [] H l) (hm : (some v, d) ∈ l) (k : Nat) (hL : isL d = true) :
    ∃ a, v = .ref a ∧ (itD d k = some none → ∃ xs : List V, SqL K H a xs ∧ xs.length ≤ k) ∧ ∀ c, itD d k = some (some c) → (∃ (xs : List V) (x : V), SqL K H a xs ∧ xs[k]? = some x) ∧ ∀ x, (∀ xs, SqL K H a xs → xs[k]? = some x) → Items K [] H ((some x, c) :: l) ∧ c.frz = true := by
  obtain ⟨it1, it2, it3, it4⟩ := it_item hi hm k
  cases d with
  | lst b ds =>
    obtain ⟨a, ev, p1, p2⟩ := it1 b ds rfl
    refine ⟨a, ev, fun h => p1 h, fun c h => ⟨(p2 c h).1, fun x hx => ⟨(p2 c h).2 x H ⟨rfl, hx⟩, ?_⟩⟩⟩
    replace h : (match ds[k]? with
      | some c => if c.frz = true then some (some c) else none
      | none => some (none : Option D)) = some (some c) := h
    split at h
    · split at h
      · cases h; assumption
      · cases h
    · cases h
  | cst ds =>
    obtain ⟨a, ev, p1, p2⟩ := it2 ds rfl
    refine ⟨a, ev, fun h => p1 h, fun c h => ⟨(p2 c h).1, fun x hx => ⟨(p2 c h).2 x H ⟨rfl, hx⟩, ?_⟩⟩⟩
    replace h : (match ds[k]? with
      | some c => if c.frz = true then some (some c) else none
      | none => some (none : Option D)) = some (some c) := h
    split at h
    · split at h
      · cases h; assumption
      · cases h
    · cases h
  | _ => cases hL
def itE (h : Hd) : Src := fun k ρ => (itK isL h k ρ).map (Option.map fun c => D.tup [.int (k : Nat), c])
def iEn (fa : Ev → Option (List Hd × Ev)) : Ev → Option (Src × Ev) := fun ρ => (fa ρ).bind fun p => match p.1 with
  | [h] => if isL (h.get p.2) = true then some (itE h, p.2) else none
  | _ => none
theorem di_enum {C : List Nat} {e : Expr} {fa : Ev → Option (List Hd × Ev)} {p pos tpos : Pos} {elts : List Expr} {kk : Nat} (hg : Gl X "enumerate") (hm : X.mg "enumerate" = none) (ha : DA X [e] fa) (hC : ∀ ρ hds ρ', fa ρ = some (hds, ρ') → ∀ h ∈ hds, hsl C h) (hs : starEach [e] X.env = [(false, eval e X.env)] := by rfl) :
    DI X C (.Tuple elts kk tpos) (.Call (.Name "enumerate" p) [e] [] pos) (iEn fa) := by
  obtain ⟨t, ht, k⟩ := ha.ex
  refine ⟨_, pi_enum hg hm ht hs, fun σ H ρ l R it ρ' hl hi hf q => ?_⟩
  obtain ⟨⟨hds, ρ1⟩, e1, hf⟩ := Option.bind_eq_some_iff.mp hf
  refine k σ H ρ l _ hds ρ1 hl hi e1 fun vs H1 l1 a1 i1 => ?_
  have hh := hC ρ hds ρ1 e1
  match hds, vs, hf, a1, i1, hh with
  | [h], [v], hf, ⟨a1, _⟩, i1, hh =>
    replace hf : (if isL (h.get ρ1) = true then some (itE h, ρ1) else none) = some (it, ρ') := hf
    split at hf
    · rename_i hL
      cases hf
      have i1' : Items X.K [] H1 (h.its v ++ (σ.zip ρ' ++ l)) := by
        have e0 : hits [h] [v] = h.its v := by show h.its v ++ [] = _; rw [List.append_nil]
        rw [e0] at i1; exact i1
      have m1 := mem_hd (X := X) (hl := by omega) a1 i1'
      obtain ⟨a, ev, _, _⟩ := it_list i1' m1 0 hL
      subst ev
      have hq : ∃ xs, SqL X.K H1 a xs := by
        cases e : h.get ρ' with
        | lst b ds => rw [e] at m1; obtain ⟨a', xs, ev, hs, _⟩ := i1'.list m1; cases ev; exact ⟨xs, SqL.of hs⟩
        | cst ds => rw [e] at m1; obtain ⟨a', xs, ev, hs, _⟩ := i1'.const m1; cases ev; exact ⟨xs, hs⟩
        | _ => rw [e] at hL; cases hL
      obtain ⟨xs, hq⟩ := hq
      refine ⟨a, xs, rfl, hq, q (Ite X.K a) H1 (h.its (.ref a)) l1 (i1'.perm perm_mid) fun k σ1 ρ2 H2 l2 ag h1 h2 i2 => ?_⟩
      have m2 : (some (.ref a), h.get ρ2) ∈ σ1.zip ρ2 ++ (h.its (.ref a) ++ l2) := by
        rcases late1 a1 (hh h (by simp)) ag h1 h2 with m | m
        · exact List.mem_append_left _ m
        · exact List.mem_append_right _ (List.mem_append_left _ m)
      unfold itE itK
      by_cases hL2 : isL (h.get ρ2) = true
      · rw [if_pos hL2]
        obtain ⟨a', ev, p1, p2⟩ := it_list i2 m2 k hL2
        cases ev
        refine ⟨fun hn => ?_, fun d hd => ?_⟩
        · obtain ⟨o, eo, eo2⟩ := Option.map_eq_some_iff.mp hn
          cases o with
          | none => exact p1 eo
          | some c => cases eo2
        · obtain ⟨o, eo, eo2⟩ := Option.map_eq_some_iff.mp hd
          cases o with
          | none => cases eo2
          | some c =>
            cases eo2
            obtain ⟨g1, g2⟩ := p2 c eo
            refine ⟨g1, fun x H3 hy => ?_⟩
            obtain ⟨T, y, rfl, nT, rfl, hy⟩ := hy
            obtain ⟨i3, _⟩ := g2 y hy
            refine Items.newT nT rfl ?_
            exact i3.add (v := .int (k : Nat)) rfl fun _ _ => rfl
      · rw [if_neg hL2]
        exact ⟨fun h => (by cases h), fun d h => (by cases h)⟩
    · cases hf
def itZ (h h' : Hd) : Src := fun k ρ => (itK isL h k ρ).bind fun o => (itK isL h' k ρ).map fun o' => match o, o' with
  | some c, some c' => some (D.tup [c, c'])
  | _, _ => none
def iZp (fa : Ev → Option (List Hd × Ev)) : Ev → Option (Src × Ev) := fun ρ => (fa ρ).bind fun p => match p.1 with
  | [h, h'] => if isL (h.get p.2) = true ∧ isL (h'.get p.2) = true then some (itZ h h', p.2) else none
  | _ => none
theorem di_zip {C : List Nat} {e e2 : Expr} {fa : Ev → Option (List Hd × Ev)} {p pos tpos : Pos} {elts : List Expr} {kk : Nat} (hg : Gl X "zip") (hm : X.mg "zip" = none) (ha : DA X [e, e2] fa) (hC : ∀ ρ hds ρ', fa ρ = some (hds, ρ') → ∀ h ∈ hds, hsl C h)
    (hs : starEach [e, e2] X.env = (false, eval e X.env) :: starEach [e2] X.env := by rfl) (hpl : (backTo pos (starEach [e2] X.env)).any (·.1) = false := by rfl) :
    DI X C (.Tuple elts kk tpos) (.Call (.Name "zip" p) [e, e2] [] pos) (iZp fa) := by
  obtain ⟨t, ht, k⟩ := ha.ex
  refine ⟨_, pi_zip hg hm ht hs hpl, fun σ H ρ l R it ρ' hl hi hf q => ?_⟩
  obtain ⟨⟨hds, ρ1⟩, e1, hf⟩ := Option.bind_eq_some_iff.mp hf
  refine k σ H ρ l _ hds ρ1 hl hi e1 fun vs H1 l1 a1 i1 => ?_
  have hh := hC ρ hds ρ1 e1
  match hds, vs, hf, a1, i1, hh with
  | [h, h'], [v, v'], hf, ⟨a1, a2, _⟩, i1, hh =>
    replace hf : (if isL (h.get ρ1) = true ∧ isL (h'.get ρ1) = true then some (itZ h h', ρ1) else none) = some (it, ρ') := hf
    split at hf
    · rename_i hL
      cases hf
      have i1' : Items X.K [] H1 (σ.zip ρ' ++ ((h.its v ++ h'.its v') ++ l)) := by
        have e0 : hits [h, h'] [v, v'] = h.its v ++ h'.its v' := by show h.its v ++ (h'.its v' ++ []) = _; rw [List.append_nil]
        rw [e0] at i1; exact i1.perm perm_mid
      have mem : ∀ (σ1 : Sl) (ρ2 : Ev) (l2 : List Itm), Agr C σ σ1 → σ1.length = σ.length → ρ2.length = σ.length → (some v, h.get ρ2) ∈ σ1.zip ρ2 ++ ((h.its v ++ h'.its v') ++ l2) ∧ (some v', h'.get ρ2) ∈ σ1.zip ρ2 ++ ((h.its v ++ h'.its v') ++ l2) := fun σ1 ρ2 l2 ag h1 h2 => by
        constructor
        · rcases late1 a1 (hh h (by simp)) ag h1 h2 with m | m
          · exact List.mem_append_left _ m
          · exact List.mem_append_right _ (List.mem_append_left _ (List.mem_append_left _ m))
        · rcases late1 a2 (hh h' (by simp)) ag h1 h2 with m | m
          · exact List.mem_append_left _ m
          · exact List.mem_append_right _ (List.mem_append_left _ (List.mem_append_right _ m))
      obtain ⟨m1, m2⟩ := mem σ ρ' l (fun _ _ => rfl) rfl (by omega)
      have sq : ∀ (v : V) (d : D), (some v, d) ∈ σ.zip ρ' ++ ((h.its v ++ h'.its v') ++ l) → True := fun _ _ _ => trivial
      have sq : ∀ (u : V) (d : D), (some u, d) ∈ σ.zip ρ' ++ ((h.its v ++ h'.its v') ++ l) → isL d = true → ∃ a xs, u = .ref a ∧ SqL X.K H1 a xs := fun u d m hL => by
        cases d with
        | lst b ds => obtain ⟨a', xs, ev, hs, _⟩ := i1'.list m; exact ⟨a', xs, ev, SqL.of hs⟩
        | cst ds => obtain ⟨a', xs, ev, hs, _⟩ := i1'.const m; exact ⟨a', xs, ev, hs⟩
        | _ => cases hL
      obtain ⟨a, xs, ea, sa⟩ := sq v _ m1 hL.1
      obtain ⟨b, ys, eb, sb⟩ := sq v' _ m2 hL.2
      subst ea eb
      refine ⟨a, b, xs, ys, rfl, sa, sb, q (Itz X.K a b) H1 _ l1 i1' fun k σ1 ρ2 H2 l2 ag h1 h2 i2 => ?_⟩
      obtain ⟨m3, m4⟩ := mem σ1 ρ2 l2 ag h1 h2
      unfold itZ itK
      by_cases hL2 : isL (h.get ρ2) = true
      · rw [if_pos hL2]
        by_cases hL3 : isL (h'.get ρ2) = true
        · rw [if_pos hL3]
          obtain ⟨a', ev, p1, p2⟩ := it_list i2 m3 k hL2
          cases ev
          obtain ⟨b', ev, p3, p4⟩ := it_list i2 m4 k hL3
          cases ev
          have any1 : ∀ o, itD (h.get ρ2) k = some o → ∃ xs : List V, SqL X.K H2 a xs := fun o eo => by
            cases o with
            | none => obtain ⟨xs, s, _⟩ := p1 eo; exact ⟨xs, s⟩
            | some c => obtain ⟨⟨xs, _, s, _⟩, _⟩ := p2 c eo; exact ⟨xs, s⟩
          have any2 : ∀ o, itD (h'.get ρ2) k = some o → ∃ xs : List V, SqL X.K H2 b xs := fun o eo => by
            cases o with
            | none => obtain ⟨xs, s, _⟩ := p3 eo; exact ⟨xs, s⟩
            | some c => obtain ⟨⟨xs, _, s, _⟩, _⟩ := p4 c eo; exact ⟨xs, s⟩
          refine ⟨fun hn => ?_, fun d hd => ?_⟩
          · obtain ⟨o, eo, hn⟩ := Option.bind_eq_some_iff.mp hn
            obtain ⟨o', eo', eo2⟩ := Option.map_eq_some_iff.mp hn
            obtain ⟨xs, s1⟩ := any1 o eo
            obtain ⟨ys, s2⟩ := any2 o' eo'
            cases o with
            | none => obtain ⟨xs, s1, z⟩ := p1 eo; exact ⟨xs, ys, s1, s2, .inl z⟩
            | some c =>
              cases o' with
              | none => obtain ⟨ys, s2, z⟩ := p3 eo'; exact ⟨xs, ys, s1, s2, .inr z⟩
              | some c' => cases eo2
          · obtain ⟨o, eo, hd⟩ := Option.bind_eq_some_iff.mp hd
            obtain ⟨o', eo', eo2⟩ := Option.map_eq_some_iff.mp hd
            cases o with
            | none => cases eo2
            | some c =>
              cases o' with
              | none => cases eo2
              | some c' =>
                cases eo2
                obtain ⟨⟨xs, x, s1, e1⟩, g2⟩ := p2 c eo
                obtain ⟨⟨ys, y, s2, e2⟩, g4⟩ := p4 c' eo'
                refine ⟨⟨xs, ys, x, y, s1, s2, e1, e2⟩, fun z H3 hy => ?_⟩
                obtain ⟨T, x', y', rfl, nT, rfl, hx', hy'⟩ := hy
                obtain ⟨i3, z3⟩ := g2 x' hx'
                obtain ⟨b'', ev, _, p4'⟩ := it_list i3 (List.mem_cons_of_mem _ m4) k hL3
                cases ev
                obtain ⟨i5, _⟩ := (p4' c' eo').2 y' hy'
                exact Items.newT nT rfl (i5.perm (List.Perm.swap _ _ _))
        · rw [if_neg hL3]
          refine ⟨fun hn => ?_, fun d hd => ?_⟩
          · obtain ⟨o, eo, hn⟩ := Option.bind_eq_some_iff.mp hn; cases hn
          · obtain ⟨o, eo, hd⟩ := Option.bind_eq_some_iff.mp hd; cases hd
      · rw [if_neg hL2]
        exact ⟨fun h => (by cases h), fun d h => (by cases h)⟩
    · cases hf
end
end Mv
end
section
set_option Elab.async false
set_option linter.all false
set_option maxRecDepth 100000
/-! range of three, reversed, index, count, two comparisons. -/
namespace Mv
open PySem PySem.Spec PyProof.Rows L2
section
variable {X : Cx} {C : List Nat}
def iRg3 (fa : Ev → Option (List Hd × Ev)) : Ev → Option (Src × Ev) := fun ρ => (fa ρ).bind fun p => match p.1.map (Hd.get p.2) with
  | [.int i, .int j, .int c] => if c ≠ 0 ∧ c.natAbs < 1073741824 ∧ Builtin.Range.small i j c = true then some (itR i c (Builtin.Range.rangeSize i j c).toNat, p.2) else none
  | _ => none
theorem itRc_ok {σ : Sl} {lo c : Int} {n : Nat} : ItOk X C σ [] (Itc lo c n) (itR lo c n) := fun k σ1 ρ1 H1 l1 ag h1 h2 i1 => by
  unfold itR
  by_cases hk : k < n
  · rw [if_pos hk]
    refine ⟨fun h => (by cases h), fun d h => ?_⟩
    cases h
    refine ⟨hk, fun x H2 hy => ?_⟩
    obtain ⟨rfl, rfl⟩ := hy
    exact i1.add rfl fun _ _ => rfl
  · rw [if_neg hk]
    exact ⟨fun _ => Nat.le_of_not_lt hk, fun d h => (by cases h)⟩
theorem di_range3 {a b c : Expr} {tg : Expr} {fa : Ev → Option (List Hd × Ev)} {p pos : Pos} (hg : Gl X "range") (hm : X.mg "range" = none) (ha : DA X [a, b, c] fa)
    (hs : starEach [a, b, c] X.env = (false, eval a X.env) :: starEach [b, c] X.env := by rfl) (hpl : (backTo pos (starEach [b, c] X.env)).any (·.1) = false := by rfl) : DI X C tg (.Call (.Name "range" p) [a, b, c] [] pos) (iRg3 fa) := by
  obtain ⟨t, ht, k⟩ := ha.ex
  refine ⟨_, pi_range3 hg hm ht hs hpl, fun σ H ρ l R it ρ' hl hi hf q => ?_⟩
  obtain ⟨⟨hds, ρ1⟩, e1, hf⟩ := Option.bind_eq_some_iff.mp hf
  refine k σ H ρ l _ hds ρ1 hl hi e1 fun vs H1 l1 a1 i1 => ?_
  have hm := mem_hits (K := X.K) (H := H1) (ρ := ρ1) (by omega) (l := l) a1
  replace hf : (match hds.map (Hd.get ρ1) with
    | [.int i, .int j, .int c] => if c ≠ 0 ∧ c.natAbs < 1073741824 ∧ Builtin.Range.small i j c = true then some (itR i c (Builtin.Range.rangeSize i j c).toNat, ρ1) else none
    | _ => none) = some (it, ρ') := hf
  split at hf
  · rename_i i j c e
    rw [e] at hm
    cases hm with
    | cons m1 mr =>
      cases mr with
      | cons m2 mr =>
        cases mr with
        | cons m3 mr =>
          cases mr
          rename_i x y z
          have hx : x = .int i := i1.view m1
          have hy : y = .int j := i1.view m2
          have hz : z = .int c := i1.view m3
          subst hx hy hz
          split at hf
          · rename_i hj
            cases hf
            exact ⟨i, j, c, _, rfl, ⟨hj.1, hj.2.1, hj.2.2, rangeSize_toNat i j c⟩, q (Itc i c _) H1 [] l1 i1.drop itRc_ok⟩
          · cases hf
  · cases hf
/-! ### reversed -/
def itV (n : Nat) (h : Hd) : Src := fun k ρ => if k < n then (if isL (h.get ρ) = true then (match itD (h.get ρ) (n - 1 - k) with
  | some (some c) => some (some c)
  | _ => none) else none) else some none
def lenL : D → Nat
  | .lst _ ds => ds.length
  | .cst ds => ds.length
  | _ => 0
def iRv (fa : Ev → Option (List Hd × Ev)) : Ev → Option (Src × Ev) := fun ρ => (fa ρ).bind fun p => match p.1 with
  | [h] => if isL (h.get p.2) = true then some (itV (lenL (h.get p.2)) h, p.2) else none
  | _ => none
theorem di_rev {e tg : Expr} {fa : Ev → Option (List Hd × Ev)} {p pos : Pos} (hg : Gl X "reversed") (hm : X.mg "reversed" = none) (ha : DA X [e] fa) (hC : ∀ ρ hds ρ', fa ρ = some (hds, ρ') → ∀ h ∈ hds, hsl C h) (hs : starEach [e] X.env = [(false, eval e X.env)] := by rfl) :
    DI X C tg (.Call (.Name "reversed" p) [e] [] pos) (iRv fa) := by
  obtain ⟨t, ht, k⟩ := ha.ex
  refine ⟨_, pi_reversed hg hm ht hs, fun σ H ρ l R it ρ' hl hi hf q => ?_⟩
  obtain ⟨⟨hds, ρ1⟩, e1, hf⟩ := Option.bind_eq_some_iff.mp hf
  refine k σ H ρ l _ hds ρ1 hl hi e1 fun vs H1 l1 a1 i1 => ?_
  have hh := hC ρ hds ρ1 e1
  match hds, vs, hf, a1, i1, hh with
  | [h], [v], hf, ⟨a1, _⟩, i1, hh =>
    replace hf : (if isL (h.get ρ1) = true then some (itV (lenL (h.get ρ1)) h, ρ1) else none) = some (it, ρ') := hf
    split at hf
    · rename_i hL
      cases hf
      have i1' : Items X.K [] H1 (h.its v ++ (σ.zip ρ' ++ l)) := by
        have e0 : hits [h] [v] = h.its v := by show h.its v ++ [] = _; rw [List.append_nil]
        rw [e0] at i1; exact i1
      have m1 := mem_hd (X := X) (hl := by omega) a1 i1'
      have hq : ∃ a xs, v = .ref a ∧ SqL X.K H1 a xs ∧ xs.length = lenL (h.get ρ') := by
        cases e : h.get ρ' with
        | lst b ds => rw [e] at m1; obtain ⟨a', xs, ev, hs, hl, _⟩ := i1'.list m1; exact ⟨a', xs, ev, SqL.of hs, hl⟩
        | cst ds => rw [e] at m1; obtain ⟨a', xs, ev, hs, hl, _⟩ := i1'.const m1; exact ⟨a', xs, ev, hs, hl⟩
        | _ => rw [e] at hL; cases hL
      obtain ⟨a, xs, rfl, hq, hlen⟩ := hq
      refine ⟨a, xs, rfl, hq, ?_⟩
      rw [← hlen] at q
      refine q (Itv X.K a xs.length) H1 (h.its (.ref a)) l1 (i1'.perm perm_mid) fun k σ1 ρ2 H2 l2 ag h1 h2 i2 => ?_
      have m2 : (some (.ref a), h.get ρ2) ∈ σ1.zip ρ2 ++ (h.its (.ref a) ++ l2) := by
        rcases late1 a1 (hh h (by simp)) ag h1 h2 with m | m
        · exact List.mem_append_left _ m
        · exact List.mem_append_right _ (List.mem_append_left _ m)
      unfold itV
      by_cases hk : k < xs.length
      · rw [if_pos hk]
        by_cases hL2 : isL (h.get ρ2) = true
        · rw [if_pos hL2]
          obtain ⟨a', ev, p1, p2⟩ := it_list i2 m2 (xs.length - 1 - k) hL2
          cases ev
          refine ⟨fun hn => ?_, fun d hd => ?_⟩
          · split at hn <;> cases hn
          · split at hd
            · rename_i c eo
              cases hd
              obtain ⟨⟨ys, y, s1, e1⟩, g2⟩ := p2 _ eo
              refine ⟨⟨hk, ys, y, s1, e1⟩, fun x H3 hy => ?_⟩
              obtain ⟨rfl, hy⟩ := hy
              exact (g2 x hy).1
            · cases hd
        · rw [if_neg hL2]
          exact ⟨fun h => (by cases h), fun d h => (by cases h)⟩
      · rw [if_neg hk]
        exact ⟨fun _ => Nat.le_of_not_lt hk, fun d h => (by cases h)⟩
    · cases hf
/-! ### list.index, list.count of numbers -/
def gIndex : List D → Option D := fun ds => match ds with
  | [.lst _ xs, .int k] => (ints? xs).bind fun ns => if k ∈ ns then some (.int (ns.idxOf k : Nat)) else none
  | _ => none
theorem on_index {K : Frg} : OpN K (fun xs H Q => ∃ x r', xs = x :: r' ∧ rIndex K x r' H Q) gIndex := by
  intro xs H ds l Q d hi hm hg q
  unfold gIndex at hg
  split at hg
  · rename_i b ys k
    obtain ⟨ns, e1, hg⟩ := Option.bind_eq_some_iff.mp hg
    split at hg
    · rename_i hk
      cases hg
      cases hm with
      | cons m1 mr =>
        cases mr with
        | cons m2 mr =>
          cases mr
          rename_i x y
          have hy : y = .int k := hi.view m2
          subst hy
          obtain ⟨a, us, rfl, hs, hl, hz, _⟩ := hi.list m1
          have hu := ints_ok e1 hz
          subst hu
          have hlt : ns.idxOf k < ns.length := List.idxOf_lt_length_of_mem hk
          refine ⟨_, _, rfl, a, _, .int k, ns.idxOf k, .int k, rfl, rfl, SqL.of hs, rfl, by simp [flatV], ?_, by simp [eqV], ?_, q _ H (hi.add rfl fun _ _ => rfl)⟩
          · rw [List.getElem?_map, List.getElem?_eq_getElem hlt]
            simp
          · intro m z' hm hz'
            rw [List.getElem?_map] at hz'
            obtain ⟨i, ei, rfl⟩ := Option.map_eq_some_iff.mp hz'
            have : i ≠ k := by
              intro e
              subst e
              have := List.not_of_lt_findIdx (p := (· == i)) (xs := ns) (i := m) hm
              obtain ⟨hlt, e⟩ := List.getElem?_eq_some_iff.mp ei
              rw [e] at this
              simp at this
            show (i == k) = false
            simpa using this
    · cases hg
  · cases hg
def gCount : List D → Option D := fun ds => match ds with
  | [.lst _ xs, .int k] => (ints? xs).map fun ns => .int (ns.count k : Nat)
  | _ => none
theorem on_count {K : Frg} : OpN K (fun xs H Q => ∃ x r', xs = x :: r' ∧ rCntI K x r' H Q) gCount := by
  intro xs H ds l Q d hi hm hg q
  unfold gCount at hg
  split at hg
  · rename_i b ys k
    obtain ⟨ns, e1, hg⟩ := Option.map_eq_some_iff.mp hg
    subst hg
    cases hm with
    | cons m1 mr =>
      cases mr with
      | cons m2 mr =>
        cases mr
        rename_i x y
        have hy : y = .int k := hi.view m2
        subst hy
        obtain ⟨a, us, rfl, hs, hl, hz, _⟩ := hi.list m1
        have hu := ints_ok e1 hz
        subst hu
        exact ⟨_, _, rfl, a, ns, k, rfl, rfl, SqL.of hs, q _ H (hi.add rfl fun _ _ => rfl)⟩
  · cases hg
/-! ### a < b < c -/
def eCh (g g' : D → D → Option D) (fa fb fc : Ev → Option (Hd × Ev)) : Ev → Option (D × Ev) := fun ρ => (fa ρ).bind fun p => (fb p.2).bind fun q => (g (p.1.get q.2) (q.1.get q.2)).bind fun d => match d with
  | .bl b => if b = true then (fc q.2).bind fun r => (g' (q.1.get r.2) (r.1.get r.2)).map fun d => (d, r.2) else some (.bl false, q.2)
  | _ => none
theorem chain2 {a b c : Expr} {fa fb fc : Ev → Option (Hd × Ev)} {g g' : D → D → Option D} {r r' : R2} (hg : Op2 X.K r g) (hg' : Op2 X.K r' g') (ha : DH X a fa) (hb : DH X b fb) (hc : DH X c fc) :
    ∃ ta tb tc, PE X a ta ∧ PE X b tb ∧ PE X c tc ∧ ∀ (σ : Sl) (H : Hp) (ρ : Ev) (l : List Itm) (Q : VK) (d : D) (ρ' : Ev), σ.length = ρ.length → Items X.K [] H (σ.zip ρ ++ l) → eCh g g' fa fb fc ρ = some (d, ρ') →
      (∀ v H', ρ'.length = ρ.length → Items X.K [] H' ((some v, d) :: (σ.zip ρ' ++ l)) → Q v H') → tChain r r' ta tb tc σ H Q := by
  obtain ⟨ta, pa, ka⟩ := ha.ex
  obtain ⟨tb, pb, kb⟩ := hb.ex
  obtain ⟨tc, pc, kc⟩ := hc.ex
  refine ⟨ta, tb, tc, pa, pb, pc, fun σ H ρ l Q d ρ' hl hi hf q => ?_⟩
  obtain ⟨⟨h1, ρ1⟩, e1, hf⟩ := Option.bind_eq_some_iff.mp hf
  obtain ⟨⟨h2, ρ2⟩, e2, hf⟩ := Option.bind_eq_some_iff.mp hf
  obtain ⟨d', e3, hf⟩ := Option.bind_eq_some_iff.mp hf
  refine ka σ H ρ l _ h1 ρ1 hl hi e1 fun v1 H1 l1 a1 i1 => ?_
  have i1' : Items X.K [] H1 (σ.zip ρ1 ++ (h1.its v1 ++ l)) := i1.perm perm_mid
  refine kb σ H1 ρ1 _ _ h2 ρ2 (by omega) i1' e2 fun v2 H2 l2 a2 i2 => ?_
  have m2 := mem_hd (X := X) (hl := by omega) a2 i2
  have i2' : Items X.K [] H2 (h1.its v1 ++ (σ.zip ρ2 ++ (h2.its v2 ++ l))) := i2.perm (by
    refine perm_mid.trans ?_
    refine List.Perm.trans ?_ perm_mid
    refine List.Perm.append_left _ perm_mid)
  have m1 := mem_hd (X := X) (hl := by omega) a1 i2'
  have m1' : (some v1, h1.get ρ2) ∈ h2.its v2 ++ (σ.zip ρ2 ++ (h1.its v1 ++ l)) := by
    simp only [List.mem_append] at m1 ⊢
    rcases m1 with m | m | m | m
    · exact .inr (.inr (.inl m))
    · exact .inr (.inl m)
    · exact .inl m
    · exact .inr (.inr (.inr m))
  refine hg v1 v2 H2 _ _ _ _ _ i2 m1' m2 e3 fun v H3 i3 => ?_
  cases d' with
  | bl b =>
    have hv : v = .bl b := i3.view List.mem_cons_self
    subst hv
    refine ⟨b, rfl, ?_⟩
    cases b with
    | false =>
      cases hf
      refine q (.bl false) H3 (by show ρ2.length = ρ.length; omega) (i3.sub ⟨h2.its v2 ++ h1.its v1, ?_⟩)
      have p3 : (h2.its v2 ++ (σ.zip ρ2 ++ (h1.its v1 ++ l))).Perm ((h2.its v2 ++ h1.its v1) ++ (σ.zip ρ2 ++ l)) := by
        rw [List.append_assoc]
        exact List.Perm.append_left _ perm_mid
      exact (List.Perm.cons _ p3).trans List.perm_middle.symm
    | true =>
      replace hf : ((fc ρ2).bind fun r => (g' (h2.get r.2) (r.1.get r.2)).map fun d => (d, r.2)) = some (d, ρ') := hf
      obtain ⟨⟨h3, ρ3⟩, e4, hf⟩ := Option.bind_eq_some_iff.mp hf
      obtain ⟨d', e5, hf⟩ := Option.map_eq_some_iff.mp hf
      cases hf
      have i4 : Items X.K [] H3 (σ.zip ρ2 ++ (h2.its v2 ++ (h1.its v1 ++ l))) := i3.tail.perm perm_mid
      refine kc σ H3 ρ2 _ _ h3 ρ3 (by omega) i4 e4 fun v3 H4 l4 a4 i5 => ?_
      have m3 := mem_hd (X := X) (hl := by omega) a4 i5
      have i5' : Items X.K [] H4 (h2.its v2 ++ (σ.zip ρ3 ++ (h3.its v3 ++ (h1.its v1 ++ l)))) := i5.perm (by
        refine perm_mid.trans ?_
        refine List.Perm.trans ?_ perm_mid
        refine List.Perm.append_left _ perm_mid)
      have m4 := mem_hd (X := X) (hl := by omega) a2 i5'
      have m4' : (some v2, h2.get ρ3) ∈ h3.its v3 ++ (σ.zip ρ3 ++ (h2.its v2 ++ (h1.its v1 ++ l))) := by
        simp only [List.mem_append] at m4 ⊢
        rcases m4 with m | m | m | m | m
        · exact .inr (.inr (.inl m))
        · exact .inr (.inl m)
        · exact .inl m
        · exact .inr (.inr (.inr (.inl m)))
        · exact .inr (.inr (.inr (.inr m)))
      refine hg' v2 v3 H4 _ _ _ Q _ i5 m4' m3 e5 fun v H5 i6 => ?_
      refine q v H5 (by show ρ3.length = ρ.length; omega) (i6.sub ⟨h3.its v3 ++ (h2.its v2 ++ h1.its v1), ?_⟩)
      have p3 : (h3.its v3 ++ (σ.zip ρ3 ++ (h2.its v2 ++ (h1.its v1 ++ l)))).Perm ((h3.its v3 ++ (h2.its v2 ++ h1.its v1)) ++ (σ.zip ρ3 ++ l)) := by
        rw [List.append_assoc]
        refine List.Perm.append_left _ ?_
        refine perm_mid.trans ?_
        rw [List.append_assoc]
        exact List.Perm.append_left _ perm_mid
      exact (List.Perm.cons _ p3).trans List.perm_middle.symm
  | _ => cases hf
theorem de_chain {a b c : Expr} {op op' : CmpOp} {fa fb fc : Ev → Option (Hd × Ev)} {g g' : D → D → Option D} {r r' : R2} {pos : Pos} (ho : OpR X (compareOp op) r) (ho' : OpR X (compareOp op') r') (hg : Op2 X.K r g) (hg' : Op2 X.K r' g') (ha : DH X a fa) (hb : DH X b fb) (hc : DH X c fc)
    (hm : lastMarks [op, op'] [b, c] = false := by with_unfolding_all rfl) : DE X (.Compare a [op, op'] [b, c] pos) (eCh g g' fa fb fc) := by
  obtain ⟨ta, tb, tc, pa, pb, pc, k⟩ := chain2 hg hg' ha hb hc
  exact ⟨_, pe_chain ho ho' pa pb pc hm, k⟩
theorem dt_chain {a b c : Expr} {op op' : CmpOp} {fa fb fc : Ev → Option (Hd × Ev)} {g g' : D → D → Option D} {r r' : R2} {pos : Pos} (ho : OpR X (compareOp op) r) (ho' : OpR X (compareOp op') r') (hg : Op2 X.K r g) (hg' : Op2 X.K r' g') (ha : DH X a fa) (hb : DH X b fb) (hc : DH X c fc)
    (hm : lastMarks [op, op'] [b, c] = false := by with_unfolding_all rfl) : DT X (.Compare a [op, op'] [b, c] pos) (tB' (eCh g g' fa fb fc)) := by
  obtain ⟨ta, tb, tc, pa, pb, pc, k⟩ := chain2 hg hg' ha hb hc
  refine ⟨_, pt_chain ho ho' pa pb pc hm, fun σ H ρ l Q c ρ' hl hi hf q => ?_⟩
  obtain ⟨⟨d, ρ1⟩, e1, hf⟩ := Option.bind_eq_some_iff.mp hf
  cases d with
  | bl b' =>
    cases hf
    refine k σ H ρ l _ _ _ hl hi e1 fun v H' hl' hi' => ?_
    have hv : v = .bl c := hi'.view (List.mem_cons_self)
    subst hv
    exact ⟨c, rfl, q H' hl' hi'.tail⟩
  | _ => cases hf
/-! what the operands of enumerate, zip, reversed keep -/
theorem hsls_nil : ∀ ρ hds ρ', aNil ρ = some (hds, ρ') → ∀ h ∈ hds, hsl C h := fun ρ hds ρ' e h hh => by cases e; cases hh
theorem hsls_cons {f : Ev → Option (Hd × Ev)} {g : Ev → Option (List Hd × Ev)} (hf : ∀ ρ hd ρ', f ρ = some (hd, ρ') → hsl C hd) (hg : ∀ ρ hds ρ', g ρ = some (hds, ρ') → ∀ h ∈ hds, hsl C h) : ∀ ρ hds ρ', aCons f g ρ = some (hds, ρ') → ∀ h ∈ hds, hsl C h := fun ρ hds ρ' e h hh => by
  obtain ⟨⟨hd, ρ1⟩, e1, e⟩ := Option.bind_eq_some_iff.mp e
  obtain ⟨⟨hs, ρ2⟩, e2, e⟩ := Option.map_eq_some_iff.mp e
  cases e
  rcases List.mem_cons.mp hh with rfl | hh
  · exact hf _ _ _ e1
  · exact hg _ _ _ e2 h hh
theorem hsls_var {i : Nat} {g : Ev → Option (List Hd × Ev)} (hi : i ∈ C) (hg : ∀ ρ hds ρ', g ρ = some (hds, ρ') → ∀ h ∈ hds, hsl C h) : ∀ ρ hds ρ', aCons (hV i) g ρ = some (hds, ρ') → ∀ h ∈ hds, hsl C h := hsls_cons (hsl_var hi) hg
theorem hsls_of {f : Ev → Option (D × Ev)} {g : Ev → Option (List Hd × Ev)} (hg : ∀ ρ hds ρ', g ρ = some (hds, ρ') → ∀ h ∈ hds, hsl C h) : ∀ ρ hds ρ', aCons (hE f) g ρ = some (hds, ρ') → ∀ h ∈ hds, hsl C h := hsls_cons hsl_of hg
end
end Mv
end
section
set_option Elab.async false
set_option linter.all false
set_option maxRecDepth 100000
/-! Ranges that are kept in a name. -/
namespace Mv
open PySem PySem.Spec PyProof.Rows L2
theorem Items.newR {K : Frg} {H : Hp} {l : List Itm} {a : Addr} {i j : Int} (ha : H a = none) (h : Items K [] H l) : Items K [] (upd H a (.rng i j)) ((some (.ref a), .rng i j) :: l) := by
  obtain ⟨G, fp, e, ho, nd, hn⟩ := h
  have ga : G a = none := e.free ha
  have hnd : a ∉ fp := fun z => by
    obtain ⟨ys, q⟩ := ho.there a z
    rw [ha] at q; cases q
  have keep : ∀ b ∈ fp, upd H a (.rng i j) b = H b := fun b hb => upd_ne fun z => hnd (z ▸ hb)
  have sG : Same G (upd G a (.rng i j)) := fun b o hb => by rw [upd_ne (ne_of_none hb ga)]; exact hb
  refine ⟨upd G a (.rng i j), fp, fun b o hb => ?_, ⟨[], fp, Ow.of_fz (K := K) (H := upd H a (.rng i j)) (.rng i j) (.ref a) rfl ⟨a, rfl, upd_same⟩, ho.mono sG keep, rfl⟩, nd, fun b hb => ?_⟩
  · by_cases z : b = a
    · subst z; rw [upd_same] at hb ⊢; exact hb
    · rw [upd_ne z] at hb ⊢; exact e b o hb
  · rw [upd_ne (show b ≠ a from fun z => hnd (z ▸ (by simpa using hb)))]
    exact hn b hb
def gRange : List D → Option D := fun ds => match ds with
  | [.int i, .int j] => some (.rng i j)
  | _ => none
theorem on_range {K : Frg} : OpN K (fun vs H Q => ∃ i j, vs = [V.int i, V.int j] ∧ ∀ p, H p = none → Q (.ref p) (upd H p (.rng i j))) gRange := by
  intro xs H ds l Q d hi hm hg q
  unfold gRange at hg
  split at hg
  · rename_i i j
    cases hg
    cases hm with
    | cons m1 mr =>
      cases mr with
      | cons m2 mr =>
        cases mr
        rename_i x y
        have hx : x = .int i := hi.view m1
        have hy : y = .int j := hi.view m2
        subst hx hy
        exact ⟨i, j, rfl, fun p np => q _ _ (hi.newR np)⟩
  · cases hg
section
variable {X : Cx} {C : List Nat}
def iRngV (te : TE) : TI := fun σ H R => te σ H fun x H1 => ∃ a lo hi, x = .ref a ∧ H1 a = some (.rng lo hi) ∧ -(2 ^ 62) ≤ lo ∧ lo < 2 ^ 62 ∧ -(2 ^ 62) ≤ hi ∧ hi < 2 ^ 62 ∧ R (Itr lo (hi - lo).toNat) H1
theorem pi_rngV {tg e : Expr} {te : TE} (he : PE X e te) : PI X tg e (iRngV te) := by
  constructor
  intro pins s σ H R I h
  refine thn (he.run pins s σ H _ I h) ?_
  rintro v s1 ⟨x, H1, I1, r1, a, lo, hi, rfl, ha, h1, h2, h3, h4, q⟩
  cases r1
  have hr : ∃ t u v, s1.heap.get? a = some { cls := .type "range", data := .fields #[.int lo t, .int hi u, .int 1 v] } := I1.hok a _ ha
  obtain ⟨t, u, v, hr⟩ := hr
  refine wpAny_pyIter_range hr (small_one h1 h2 h3 h4) ?_
  refine ⟨s1.heap.objs.size, [s1.heap.objs.size], _, _, H1, rfl, I1.kept (t' := s1.toks) fun b o e => Heap.get?_push_of_some _ e, turn_range _ lo (hi - lo).toNat, ?_, fun b hb => ?_, q⟩
  · have e1 : lo + ((0 : Nat) : Int) * 1 = lo := by simp
    have e2 : (((hi - lo).toNat : Nat) : Int) - ((0 : Nat) : Int) = Builtin.Range.rangeSize lo hi 1 := by rw [rangeSize_one]; split <;> omega
    show IsRangeIter _ _ (lo + ((0 : Nat) : Int) * 1) ((((hi - lo).toNat : Nat) : Int) - ((0 : Nat) : Int)) 1
    rw [e1, e2]
    exact Heap.get?_push_size _ rfl
  · have e : b = s1.heap.objs.size := by simpa using hb
    subst e
    exact I1.fpOk (Nat.le_refl _) (I1.hok.fresh (Nat.le_refl _))
def iRgV (f : Ev → Option (Hd × Ev)) : Ev → Option (Src × Ev) := fun ρ => (f ρ).bind fun p => match p.1.get p.2 with
  | .rng lo hi => if -(2 ^ 62) ≤ lo ∧ lo < 2 ^ 62 ∧ -(2 ^ 62) ≤ hi ∧ hi < 2 ^ 62 then some (itR lo 1 (hi - lo).toNat, p.2) else none
  | _ => none
theorem di_rngV {tg e : Expr} {f : Ev → Option (Hd × Ev)} (h : DH X e f) : DI X C tg e (iRgV f) := by
  obtain ⟨t, ht, k⟩ := h.ex
  refine ⟨_, pi_rngV ht, fun σ H ρ l R it ρ' hl hi hf q => ?_⟩
  obtain ⟨⟨hd, ρ1⟩, e1, hf⟩ := Option.bind_eq_some_iff.mp hf
  refine k σ H ρ l _ hd ρ1 hl hi e1 fun v H1 l1 a1 i1 => ?_
  have m1 := mem_hd (X := X) (hl := by omega) a1 i1
  replace hf : (match hd.get ρ1 with
    | .rng lo hi => if -(2 ^ 62) ≤ lo ∧ lo < 2 ^ 62 ∧ -(2 ^ 62) ≤ hi ∧ hi < 2 ^ 62 then some (itR lo 1 (hi - lo).toNat, ρ1) else none
    | _ => none) = some (it, ρ') := hf
  split at hf
  · rename_i lo hi e
    split at hf
    · rename_i hb
      cases hf
      rw [e] at m1
      obtain ⟨a, ev, ha⟩ := i1.range m1
      exact ⟨a, lo, hi, ev, ha, hb.1, hb.2.1, hb.2.2.1, hb.2.2.2, q (Itr lo (hi - lo).toNat) H1 [] l1 i1.drop itR_ok⟩
    · cases hf
  · cases hf
end
end Mv
end
section
set_option Elab.async false
set_option linter.all false
set_option maxRecDepth 100000
/-! Reckoning with readings: W o Q says that o is some a with Q a. -/
namespace Mv
open PySem PySem.Spec PyProof.Rows L2
def W {α : Type} (o : Option α) (Q : α → Prop) : Prop := ∃ a, o = some a ∧ Q a
section
variable {α β : Type}
theorem W_some {a : α} {Q : α → Prop} : W (some a) Q = Q a := propext ⟨fun ⟨b, e, q⟩ => by cases e; exact q, fun q => ⟨a, rfl, q⟩⟩
theorem W_none {Q : α → Prop} : W none Q = False := propext ⟨fun ⟨b, e, q⟩ => (nomatch e), fun q => q.elim⟩
theorem W_bind {o : Option α} {f : α → Option β} {Q : β → Prop} : W (o.bind f) Q = W o fun a => W (f a) Q := propext ⟨fun ⟨b, e, q⟩ => by
  obtain ⟨a, e1, e2⟩ := Option.bind_eq_some_iff.mp e
  exact ⟨a, e1, b, e2, q⟩, fun ⟨a, e1, b, e2, q⟩ => ⟨b, Option.bind_eq_some_iff.mpr ⟨a, e1, e2⟩, q⟩⟩
theorem W_map {o : Option α} {f : α → β} {Q : β → Prop} : W (o.map f) Q = W o fun a => Q (f a) := propext ⟨fun ⟨b, e, q⟩ => by
  obtain ⟨a, e1, e2⟩ := Option.map_eq_some_iff.mp e
  subst e2
  exact ⟨a, e1, q⟩, fun ⟨a, e1, q⟩ => ⟨f a, by rw [e1]; rfl, q⟩⟩
theorem W_ite {c : Prop} [Decidable c] {a b : Option α} {Q : α → Prop} : W (if c then a else b) Q = if c then W a Q else W b Q := by
  by_cases h : c
  · rw [if_pos h, if_pos h]
  · rw [if_neg h, if_neg h]
theorem W_mono {o : Option α} {Q Q' : α → Prop} (h : W o Q) (k : ∀ a, Q a → Q' a) : W o Q' := let ⟨a, e, q⟩ := h; ⟨a, e, k a q⟩
theorem W_of {o : Option α} {a : α} {Q : α → Prop} (e : o = some a) (q : Q a) : W o Q := ⟨a, e, q⟩
theorem W_eq {o : Option α} {a : α} {Q : α → Prop} (e : o = some a) : W o Q = Q a := by rw [e, W_some]
theorem W_if {c : Prop} [Decidable c] {a : Option α} {Q : α → Prop} (h : c) (k : W a Q) : W (if c then a else none) Q := by rw [if_pos h]; exact k
end
section
variable {x0 : D} {ρ : Ev}
/-! ### blocks -/
theorem W_bNil {Q : Out → Prop} : W (bNil (x0 :: ρ)) Q = Q (.nx (x0 :: ρ)) := W_some
theorem W_bCons {f g : Ev → Option Out} {Q : Out → Prop} : W (bCons f g (x0 :: ρ)) Q = W (f (x0 :: ρ)) fun o => match o with
    | .nx ρ' => W (g ρ') Q
    | .rt d ρ' => Q (.rt d ρ')
    | .bk ρ' => Q (.bk ρ')
    | .ct ρ' => Q (.ct ρ') := by
  unfold bCons
  rw [W_bind]
  congr 1
  funext o
  cases o <;> simp only [W_some]
theorem W_bBrk {Q : Out → Prop} : W (bBrk (x0 :: ρ)) Q = Q (.bk (x0 :: ρ)) := W_some
theorem W_bCnt {Q : Out → Prop} : W (bCnt (x0 :: ρ)) Q = Q (.ct (x0 :: ρ)) := W_some
theorem W_bExp {f : Ev → Option (D × Ev)} {Q : Out → Prop} : W (bExp f (x0 :: ρ)) Q = W (f (x0 :: ρ)) fun p => Q (.nx p.2) := W_map
theorem W_bRet {f : Ev → Option (D × Ev)} {Q : Out → Prop} : W (bRet f (x0 :: ρ)) Q = W (f (x0 :: ρ)) fun p => Q (.rt p.1 p.2) := W_map
theorem W_bRetN {Q : Out → Prop} : W (bRetN (x0 :: ρ)) Q = Q (.rt .non (x0 :: ρ)) := W_some
theorem W_bIf {c : Ev → Option (Bool × Ev)} {f g : Ev → Option Out} {Q : Out → Prop} : W (bIf c f g (x0 :: ρ)) Q = W (c (x0 :: ρ)) fun p => if p.1 = true then W (f p.2) Q else W (g p.2) Q := by
  unfold bIf
  rw [W_bind]
  congr 1
  funext p
  exact W_ite
theorem W_bAsg {f : Ev → Option (D × Ev)} {g : D → Ev → Option Ev} {Q : Out → Prop} : W (bAsg f g (x0 :: ρ)) Q = W (f (x0 :: ρ)) fun p => W (g p.1 p.2) fun ρ' => Q (.nx ρ') := by
  unfold bAsg
  rw [W_bind]
  congr 1
  funext p
  exact W_map
theorem W_bPar {i j : Nat} {fa : Ev → Option (List Hd × Ev)} {Q : Out → Prop} : W (bPar i j fa (x0 :: ρ)) Q = W (fa (x0 :: ρ)) fun p => W (match tms p.1 with
  | some [d, e] => some (.nx ((p.2.set i d).set j e))
  | _ => none) Q := W_bind
theorem W_bAug {i : Nat} {g : D → D → Option D} {fe : Ev → Option (Hd × Ev)} {Q : Out → Prop} : W (bAug i g fe (x0 :: ρ)) Q = W (fe (x0 :: ρ)) fun p => W (match (x0 :: ρ)[i]? with
  | some .any => none
  | none => none
  | some _ => (g (p.2.getD i .any) (p.1.get p.2)).map fun d => .nx (p.2.set i d)) Q := W_bind
/-! ### expressions -/
theorem W_eC {d : D} {Q : D × Ev → Prop} : W (eC d (x0 :: ρ)) Q = Q (d, (x0 :: ρ)) := W_some
theorem W_eV {i : Nat} {Q : D × Ev → Prop} : W (eV i (x0 :: ρ)) Q = W (match (x0 :: ρ)[i]? with
  | some .any => none
  | some d => if d.frz = true then some (d, (x0 :: ρ)) else some (d.fz, (x0 :: ρ).set i d.fz)
  | none => none) Q := rfl
theorem W_eM {i : Nat} {Q : D × Ev → Prop} : W (eM i (x0 :: ρ)) Q = W (match (x0 :: ρ)[i]? with
  | some .any => none
  | some d => some (d, (x0 :: ρ).set i .any)
  | none => none) Q := rfl
theorem W_hV {i : Nat} {Q : Hd × Ev → Prop} : W (hV i (x0 :: ρ)) Q = W (match (x0 :: ρ)[i]? with
  | some .any => none
  | some _ => some (.sl i, (x0 :: ρ))
  | none => none) Q := rfl
theorem W_eFz {f : Ev → Option (D × Ev)} {Q : D × Ev → Prop} : W (eFz f (x0 :: ρ)) Q = W (f (x0 :: ρ)) fun p => Q (p.1.fz, p.2) := W_map
theorem W_hE {f : Ev → Option (D × Ev)} {Q : Hd × Ev → Prop} : W (hE f (x0 :: ρ)) Q = W (f (x0 :: ρ)) fun p => Q (.tm p.1, p.2) := W_map
theorem W_e1 {g : D → Option D} {fa : Ev → Option (Hd × Ev)} {Q : D × Ev → Prop} : W (e1 g fa (x0 :: ρ)) Q = W (fa (x0 :: ρ)) fun p => W (g (p.1.get p.2)) fun d => Q (d, p.2) := by
  unfold e1
  rw [W_bind]
  congr 1
  funext p
  exact W_map
theorem W_e2 {g : D → D → Option D} {fa fb : Ev → Option (Hd × Ev)} {Q : D × Ev → Prop} : W (e2 g fa fb (x0 :: ρ)) Q = W (fa (x0 :: ρ)) fun p => W (fb p.2) fun q => W (g (p.1.get q.2) (q.1.get q.2)) fun d => Q (d, q.2) := by
  unfold e2
  rw [W_bind]
  congr 1
  funext p
  rw [W_bind]
  congr 1
  funext q
  exact W_map
theorem W_aNil {Q : List Hd × Ev → Prop} : W (aNil (x0 :: ρ)) Q = Q ([], (x0 :: ρ)) := W_some
theorem W_aCons {f : Ev → Option (Hd × Ev)} {g : Ev → Option (List Hd × Ev)} {Q : List Hd × Ev → Prop} : W (aCons f g (x0 :: ρ)) Q = W (f (x0 :: ρ)) fun p => W (g p.2) fun q => Q (p.1 :: q.1, q.2) := by
  unfold aCons
  rw [W_bind]
  congr 1
  funext p
  exact W_map
theorem W_eN {g : List D → Option D} {fa : Ev → Option (List Hd × Ev)} {Q : D × Ev → Prop} : W (eN g fa (x0 :: ρ)) Q = W (fa (x0 :: ρ)) fun p => W (g (p.1.map (Hd.get p.2))) fun d => Q (d, p.2) := by
  unfold eN
  rw [W_bind]
  congr 1
  funext p
  exact W_map
theorem W_eTup {fa : Ev → Option (List Hd × Ev)} {Q : D × Ev → Prop} : W (eTup fa (x0 :: ρ)) Q = W (fa (x0 :: ρ)) fun p => W (tms p.1) fun ds => W (if ds.length ≤ 16777216 then some (D.tup ds, p.2) else none) Q := by
  unfold eTup
  rw [W_bind]
  congr 1
  funext p
  exact W_bind
theorem W_eLst {fa : Ev → Option (List Hd × Ev)} {Q : D × Ev → Prop} : W (eLst fa (x0 :: ρ)) Q = W (fa (x0 :: ρ)) fun p => W (tms p.1) fun ds => W (if ds.length ≤ 16777216 then some (D.lst true ds, p.2) else none) Q := by
  unfold eLst
  rw [W_bind]
  congr 1
  funext p
  exact W_bind
theorem W_eCall {n : Nat} {F : List D → Option (D × List D)} {fa : Ev → Option (List Hd × Ev)} {Q : D × Ev → Prop} : W (eCall n F fa (x0 :: ρ)) Q = W (fa (x0 :: ρ)) fun p => p.1.length = n ∧ W (F (lend p.1 p.2).1) fun r => Q (r.1, unlend p.1 (lend p.1 p.2).1 r.2 (lend p.1 p.2).2) := by
  unfold eCall
  rw [W_bind]
  congr 1
  funext p
  by_cases h : p.1.length = n
  · rw [if_pos h, W_map]; simp [h]
  · rw [if_neg h, W_none]; simp [h]
theorem W_eMut {i : Nat} {g : List D → List D → Option (D × List D)} {fa : Ev → Option (List Hd × Ev)} {Q : D × Ev → Prop} : W (eMut i g fa (x0 :: ρ)) Q = W (match (x0 :: ρ)[i]? with
  | some (.lst _ _) => (fa (x0 :: ρ)).bind fun p => (tms p.1).bind fun ds => match p.2[i]? with
    | some (.lst true xs) => (g xs ds).map fun q => (q.1, p.2.set i (.lst true q.2))
    | _ => none
  | _ => none) Q := rfl
theorem W_eMt {T : String} {g : List D → Option D} {fo : Ev → Option (Hd × Ev)} {fa : Ev → Option (List Hd × Ev)} {Q : D × Ev → Prop} : W (eMt T g fo fa (x0 :: ρ)) Q = W (fo (x0 :: ρ)) fun p => W (if kindD T (p.1.get p.2) = true then (fa p.2).bind fun q => (g (p.1.get q.2 :: q.1.map (Hd.get q.2))).map fun d => (d, q.2) else none) Q := W_bind
theorem W_eIf {c : Ev → Option (Bool × Ev)} {f g : Ev → Option (D × Ev)} {Q : D × Ev → Prop} : W (eIf c f g (x0 :: ρ)) Q = W (c (x0 :: ρ)) fun p => if p.1 = true then W (f p.2) Q else W (g p.2) Q := by
  unfold eIf
  rw [W_bind]
  congr 1
  funext p
  exact W_ite
theorem W_eAn {f g : Ev → Option (D × Ev)} {Q : D × Ev → Prop} : W (eAn f g (x0 :: ρ)) Q = W (f (x0 :: ρ)) fun p => W p.1.tru fun b => if b = true then W (g p.2) Q else Q p := by
  unfold eAn
  rw [W_bind]
  congr 1
  funext p
  rw [W_bind]
  congr 1
  funext b
  rw [W_ite, W_some]
theorem W_eOr {f g : Ev → Option (D × Ev)} {Q : D × Ev → Prop} : W (eOr f g (x0 :: ρ)) Q = W (f (x0 :: ρ)) fun p => W p.1.tru fun b => if b = true then Q p else W (g p.2) Q := by
  unfold eOr
  rw [W_bind]
  congr 1
  funext p
  rw [W_bind]
  congr 1
  funext b
  rw [W_ite, W_some]
theorem W_eNo {f : Ev → Option (D × Ev)} {Q : D × Ev → Prop} : W (eNo f (x0 :: ρ)) Q = W (f (x0 :: ρ)) fun p => W p.1.tru fun b => Q (.bl (!b), p.2) := by
  unfold eNo
  rw [W_bind]
  congr 1
  funext p
  exact W_map
theorem W_eLc {vs : List Nat} {fi : Ev → Option (Src × Ev)} {g : D → Ev → Option Ev} {test : Ev → Option (Bool × Ev)} {elt : Ev → Option (D × Ev)} {Q : D × Ev → Prop} : W (eLc vs fi g test elt (x0 :: ρ)) Q = W (fi (x0 :: ρ)) fun p => W (lrun (cStep vs p.1 g test elt) ([], p.2)) Q := W_bind
theorem W_eJ0 {acc : Str} {Q : D × Ev → Prop} : W (eJ [] acc (x0 :: ρ)) Q = Q (.str acc, (x0 :: ρ)) := W_some
theorem W_eJ1 {f : Ev → Option (D × Ev)} {fs : List (Ev → Option (D × Ev))} {acc : Str} {Q : D × Ev → Prop} : W (eJ (f :: fs) acc (x0 :: ρ)) Q = W (f (x0 :: ρ)) fun p => W (match p.1 with
    | .str y => if (acc ++ y).length ≤ 16777216 then eJ fs (acc ++ y) p.2 else none
    | _ => none) Q := W_bind
/-! ### tests -/
theorem W_tT {f : Ev → Option (Hd × Ev)} {Q : Bool × Ev → Prop} : W (tT f (x0 :: ρ)) Q = W (f (x0 :: ρ)) fun p => W (p.1.get p.2).tru fun b => Q (b, p.2) := by
  unfold tT
  rw [W_bind]
  congr 1
  funext p
  exact W_map
theorem W_tB {f : Ev → Option (D × Ev)} {Q : Bool × Ev → Prop} : W (tB' f (x0 :: ρ)) Q = W (f (x0 :: ρ)) fun p => W (match p.1 with
  | .bl b => some (b, p.2)
  | _ => none) Q := W_bind
theorem W_tNo {f : Ev → Option (Bool × Ev)} {Q : Bool × Ev → Prop} : W (tNo f (x0 :: ρ)) Q = W (f (x0 :: ρ)) fun p => Q (!p.1, p.2) := W_map
theorem W_tAn {f g : Ev → Option (Bool × Ev)} {Q : Bool × Ev → Prop} : W (tAn f g (x0 :: ρ)) Q = W (f (x0 :: ρ)) fun p => if p.1 = true then W (g p.2) Q else Q (false, p.2) := by
  unfold tAn
  rw [W_bind]
  congr 1
  funext p
  rw [W_ite, W_some]
theorem W_tOr {f g : Ev → Option (Bool × Ev)} {Q : Bool × Ev → Prop} : W (tOr' f g (x0 :: ρ)) Q = W (f (x0 :: ρ)) fun p => if p.1 = true then Q (true, p.2) else W (g p.2) Q := by
  unfold tOr'
  rw [W_bind]
  congr 1
  funext p
  rw [W_ite, W_some]
theorem W_tAll {Q : Bool × Ev → Prop} : W (tAll (x0 :: ρ)) Q = Q (true, (x0 :: ρ)) := W_some
/-! ### targets, loops -/
theorem W_gNm {i : Nat} {d : D} {Q : Ev → Prop} : W (gNm i d (x0 :: ρ)) Q = Q ((x0 :: ρ).set i d) := W_some
theorem W_gsNil {Q : Ev → Prop} : W (gsNil [] (x0 :: ρ)) Q = Q (x0 :: ρ) := W_some
theorem W_gsCons {f : D → Ev → Option Ev} {g : List D → Ev → Option Ev} {d : D} {r : List D} {Q : Ev → Prop} : W (gsCons f g (d :: r) (x0 :: ρ)) Q = W (f d (x0 :: ρ)) fun ρ1 => W (g r ρ1) Q := W_bind
theorem W_gTp {n : Nat} {g : List D → Ev → Option Ev} {ds : List D} {Q : Ev → Prop} : W (gTp n g (.tup ds) (x0 :: ρ)) Q = W (if ds.length = n then g ds (x0 :: ρ) else none) Q := rfl
theorem W_gTpL {n : Nat} {g : List D → Ev → Option Ev} {o : Bool} {ds : List D} {Q : Ev → Prop} : W (gTp n g (.lst o ds) (x0 :: ρ)) Q = W (if ds.length = n ∧ D.frzL ds = true then g ds (x0 :: ρ) else none) Q := rfl
theorem W_gIx {j : Nat} {fi : Ev → Option (Hd × Ev)} {d : D} {Q : Ev → Prop} : W (gIx j fi d (x0 :: ρ)) Q = W (match (x0 :: ρ)[j]? with
  | some (.lst _ _) => (fi (x0 :: ρ)).bind fun p => match p.2[j]?, p.1.get p.2 with
    | some (.lst true xs), .int k => (ixN xs.length k).map fun m => p.2.set j (.lst true (xs.set m d))
    | _, _ => none
  | _ => none) Q := rfl
theorem W_bFor {fi : Ev → Option (Src × Ev)} {g : D → Ev → Option Ev} {body : Ev → Option Out} {Q : Out → Prop} : W (bFor fi g body (x0 :: ρ)) Q = W (fi (x0 :: ρ)) fun p => W (lrun (fStep p.1 g body) p.2) Q := W_bind
theorem W_bWhile {c : Ev → Option (Bool × Ev)} {body : Ev → Option Out} {Q : Out → Prop} : W (bWhile c body (x0 :: ρ)) Q = W (lrun (wStep c body) (x0 :: ρ)) Q := rfl
theorem W_iRg1 {fa : Ev → Option (List Hd × Ev)} {Q : Src × Ev → Prop} : W (iRg1 fa (x0 :: ρ)) Q = W (fa (x0 :: ρ)) fun p => W (match p.1.map (Hd.get p.2) with
  | [.int j] => if -(2 ^ 62) ≤ j ∧ j < 2 ^ 62 then some (itR 0 1 j.toNat, p.2) else none
  | _ => none) Q := W_bind
theorem W_iRg2 {fa : Ev → Option (List Hd × Ev)} {Q : Src × Ev → Prop} : W (iRg2 fa (x0 :: ρ)) Q = W (fa (x0 :: ρ)) fun p => W (match p.1.map (Hd.get p.2) with
  | [.int i, .int j] => if -(2 ^ 62) ≤ i ∧ i < 2 ^ 62 ∧ -(2 ^ 62) ≤ j ∧ j < 2 ^ 62 then some (itR i 1 (j - i).toNat, p.2) else none
  | _ => none) Q := W_bind
theorem W_iSq {f : Ev → Option (Hd × Ev)} {Q : Src × Ev → Prop} : W (iSq f (x0 :: ρ)) Q = W (f (x0 :: ρ)) fun p => W (match p.1.get p.2 with
  | .lst _ _ => some (itK isL p.1, p.2)
  | .cst _ => some (itK isL p.1, p.2)
  | .tup _ => some (itK isT p.1, p.2)
  | .str _ => some (itK isS p.1, p.2)
  | _ => none) Q := W_bind
end
/-- a def's reading by its body -/
theorem W_fnD {cs : List Bool} {ns : Nat} {body : Ev → Option Out} {ds : List D} {Q : D × List D → Prop} (hl : ds.length = cs.length) : W (fnD cs ns body ds) Q = W (body (ds ++ List.replicate (ns - cs.length) .any)) fun o => match o with
    | .rt d ρ => Q (d, keepL cs ρ)
    | .nx ρ => Q (.non, keepL cs ρ)
    | _ => False := by
  unfold fnD
  rw [if_pos hl, W_bind]
  congr 1
  funext o
  cases o <;> simp only [W_some, W_none]
theorem of_W {α : Type} {o : Option α} {a : α} (h : W o fun b => b = a) : o = some a := by
  obtain ⟨b, e, rfl⟩ := h
  exact e
/-! ### loops -/
theorem W_lrun {α β : Type} {step : Nat → α → Option (α ⊕ β)} {a : α} {Q : β → Prop} (P : Nat → α → Prop) (μ : Nat → α → Nat) (h0 : P 0 a)
    (hs : ∀ k a, P k a → W (step k a) fun s => match s with
      | .inl b => P (k + 1) b ∧ μ (k + 1) b < μ k a
      | .inr o => Q o) : W (lrun step a) Q := by
  obtain ⟨o, e, q⟩ := lrun_inv P Q μ h0 fun k a p => hs k a p
  exact ⟨o, e, q⟩
/-- for .. in range: what holds before turn k -/
theorem W_range {lo : Int} {n : Nat} {g : D → Ev → Option Ev} {body : Ev → Option Out} {ρ : Ev} {Q : Out → Prop} (P : Nat → Ev → Prop) (h0 : P 0 ρ)
    (hs : ∀ k ρ, k < n → P k ρ → W (g (.int (lo + k)) ρ) fun ρ1 => W (body ρ1) fun o => match o with
      | .nx ρ2 => P (k + 1) ρ2
      | .ct ρ2 => P (k + 1) ρ2
      | .bk ρ2 => Q (.nx ρ2)
      | .rt d ρ2 => Q (.rt d ρ2))
    (hd : ∀ ρ, P n ρ → Q (.nx ρ)) : W (lrun (fStep (itR lo 1 n) g body) ρ) Q := by
  refine W_lrun (fun k ρ => k ≤ n ∧ P k ρ) (fun k _ => n - k) ⟨Nat.zero_le _, h0⟩ ?_
  rintro k ρ ⟨hk, hp⟩
  unfold fStep
  rw [W_bind]
  unfold itR
  by_cases h : k < n
  · rw [if_pos h, W_some, Int.mul_one]
    rw [W_bind]
    refine W_mono (hs k ρ h hp) fun ρ1 h1 => ?_
    rw [W_map]
    refine W_mono h1 fun o ho => ?_
    cases o with
    | nx ρ2 => exact ⟨⟨h, ho⟩, by show n - (k + 1) < n - k; omega⟩
    | ct ρ2 => exact ⟨⟨h, ho⟩, by show n - (k + 1) < n - k; omega⟩
    | bk ρ2 => exact ho
    | rt d ρ2 => exact ho
  · rw [if_neg h, W_some]
    have : k = n := by omega
    subst this
    rw [W_some]
    exact hd ρ hp
/-- for .. in a list that stays -/
theorem W_list {it : Src} {ds : List D} {g : D → Ev → Option Ev} {body : Ev → Option Out} {ρ : Ev} {Q : Out → Prop} (P : Nat → Ev → Prop) (h0 : P 0 ρ)
    (hi : ∀ k ρ, P k ρ → it k ρ = some ds[k]?)
    (hs : ∀ k d ρ, ds[k]? = some d → P k ρ → W (g d ρ) fun ρ1 => W (body ρ1) fun o => match o with
      | .nx ρ2 => P (k + 1) ρ2
      | .ct ρ2 => P (k + 1) ρ2
      | .bk ρ2 => Q (.nx ρ2)
      | .rt d ρ2 => Q (.rt d ρ2))
    (hd : ∀ ρ, P ds.length ρ → Q (.nx ρ)) : W (lrun (fStep it g body) ρ) Q := by
  refine W_lrun (fun k ρ => k ≤ ds.length ∧ P k ρ) (fun k _ => ds.length - k) ⟨Nat.zero_le _, h0⟩ ?_
  rintro k ρ ⟨hk, hp⟩
  unfold fStep
  rw [W_bind, hi k ρ hp, W_some]
  cases e : ds[k]? with
  | some d =>
    have h : k < ds.length := (List.getElem?_eq_some_iff.mp e).1
    show W ((g d ρ).bind _) _
    rw [W_bind]
    refine W_mono (hs k d ρ e hp) fun ρ1 h1 => ?_
    rw [W_map]
    refine W_mono h1 fun o ho => ?_
    cases o with
    | nx ρ2 => exact ⟨⟨h, ho⟩, by show ds.length - (k + 1) < ds.length - k; omega⟩
    | ct ρ2 => exact ⟨⟨h, ho⟩, by show ds.length - (k + 1) < ds.length - k; omega⟩
    | bk ρ2 => exact ho
    | rt d ρ2 => exact ho
  | none =>
    have : k = ds.length := by
      have := List.getElem?_eq_none_iff.mp e
      omega
    subst this
    show W (some _) _
    rw [W_some]
    exact hd ρ hp
/-- while -/
theorem W_while {c : Ev → Option (Bool × Ev)} {body : Ev → Option Out} {ρ : Ev} {Q : Out → Prop} (P : Ev → Prop) (μ : Ev → Nat) (h0 : P ρ)
    (hs : ∀ ρ, P ρ → W (c ρ) fun p => if p.1 = true then W (body p.2) fun o => match o with
      | .nx ρ2 => P ρ2 ∧ μ ρ2 < μ ρ
      | .ct ρ2 => P ρ2 ∧ μ ρ2 < μ ρ
      | .bk ρ2 => Q (.nx ρ2)
      | .rt d ρ2 => Q (.rt d ρ2) else Q (.nx p.2)) : W (lrun (wStep c body) ρ) Q := by
  refine W_lrun (fun _ ρ => P ρ) (fun _ ρ => μ ρ) h0 fun k ρ hp => ?_
  unfold wStep
  rw [W_bind]
  refine W_mono (hs ρ hp) fun p h1 => ?_
  obtain ⟨b, ρ1⟩ := p
  cases b with
  | true =>
    rw [if_pos rfl] at h1 ⊢
    rw [W_map]
    refine W_mono h1 fun o ho => ?_
    cases o <;> exact ho
  | false =>
    rw [if_neg Bool.false_ne_true] at h1 ⊢
    rw [W_some]
    exact h1
/-- a comprehension over a range -/
theorem W_compR {vs : List Nat} {lo : Int} {n : Nat} {g : D → Ev → Option Ev} {test : Ev → Option (Bool × Ev)} {elt : Ev → Option (D × Ev)} {ρ : Ev} {Q : D × Ev → Prop} (P : Nat → List D → Ev → Prop) (h0 : P 0 [] ρ)
    (hs : ∀ k acc ρ, k < n → P k acc ρ → W (g (.int (lo + k)) (wipeD ρ vs)) fun ρ1 => W (test ρ1) fun p => if p.1 = true then W (elt p.2) fun q => acc.length < 16777216 ∧ P (k + 1) (acc ++ [q.1]) (unw ρ vs q.2) else P (k + 1) acc (unw ρ vs p.2))
    (hd : ∀ acc ρ, P n acc ρ → Q (.lst true acc, ρ)) : W (lrun (cStep vs (itR lo 1 n) g test elt) ([], ρ)) Q := by
  refine W_lrun (fun k a => k ≤ n ∧ P k a.1 a.2) (fun k _ => n - k) ⟨Nat.zero_le _, h0⟩ ?_
  rintro k ⟨acc, ρ⟩ ⟨hk, hp⟩
  unfold cStep
  rw [W_bind]
  unfold itR
  by_cases h : k < n
  · rw [if_pos h, W_some, Int.mul_one]
    show W ((g _ _).bind _) _
    rw [W_bind]
    refine W_mono (hs k acc ρ h hp) fun ρ1 h1 => ?_
    rw [W_bind]
    refine W_mono h1 fun p h2 => ?_
    rw [W_ite]
    split
    · rename_i hb
      rw [if_pos hb] at h2
      rw [W_bind]
      refine W_mono h2 fun q h3 => ?_
      rw [if_pos h3.1, W_some]
      exact ⟨⟨h, h3.2⟩, by show n - (k + 1) < n - k; omega⟩
    · rename_i hb
      rw [if_neg hb] at h2
      rw [W_some]
      exact ⟨⟨h, h2⟩, by show n - (k + 1) < n - k; omega⟩
  · rw [if_neg h, W_some]
    have : k = n := by omega
    subst this
    rw [W_some]
    exact hd acc ρ hp
theorem W_compL {vs : List Nat} {it : Src} {ds : List D} {g : D → Ev → Option Ev} {test : Ev → Option (Bool × Ev)} {elt : Ev → Option (D × Ev)} {ρ : Ev} {Q : D × Ev → Prop} (P : Nat → List D → Ev → Prop) (h0 : P 0 [] ρ)
    (hi : ∀ k acc ρ, P k acc ρ → it k ρ = some ds[k]?)
    (hs : ∀ k d acc ρ, ds[k]? = some d → P k acc ρ → W (g d (wipeD ρ vs)) fun ρ1 => W (test ρ1) fun p => if p.1 = true then W (elt p.2) fun q => acc.length < 16777216 ∧ P (k + 1) (acc ++ [q.1]) (unw ρ vs q.2) else P (k + 1) acc (unw ρ vs p.2))
    (hd : ∀ acc ρ, P ds.length acc ρ → Q (.lst true acc, ρ)) : W (lrun (cStep vs it g test elt) ([], ρ)) Q := by
  refine W_lrun (fun k a => k ≤ ds.length ∧ P k a.1 a.2) (fun k _ => ds.length - k) ⟨Nat.zero_le _, h0⟩ ?_
  rintro k ⟨acc, ρ⟩ ⟨hk, hp⟩
  unfold cStep
  rw [W_bind, hi k acc ρ hp, W_some]
  cases e : ds[k]? with
  | some d =>
    have h : k < ds.length := (List.getElem?_eq_some_iff.mp e).1
    show W ((g _ _).bind _) _
    rw [W_bind]
    refine W_mono (hs k d acc ρ e hp) fun ρ1 h1 => ?_
    rw [W_bind]
    refine W_mono h1 fun p h2 => ?_
    rw [W_ite]
    split
    · rename_i hb
      rw [if_pos hb] at h2
      rw [W_bind]
      refine W_mono h2 fun q h3 => ?_
      rw [if_pos h3.1, W_some]
      exact ⟨⟨h, h3.2⟩, by show ds.length - (k + 1) < ds.length - k; omega⟩
    · rename_i hb
      rw [if_neg hb] at h2
      rw [W_some]
      exact ⟨⟨h, h2⟩, by show ds.length - (k + 1) < ds.length - k; omega⟩
  | none =>
    have : k = ds.length := by
      have := List.getElem?_eq_none_iff.mp e
      omega
    subst this
    show W (some _) _
    rw [W_some]
    exact hd acc ρ hp
end Mv
end
section
set_option Elab.async false
set_option linter.all false
set_option maxRecDepth 100000
/-! Operations on data of a known kind. -/
namespace Mv
open PySem PySem.Spec PyProof.Rows L2
/-- the greatest common divisor -/
def gd (a b : Int) : Int := ((Nat.gcd a.natAbs b.natAbs : Nat) : Int)
section
variable {i j k : Int} {x y : Str} {b c : Bool} {xs ys : List D} {o o' : Bool} {d e : D} {n : Nat}
theorem vv_add : gAdd (.int i) (.int j) = some (.int (i + j)) := rfl
theorem vv_addS : gAdd (.str x) (.str y) = if x.length + y.length ≤ 16777216 then some (.str (x ++ y)) else none := rfl
theorem vv_addL : gAdd (.lst o xs) (.lst o' ys) = if D.frzL xs = true ∧ D.frzL ys = true ∧ xs.length + ys.length ≤ 16777216 then some (.lst true (xs ++ ys)) else none := rfl
theorem vv_addT : gAdd (.tup xs) (.tup ys) = if D.frzL xs = true ∧ D.frzL ys = true ∧ xs.length + ys.length ≤ 16777216 then some (.tup (xs ++ ys)) else none := rfl
theorem vv_sub : gSubt (.int i) (.int j) = some (.int (i - j)) := rfl
theorem vv_mul : gMul (.int i) (.int j) = if MulOk i j then some (.int (i * j)) else none := rfl
theorem vv_div : gDiv (.int i) (.int j) = if DivOk j then some (.int (i / j)) else if DivNo j then some (.int (i.fdiv j)) else none := rfl
theorem vv_mod : gMod (.int i) (.int j) = if 0 < j then some (.int (i % j)) else none := rfl
theorem vv_pow : gPow (.int i) (.int j) = if PowOk i j then some (.int (i ^ j.toNat)) else none := rfl
theorem vv_shl : gShl (.int i) (.int j) = if PowOk i j then some (.int (i * 2 ^ j.toNat)) else none := rfl
theorem vv_shr : gShr (.int i) (.int j) = if 0 ≤ j then some (.int (i / 2 ^ j.toNat)) else none := rfl
theorem vv_neg : gNeg (.int i) = some (.int (-i)) := rfl
theorem vv_lt : gLt (.int i) (.int j) = some (.bl (decide (i < j))) := rfl
theorem vv_le : gLe (.int i) (.int j) = some (.bl (decide (i ≤ j))) := rfl
theorem vv_gt : gGt (.int i) (.int j) = some (.bl (decide (j < i))) := rfl
theorem vv_ge : gGe (.int i) (.int j) = some (.bl (decide (j ≤ i))) := rfl
theorem vv_int : gInt [.int i] = some (.int i) := rfl
theorem vv_intS : gInt [.str x] = (PySem.intText? x).bind fun n => if x.length ≤ 640 then some (.int n) else none := rfl
theorem vv_intb : gInt [.bl b] = some (.int (if b then 1 else 0)) := rfl
theorem vv_abs : gAbs [.int i] = some (.int (if i < 0 then -i else i)) := rfl
theorem vv_gcd : gGcd [.int i, .int j] = some (.int (gd i j)) := rfl
theorem vv_max2 : gMax2 [.int i, .int j] = some (.int (if j > i then j else i)) := rfl
theorem vv_min2 : gMin2 [.int i, .int j] = some (.int (if j < i then j else i)) := rfl
theorem vv_lenL : gLen [.lst o xs] = some (.int xs.length) := rfl
theorem vv_lenC : gLen [.cst xs] = some (.int xs.length) := rfl
theorem vv_lenT : gLen [.tup xs] = some (.int xs.length) := rfl
theorem vv_lenS : gLen [.str x] = if x.length ≤ 16777216 then some (.int x.length) else none := rfl
theorem vv_idxL : gIdx (.lst o xs) (.int i) = atF xs i := rfl
theorem vv_idxC : gIdx (.cst xs) (.int i) = atF xs i := rfl
theorem vv_idxT : gIdx (.tup xs) (.int i) = atF xs i := rfl
theorem vv_eqI : gEq (.int i) (.int j) = some (.bl (decide (i = j))) := rfl
theorem vv_eqS : gEq (.str x) (.str y) = some (.bl (decide (x = y))) := rfl
theorem vv_eqB : gEq (.bl b) (.bl c) = some (.bl (decide (b = c))) := rfl
theorem vv_neI : gNe (.int i) (.int j) = some (.bl (!decide (i = j))) := rfl
theorem vv_neS : gNe (.str x) (.str y) = some (.bl (!decide (x = y))) := rfl
theorem vv_eqG (h : sEq d e = none) : gEq d e = if d.dat = true ∧ e.dat = true ∧ SeqAt.shaped d.pd = true ∧ SeqAt.shaped e.pd = true then some (.bl (PyData.eqv d.pd e.pd)) else none := by unfold gEq; rw [h]
theorem vv_neG (h : sEq d e = none) : gNe d e = if d.dat = true ∧ e.dat = true ∧ SeqAt.shaped d.pd = true ∧ SeqAt.shaped e.pd = true then some (.bl (!PyData.eqv d.pd e.pd)) else none := by unfold gNe; rw [h]
theorem vv_list : gList [.lst o xs] = if D.frzL xs = true then some (.lst true xs) else none := rfl
theorem vv_listT : gList [.tup xs] = if D.frzL xs = true then some (.lst true xs) else none := rfl
theorem vv_tuple : gTuple [.lst o xs] = if D.frzL xs = true then some (.tup xs) else none := rfl
theorem vv_tupleT : gTuple [.tup xs] = if D.frzL xs = true then some (.tup xs) else none := rfl
theorem vv_sum : gSum [.lst o xs] = (ints? xs).map fun ns => .int ns.sum := rfl
theorem vv_maxL : gMaxL [.lst o xs] = (ints? xs).bind fun ns => ns.max?.map D.int := rfl
theorem vv_minL : gMinL [.lst o xs] = (ints? xs).bind fun ns => ns.min?.map D.int := rfl
theorem vv_strI : gStrI [.int i] = if i.natAbs < 2 ^ 1900 then some (.str (toString i)) else none := rfl
theorem vv_app : gApp xs [d] = if xs.length < 16777216 then some (.non, xs ++ [d]) else none := rfl
theorem vv_isNN : gIsB false .non .non = some (.bl true) := rfl
theorem vv_isIN : gIsB false (.int i) .non = some (.bl false) := rfl
theorem vv_isSN : gIsB false (.str x) .non = some (.bl false) := rfl
theorem vv_isBN : gIsB false (.bl b) .non = some (.bl false) := rfl
theorem vv_isLN : gIsB false (.lst o xs) .non = some (.bl false) := rfl
theorem vv_isTN : gIsB false (.tup xs) .non = some (.bl false) := rfl
theorem vv_isBB : gIsB false (.bl b) (.bl c) = some (.bl (decide (b = c))) := rfl
theorem vv_isNB : gIsB false .non (.bl c) = some (.bl false) := rfl
theorem vv_isIB : gIsB false (.int i) (.bl c) = some (.bl false) := rfl
theorem vv_isSB : gIsB false (.str x) (.bl c) = some (.bl false) := rfl
theorem vv_isLB : gIsB false (.lst o xs) (.bl c) = some (.bl false) := rfl
theorem vv_isTB : gIsB false (.tup xs) (.bl c) = some (.bl false) := rfl
theorem vv_inNN : gIsB true .non .non = some (.bl false) := rfl
theorem vv_inIN : gIsB true (.int i) .non = some (.bl true) := rfl
theorem vv_inSN : gIsB true (.str x) .non = some (.bl true) := rfl
theorem vv_inBN : gIsB true (.bl b) .non = some (.bl true) := rfl
theorem vv_inLN : gIsB true (.lst o xs) .non = some (.bl true) := rfl
theorem vv_inTN : gIsB true (.tup xs) .non = some (.bl true) := rfl
theorem vv_inBB : gIsB true (.bl b) (.bl c) = some (.bl (!decide (b = c))) := rfl
theorem tru_b : (D.bl b).tru = some b := rfl
theorem tru_i : (D.int i).tru = some (i != 0) := rfl
theorem tru_n : D.non.tru = some false := rfl
theorem tru_l : (D.lst o xs).tru = some (!xs.isEmpty) := rfl
theorem tru_t : (D.tup xs).tru = some (!xs.isEmpty) := rfl
theorem tru_c : (D.cst xs).tru = some (!xs.isEmpty) := rfl
/-! isinstance -/
theorem isiI_int : gIsi [.int i, .ty "int"] = some (.bl true) := rfl
theorem isiI_str : gIsi [.int i, .ty "str"] = some (.bl false) := rfl
theorem isiI_bool : gIsi [.int i, .ty "bool"] = some (.bl false) := rfl
theorem isiI_list : gIsi [.int i, .ty "list"] = some (.bl false) := rfl
theorem isiI_tuple : gIsi [.int i, .ty "tuple"] = some (.bl false) := rfl
theorem isiS_int : gIsi [.str x, .ty "int"] = some (.bl false) := rfl
theorem isiS_str : gIsi [.str x, .ty "str"] = some (.bl true) := rfl
theorem isiS_bool : gIsi [.str x, .ty "bool"] = some (.bl false) := rfl
theorem isiS_list : gIsi [.str x, .ty "list"] = some (.bl false) := rfl
theorem isiS_tuple : gIsi [.str x, .ty "tuple"] = some (.bl false) := rfl
theorem isiB_int : gIsi [.bl b, .ty "int"] = some (.bl true) := rfl
theorem isiB_str : gIsi [.bl b, .ty "str"] = some (.bl false) := rfl
theorem isiB_bool : gIsi [.bl b, .ty "bool"] = some (.bl true) := rfl
theorem isiB_list : gIsi [.bl b, .ty "list"] = some (.bl false) := rfl
theorem isiB_tuple : gIsi [.bl b, .ty "tuple"] = some (.bl false) := rfl
theorem isiL_int : gIsi [.lst o xs, .ty "int"] = some (.bl false) := rfl
theorem isiL_str : gIsi [.lst o xs, .ty "str"] = some (.bl false) := rfl
theorem isiL_bool : gIsi [.lst o xs, .ty "bool"] = some (.bl false) := rfl
theorem isiL_list : gIsi [.lst o xs, .ty "list"] = some (.bl true) := rfl
theorem isiL_tuple : gIsi [.lst o xs, .ty "tuple"] = some (.bl false) := rfl
theorem isiT_int : gIsi [.tup xs, .ty "int"] = some (.bl false) := rfl
theorem isiT_str : gIsi [.tup xs, .ty "str"] = some (.bl false) := rfl
theorem isiT_bool : gIsi [.tup xs, .ty "bool"] = some (.bl false) := rfl
theorem isiT_list : gIsi [.tup xs, .ty "list"] = some (.bl false) := rfl
theorem isiT_tuple : gIsi [.tup xs, .ty "tuple"] = some (.bl true) := rfl
theorem isiN_int : gIsi [.non, .ty "int"] = some (.bl false) := rfl
theorem isiN_str : gIsi [.non, .ty "str"] = some (.bl false) := rfl
theorem isiN_bool : gIsi [.non, .ty "bool"] = some (.bl false) := rfl
theorem isiN_list : gIsi [.non, .ty "list"] = some (.bl false) := rfl
theorem isiN_tuple : gIsi [.non, .ty "tuple"] = some (.bl false) := rfl
/-! places in written lists -/
def okD (d : D) : Option D := if d.frz = true then some d else none
variable {a0 a1 a2 a3 a4 a5 a6 : D}
theorem atF_nat {xs : List D} {n : Nat} : atF xs (n : Int) = (xs[n]?).bind okD := by
  unfold atF atI ixN
  rw [if_pos (by omega)]
  by_cases h : n < xs.length
  · rw [if_pos (by omega)]
    simp only [Option.bind_some, Int.toNat_natCast]
    rfl
  · rw [if_neg (by omega), List.getElem?_eq_none (by omega)]
    rfl
theorem atF0 : atF (a0 :: xs) 0 = okD a0 := atF_nat (n := 0)
theorem atF1 : atF (a0 :: a1 :: xs) 1 = okD a1 := atF_nat (n := 1)
theorem atF2 : atF (a0 :: a1 :: a2 :: xs) 2 = okD a2 := atF_nat (n := 2)
theorem atF3 : atF (a0 :: a1 :: a2 :: a3 :: xs) 3 = okD a3 := atF_nat (n := 3)
theorem atF4 : atF (a0 :: a1 :: a2 :: a3 :: a4 :: xs) 4 = okD a4 := atF_nat (n := 4)
theorem atF5 : atF (a0 :: a1 :: a2 :: a3 :: a4 :: a5 :: xs) 5 = okD a5 := atF_nat (n := 5)
theorem okD_of {d : D} (h : d.frz = true) : okD d = some d := if_pos h
theorem okI : okD (.int i) = some (.int i) := rfl
theorem okB : okD (.bl b) = some (.bl b) := rfl
theorem okS : okD (.str x) = some (.str x) := rfl
theorem okN : okD .non = some .non := rfl
theorem okL : okD (.lst false xs) = some (.lst false xs) := rfl
theorem okT (h : D.frzL xs = true) : okD (.tup xs) = some (.tup xs) := if_pos h
theorem ix0 {n : Nat} : ixN (n + 1) 0 = some 0 := by unfold ixN; rw [if_pos (by omega), if_pos (by omega)]; rfl
theorem ix1 {n : Nat} : ixN (n + 2) 1 = some 1 := by unfold ixN; rw [if_pos (by omega), if_pos (by omega)]; rfl
theorem ix2 {n : Nat} : ixN (n + 3) 2 = some 2 := by unfold ixN; rw [if_pos (by omega), if_pos (by omega)]; rfl
theorem ix_nat {n m : Nat} (h : m < n) : ixN n (m : Int) = some m := by unfold ixN; rw [if_pos (by omega), if_pos (by omega)]; simp
end
theorem frzL_int : ∀ ns : List Int, D.frzL (ns.map D.int) = true
  | [] => rfl
  | n :: r => by show (true && _) = true; rw [Bool.true_and]; exact frzL_int r
theorem fzL_int : ∀ ns : List Int, D.fzL (ns.map D.int) = ns.map D.int
  | [] => rfl
  | n :: r => by show D.int n :: D.fzL (r.map D.int) = _; rw [fzL_int r]; rfl
theorem frzL_of {xs : List D} (h : ∀ d ∈ xs, d.frz = true) : D.frzL xs = true := by
  rw [D.frzL_all]
  exact List.all_eq_true.mpr h
theorem intsD_map : ∀ ns : List Int, ints? (ns.map D.int) = some ns
  | [] => rfl
  | n :: r => by show (ints? (r.map D.int)).map _ = _; rw [intsD_map r]; rfl
theorem MulOk.left {i j : Int} (h : i.natAbs < 2 ^ 64) : MulOk i j := .inl h
theorem MulOk.right {i j : Int} (h : j.natAbs < 2 ^ 64) : MulOk i j := .inr (.inl h)
theorem W_ok {α : Type} {c : Prop} [Decidable c] {a : α} {o : Option α} {Q : α → Prop} (h : c) : W (if c then some a else o) Q = Q a := by rw [if_pos h, W_some]
theorem W_no {α : Type} {c : Prop} [Decidable c] {a o : Option α} {Q : α → Prop} (h : ¬ c) : W (if c then a else o) Q = W o Q := by rw [if_neg h]
theorem ite_b {c : Prop} [Decidable c] {A B : Prop} : (if decide c = true then A else B) = if c then A else B := by
  by_cases h : c <;> simp [h]
end Mv
end
section
set_option Elab.async false
set_option linter.all false
set_option maxRecDepth 100000
set_option exponentiation.threshold 5000
/-! Numbers as text. -/
namespace Mv
open PySem PySem.Spec PyProof.Rows L2 NumText TL
theorem tl_int (i : Int) : tl (Str.ofString (toString i)) = if i < 0 then 45 :: numL i.natAbs else numL i.natAbs := by
  cases i with
  | ofNat n =>
    rw [if_neg (by have : (0 : Int) ≤ Int.ofNat n := Int.natCast_nonneg n; omega)]
    exact tl_num n
  | negSucc n =>
    rw [if_pos (Int.negSucc_lt_zero n)]
    have e : toString (Int.negSucc n) = "-" ++ Nat.repr (n + 1) := rfl
    rw [e, tl_ofString, String.toList_append, List.map_append]
    have e3 := tl_num (n + 1)
    have e2 : toString (((n + 1 : Nat)) : Int) = Nat.repr (n + 1) := rfl
    rw [e2, tl_ofString] at e3
    rw [e3]
    rfl
theorem text_signs (i : Int) : ∀ c ∈ tl (Str.ofString (toString i)), c = 45 ∨ (48 ≤ c ∧ c ≤ 57) := by
  intro c hc
  rw [tl_int] at hc
  split at hc
  · rcases List.mem_cons.mp hc with e | h
    · exact .inl e
    · exact .inr (numL_digits _ c h)
  · exact .inr (numL_digits _ c hc)
theorem text_len {i : Int} {k : Nat} (hk : 0 < k) (h : i.natAbs < 10 ^ k) : (Str.ofString (toString i)).length ≤ k + 1 := by
  rw [len_tl, tl_int]
  have := numL_len hk h
  split
  · rw [List.length_cons]; omega
  · omega
theorem text_len64 {i : Int} (h : i.natAbs < 2 ^ 64) : (Str.ofString (toString i)).length ≤ 21 := text_len (k := 20) (by decide) (by omega)
theorem int_text {i : Int} (h : i.natAbs < 2 ^ 64) : intText? (Str.ofString (toString i)) = some i := by
  have hl := text_len64 h
  by_cases hi : i < 0
  · have e := tl_int i
    rw [if_pos hi] at e
    have := intText_neg (x := Str.ofString (toString i)) e (numL_digits _) (numL_ne _) (by omega)
    rw [numL_val] at this
    rw [this]
    congr 1
    omega
  · obtain ⟨n, rfl⟩ := Int.eq_ofNat_of_zero_le (a := i) (by omega)
    exact int_num (by have e := len_tl (Str.ofString (toString (n : Int))); rw [tl_num] at e; omega)
theorem repr_len {x : Str} (h : ∀ c ∈ tl x, c < 16 ^ 8) (h2 : x.length ≤ 1000000) : (reprText x).length ≤ 16777216 := by
  have := StrLaws.reprText_len x h
  omega
theorem repr_int {i : Int} (h : i.natAbs < 2 ^ 64) : (reprText (Str.ofString (toString i))).length ≤ 16777216 :=
  repr_len (fun c hc => by have := text_signs i c hc; omega) (by have := text_len64 h; omega)
section
variable {i j : Int} {x y : Str}
theorem vv_fmtI : gFmt (.int i) = if i.natAbs < 2 ^ 1900 then some (.str (toString i)) else none := rfl
theorem vv_fmtS : gFmt (.str x) = if x.length ≤ 16777216 then some (.str x) else none := rfl
theorem vv_reprI : gRepr [.int i] = if i.natAbs < 2 ^ 1900 then some (.str (toString i)) else none := rfl
theorem vv_reprS : gRepr [.str x] = if (reprText x).length ≤ 16777216 then some (.str (reprText x)) else none := rfl
end
theorem ite_nb {c : Prop} [Decidable c] {A B : Prop} : (if (!decide c) = true then A else B) = if c then B else A := by
  by_cases h : c <;> simp [h]
/-! ### comprehensions over numbers -/
def ilist (lo : Int) (n : Nat) : List Int := (List.range n).map fun k : Nat => lo + (k : Int)
theorem ilist_succ {lo : Int} {n : Nat} : ilist lo (n + 1) = ilist lo n ++ [lo + (n : Int)] := by
  unfold ilist
  rw [List.range_succ, List.map_append]
  rfl
theorem ilist_len {lo : Int} {n : Nat} : (ilist lo n).length = n := by unfold ilist; rw [List.length_map, List.length_range]
theorem mem_ilist {lo : Int} {n : Nat} {x : Int} : x ∈ ilist lo n ↔ lo ≤ x ∧ x < lo + n := by
  unfold ilist
  rw [List.mem_map]
  constructor
  · rintro ⟨k, hk, rfl⟩
    have := List.mem_range.mp hk
    omega
  · intro ⟨h1, h2⟩
    exact ⟨(x - lo).toNat, List.mem_range.mpr (by omega), by omega⟩
theorem W_compI {vs : List Nat} {lo : Int} {n : Nat} {g : D → Ev → Option Ev} {test : Ev → Option (Bool × Ev)} {elt : Ev → Option (D × Ev)} {ρ : Ev} {Q : D × Ev → Prop} (p : Int → Bool) (f : Int → D) (hn : n < 16777216)
    (hs : ∀ i, lo ≤ i → i < lo + n → W (g (.int i) (wipeD ρ vs)) fun ρ1 => W (test ρ1) fun q => q.1 = p i ∧ (if p i = true then W (elt q.2) fun r => r.1 = f i ∧ unw ρ vs r.2 = ρ else unw ρ vs q.2 = ρ))
    (hd : Q (.lst true (((ilist lo n).filter p).map f), ρ)) : W (lrun (cStep vs (itR lo 1 n) g test elt) ([], ρ)) Q := by
  refine W_compR (fun k acc ρ' => ρ' = ρ ∧ acc = ((ilist lo k).filter p).map f) ⟨rfl, rfl⟩ ?_ ?_
  · rintro k acc ρ' hk ⟨rfl, rfl⟩
    refine W_mono (hs (lo + k) (by omega) (by omega)) fun ρ1 h1 => W_mono h1 fun q ⟨h2, h3⟩ => ?_
    rw [h2]
    have hl : (((ilist lo k).filter p).map f).length ≤ k := by
      rw [List.length_map]
      exact Nat.le_trans (List.length_filter_le _ _) (by rw [ilist_len]; exact Nat.le_refl _)
    cases hp : p (lo + k)
    · rw [hp] at h3
      rw [if_neg (by decide)] at h3
      rw [if_neg (by decide)]
      refine ⟨h3, ?_⟩
      rw [ilist_succ, List.filter_append, List.filter_cons_of_neg (by rw [hp]; decide)]
      simp
    · rw [hp, if_pos rfl] at h3
      rw [if_pos rfl]
      refine W_mono h3 fun r ⟨h4, h5⟩ => ⟨by omega, h5, ?_⟩
      rw [ilist_succ, List.filter_append, List.filter_cons_of_pos hp, List.map_append, h4]
      rfl
  · rintro acc ρ' ⟨rfl, rfl⟩
    exact hd
theorem filter_first {lo : Int} {p : Int → Bool} {t : Int} : ∀ {n : Nat}, lo ≤ t → t < lo + n → p t = true → (∀ s, lo ≤ s → s < t → p s = false) → ∃ r, (ilist lo n).filter p = t :: r
  | 0, h1, h2, _, _ => by omega
  | n + 1, h1, h2, h3, h4 => by
    rw [ilist_succ, List.filter_append]
    by_cases h : t < lo + n
    · obtain ⟨r, e⟩ := filter_first h1 h h3 h4
      rw [e]
      exact ⟨_, rfl⟩
    · have e : lo + (n : Int) = t := by omega
      have e2 : (ilist lo n).filter p = [] := by
        rw [List.filter_eq_nil_iff]
        intro a ha
        have := mem_ilist.mp ha
        rw [h4 a this.1 (by omega)]
        decide
      rw [e2, e, List.filter_cons_of_pos h3]
      exact ⟨_, rfl⟩
theorem filter_none {lo : Int} {p : Int → Bool} {n : Nat} (h : ∀ s, lo ≤ s → s < lo + n → p s = false) : (ilist lo n).filter p = [] := by
  rw [List.filter_eq_nil_iff]
  intro a ha
  have := mem_ilist.mp ha
  rw [h a this.1 this.2]
  decide
theorem max_of {l : List Int} {a : Int} (h : a ∈ l) (k : ∀ b ∈ l, b ≤ a) : l.max? = some a := List.max?_eq_some_iff.mpr ⟨h, k⟩
theorem min_of {l : List Int} {a : Int} (h : a ∈ l) (k : ∀ b ∈ l, a ≤ b) : l.min? = some a := List.min?_eq_some_iff.mpr ⟨h, k⟩
/-! ### == of data -/
def D.ok (n : Nat) (d : D) : Prop := d.dat = true ∧ d.pd.canLay0 = true ∧ d.pd.depth ≤ n
theorem ok_mono {n m : Nat} {d : D} (h : D.ok n d) (k : n ≤ m) : D.ok m d := ⟨h.1, h.2.1, Nat.le_trans h.2.2 k⟩
theorem ok_int {n : Nat} {i : Int} : D.ok n (.int i) := ⟨rfl, by simp [D.pd, PyData.canLay0], by simp [D.pd, PyData.depth]⟩
theorem ok_bl {n : Nat} {i : Bool} : D.ok n (.bl i) := ⟨rfl, by simp [D.pd, PyData.canLay0], by simp [D.pd, PyData.depth]⟩
theorem ok_non {n : Nat} : D.ok n .non := ⟨rfl, by simp [D.pd, PyData.canLay0], by simp [D.pd, PyData.depth]⟩
theorem okL_aux {n : Nat} : ∀ xs : List D, (∀ d ∈ xs, D.ok n d) → D.datL xs = true ∧ PyData.canLayAll0 (D.pdL xs) = true ∧ PyData.depthAll (D.pdL xs) ≤ n
  | [], _ => ⟨rfl, by simp [D.pdL, PyData.canLayAll0], by simp [D.pdL, PyData.depthAll]⟩
  | d :: xs, h => by
    obtain ⟨h1, h2, h3⟩ := h d (List.mem_cons_self ..)
    obtain ⟨k1, k2, k3⟩ := okL_aux xs fun e he => h e (List.mem_cons_of_mem _ he)
    refine ⟨by rw [D.datL, h1, k1]; rfl, by rw [D.pdL, PyData.canLayAll0, h2, k2]; rfl, by rw [D.pdL, PyData.depthAll]; exact Nat.max_le.mpr ⟨h3, k3⟩⟩
theorem ok_lst {n : Nat} {o : Bool} {xs : List D} (h : ∀ d ∈ xs, D.ok n d) : D.ok (n + 1) (.lst o xs) := by
  obtain ⟨k1, k2, k3⟩ := okL_aux xs h
  exact ⟨by rw [D.dat]; exact k1, by rw [D.pd, PyData.canLay0]; exact k2, by rw [D.pd, PyData.depth]; omega⟩
theorem ok_tup {n : Nat} {xs : List D} (h : ∀ d ∈ xs, D.ok n d) : D.ok (n + 1) (.tup xs) := by
  obtain ⟨k1, k2, k3⟩ := okL_aux xs h
  exact ⟨by rw [D.dat]; exact k1, by rw [D.pd, PyData.canLay0]; exact k2, by rw [D.pd, PyData.depth]; omega⟩
theorem ok_ints {n : Nat} {o : Bool} {ns : List Int} : D.ok (n + 1) (.lst o (ns.map D.int)) := ok_lst fun d hd => by
  obtain ⟨i, _, rfl⟩ := List.mem_map.mp hd
  exact ok_int
theorem ok_shaped {d : D} (h : D.ok 64 d) : SeqAt.shaped d.pd = true := by
  unfold SeqAt.shaped
  rw [h.2.1, decide_eq_true h.2.2]
  rfl
theorem gEq_data {d e : D} (hs : sEq d e = none) (h1 : D.ok 64 d) (h2 : D.ok 64 e) : gEq d e = some (.bl (PyData.eqv d.pd e.pd)) := by
  rw [vv_eqG hs, if_pos ⟨h1.1, h2.1, ok_shaped h1, ok_shaped h2⟩]
theorem gNe_data {d e : D} (hs : sEq d e = none) (h1 : D.ok 64 d) (h2 : D.ok 64 e) : gNe d e = some (.bl (!PyData.eqv d.pd e.pd)) := by
  rw [vv_neG hs, if_pos ⟨h1.1, h2.1, ok_shaped h1, ok_shaped h2⟩]
theorem gEq_same {o o' : Bool} {xs : List D} (h : D.ok 64 (.lst o xs)) : gEq (.lst o xs) (.lst o' xs) = some (.bl true) := by
  have h' : D.ok 64 (.lst o' xs) := by obtain ⟨a, b, c⟩ := h; rw [D.dat] at a; rw [D.pd] at b c; exact ⟨by rw [D.dat]; exact a, by rw [D.pd]; exact b, by rw [D.pd]; exact c⟩
  rw [gEq_data rfl h h']
  show some (D.bl (PyData.eqv (D.pd (.lst o xs)) (D.pd (.lst o' xs)))) = _
  rw [show D.pd (.lst o' xs) = D.pd (.lst o xs) by rw [D.pd, D.pd], SeqAt.eqv_refl _ h.2.1]
theorem gNe_same {o o' : Bool} {xs : List D} (h : D.ok 64 (.lst o xs)) : gNe (.lst o xs) (.lst o' xs) = some (.bl false) := by
  have h' : D.ok 64 (.lst o' xs) := by obtain ⟨a, b, c⟩ := h; rw [D.dat] at a; rw [D.pd] at b c; exact ⟨by rw [D.dat]; exact a, by rw [D.pd]; exact b, by rw [D.pd]; exact c⟩
  rw [gNe_data rfl h h']
  show some (D.bl (!PyData.eqv (D.pd (.lst o xs)) (D.pd (.lst o' xs)))) = _
  rw [show D.pd (.lst o' xs) = D.pd (.lst o xs) by rw [D.pd, D.pd], SeqAt.eqv_refl _ h.2.1]
  rfl
theorem gEq_nil {o o' : Bool} {xs : List D} (h : D.ok 64 (.lst o xs)) : gEq (.lst o xs) (.lst o' []) = some (.bl xs.isEmpty) := by
  rw [gEq_data rfl h (ok_lst (n := 63) (fun _ k => absurd k List.not_mem_nil))]
  cases xs with
  | nil => simp [D.pd, D.pdL, PyData.eqv, PyData.eqvAll]
  | cons d xs => simp [D.pd, D.pdL, PyData.eqv, PyData.eqvAll]
theorem gNe_nil {o o' : Bool} {xs : List D} (h : D.ok 64 (.lst o xs)) : gNe (.lst o xs) (.lst o' []) = some (.bl (!xs.isEmpty)) := by
  rw [gNe_data rfl h (ok_lst (n := 63) (fun _ k => absurd k List.not_mem_nil))]
  cases xs with
  | nil => simp [D.pd, D.pdL, PyData.eqv, PyData.eqvAll]
  | cons d xs => simp [D.pd, D.pdL, PyData.eqv, PyData.eqvAll]
/-! ### loops over a list that stays -/
theorem frz_at {xs : List D} {k : Nat} {d : D} (h : D.frzL xs = true) (e : xs[k]? = some d) : d.frz = true := by
  rw [D.frzL_all] at h
  exact List.all_eq_true.mp h d (List.mem_of_getElem? e)
theorem itD_at {xs : List D} (hz : D.frzL xs = true) (k : Nat) : (match xs[k]? with
    | some c => if c.frz = true then some (some c) else none
    | none => some none) = some xs[k]? := by
  cases e : xs[k]? with
  | none => rfl
  | some d => exact if_pos (frz_at hz e)
theorem itK_tup {ρ : Ev} {i : Nat} {xs : List D} (h : ρ.getD i .any = .tup xs) (hz : D.frzL xs = true) (k : Nat) : itK isT (.sl i) k ρ = some xs[k]? := by
  unfold itK
  show (if isT (ρ.getD i .any) = true then itD (ρ.getD i .any) k else none) = _
  rw [h, if_pos (show isT (.tup xs) = true from rfl)]
  exact itD_at hz k
theorem itK_tm {ρ : Ev} {o : Bool} {xs : List D} (hz : D.frzL xs = true) (k : Nat) : itK isL (.tm (.lst o xs)) k ρ = some xs[k]? := by
  unfold itK
  show (if isL (.lst o xs) = true then itD (.lst o xs) k else none) = _
  rw [if_pos (show isL (.lst o xs) = true from rfl)]
  exact itD_at hz k
theorem itK_lst {ρ : Ev} {i : Nat} {o : Bool} {xs : List D} (h : ρ.getD i .any = .lst o xs) (hz : D.frzL xs = true) (k : Nat) : itK isL (.sl i) k ρ = some xs[k]? := by
  unfold itK
  show (if isL (ρ.getD i .any) = true then itD (ρ.getD i .any) k else none) = _
  rw [h, if_pos (show isL (.lst o xs) = true from rfl)]
  exact itD_at hz k
theorem itK_tmT {ρ : Ev} {xs : List D} (hz : D.frzL xs = true) (k : Nat) : itK isT (.tm (.tup xs)) k ρ = some xs[k]? := by
  unfold itK
  show (if isT (.tup xs) = true then itD (.tup xs) k else none) = _
  rw [if_pos (show isT (.tup xs) = true from rfl)]
  exact itD_at hz k
end Mv
end
section
set_option Elab.async false
set_option linter.all false
set_option maxRecDepth 100000
/-! Reckoning: slices, enumerate, zip, reversed, range of three, chains, methods. -/
namespace Mv
open PySem PySem.Spec PyProof.Rows L2
section
variable {x0 : D} {ρ : Ev}
theorem W_pN {Q : Option Int × Ev → Prop} : W (pN (x0 :: ρ)) Q = Q (none, x0 :: ρ) := W_some
theorem W_pS {f : Ev → Option (Hd × Ev)} {Q : Option Int × Ev → Prop} : W (pS f (x0 :: ρ)) Q = W (f (x0 :: ρ)) fun p => W (match p.1.get p.2 with
  | .int i => some (some i, p.2)
  | _ => none) Q := W_bind
theorem W_eSl {fe : Ev → Option (Hd × Ev)} {fl fh : Ev → Option (Option Int × Ev)} {Q : D × Ev → Prop} : W (eSl fe fl fh (x0 :: ρ)) Q = W (fe (x0 :: ρ)) fun p => W (fl p.2) fun q => W (fh q.2) fun r => W (gSl (p.1.get r.2) q.1 r.1) fun d => Q (d, r.2) := by
  unfold eSl
  rw [W_bind]
  congr 1
  funext p
  rw [W_bind]
  congr 1
  funext q
  rw [W_bind]
  congr 1
  funext r
  rw [W_map]
theorem W_iEn {fa : Ev → Option (List Hd × Ev)} {Q : Src × Ev → Prop} : W (iEn fa (x0 :: ρ)) Q = W (fa (x0 :: ρ)) fun p => W (match p.1 with
  | [h] => if isL (h.get p.2) = true then some (itE h, p.2) else none
  | _ => none) Q := W_bind
theorem W_iZp {fa : Ev → Option (List Hd × Ev)} {Q : Src × Ev → Prop} : W (iZp fa (x0 :: ρ)) Q = W (fa (x0 :: ρ)) fun p => W (match p.1 with
  | [h, h'] => if isL (h.get p.2) = true ∧ isL (h'.get p.2) = true then some (itZ h h', p.2) else none
  | _ => none) Q := W_bind
theorem W_iRv {fa : Ev → Option (List Hd × Ev)} {Q : Src × Ev → Prop} : W (iRv fa (x0 :: ρ)) Q = W (fa (x0 :: ρ)) fun p => W (match p.1 with
  | [h] => if isL (h.get p.2) = true then some (itV (lenL (h.get p.2)) h, p.2) else none
  | _ => none) Q := W_bind
theorem W_iRg3 {fa : Ev → Option (List Hd × Ev)} {Q : Src × Ev → Prop} : W (iRg3 fa (x0 :: ρ)) Q = W (fa (x0 :: ρ)) fun p => W (match p.1.map (Hd.get p.2) with
  | [.int i, .int j, .int c] => if c ≠ 0 ∧ c.natAbs < 1073741824 ∧ Builtin.Range.small i j c = true then some (itR i c (Builtin.Range.rangeSize i j c).toNat, p.2) else none
  | _ => none) Q := W_bind
theorem W_iRgV {f : Ev → Option (Hd × Ev)} {Q : Src × Ev → Prop} : W (iRgV f (x0 :: ρ)) Q = W (f (x0 :: ρ)) fun p => W (match p.1.get p.2 with
  | .rng lo hi => if -(2 ^ 62) ≤ lo ∧ lo < 2 ^ 62 ∧ -(2 ^ 62) ≤ hi ∧ hi < 2 ^ 62 then some (itR lo 1 (hi - lo).toNat, p.2) else none
  | _ => none) Q := W_bind
def chIf (g' : D → D → Option D) (fc : Ev → Option (Hd × Ev)) (q : Hd × Ev) (d : D) : Option (D × Ev) := match d with
  | .bl b => if b = true then (fc q.2).bind fun r => (g' (q.1.get r.2) (r.1.get r.2)).map fun d => (d, r.2) else some (.bl false, q.2)
  | _ => none
theorem W_chIf {g' : D → D → Option D} {fc : Ev → Option (Hd × Ev)} {q : Hd × Ev} {b : Bool} {Q : D × Ev → Prop} : W (chIf g' fc q (.bl b)) Q = if b = true then W (fc q.2) fun r => W (g' (q.1.get r.2) (r.1.get r.2)) fun d => Q (d, r.2) else Q (.bl false, q.2) := by
  unfold chIf
  cases b with
  | true =>
    show W ((fc q.2).bind _) Q = W (fc q.2) _
    rw [W_bind]
    congr 1
    funext r
    rw [W_map]
  | false => exact W_some
theorem W_eCh {g g' : D → D → Option D} {fa fb fc : Ev → Option (Hd × Ev)} {Q : D × Ev → Prop} : W (eCh g g' fa fb fc (x0 :: ρ)) Q = W (fa (x0 :: ρ)) fun p => W (fb p.2) fun q => W (g (p.1.get q.2) (q.1.get q.2)) fun d => W (chIf g' fc q d) Q := by
  unfold eCh
  rw [W_bind]
  congr 1
  funext p
  rw [W_bind]
  congr 1
  funext q
  rw [W_bind]
  rfl
end
section
variable {x : Str} {xs ys : List D} {o o' : Bool} {i j k : Int} {lo hi : Option Int}
theorem vv_slL : gSl (.lst o xs) lo hi = if D.frzL xs = true then some (.lst true (cutD xs lo hi)) else none := rfl
theorem vv_slS : gSl (.str x) lo hi = if x.length ≤ 16777216 then some (.str (cutS x lo hi)) else none := rfl
theorem vv_slT : gSl (.tup xs) lo hi = if D.frzL xs = true ∧ ¬ (HT.sIx xs.length 0 lo = 0 ∧ HT.sIx xs.length xs.length hi = xs.length) then some (.tup (cutD xs lo hi)) else none := rfl
theorem vv_index : gIndex [.lst o xs, .int k] = (ints? xs).bind fun ns => if k ∈ ns then some (.int (ns.idxOf k : Nat)) else none := rfl
theorem vv_count : gCount [.lst o xs, .int k] = (ints? xs).map fun ns => .int (ns.count k : Nat) := rfl
theorem isL_l : isL (.lst o xs) = true := rfl
theorem isL_c : isL (.cst xs) = true := rfl
theorem lenL_l : lenL (.lst o xs) = xs.length := rfl
theorem lenL_c : lenL (.cst xs) = xs.length := rfl
theorem vv_range : gRange [.int i, .int j] = some (.rng i j) := rfl
theorem kindL : kindD "list" (.lst o xs) = true := rfl
/-- the places that are walked: those of a list that stays -/
theorem itE_at {h : Hd} {ρ : Ev} {xs : List D} (hk : ∀ k, itK isL h k ρ = some xs[k]?) (k : Nat) : itE h k ρ = some ((xs.mapIdx fun k c => D.tup [.int (k : Nat), c])[k]?) := by
  unfold itE
  rw [hk k, List.getElem?_mapIdx]
  rfl
theorem itZ_at {h h' : Hd} {ρ : Ev} {xs ys : List D} (hx : ∀ k, itK isL h k ρ = some xs[k]?) (hy : ∀ k, itK isL h' k ρ = some ys[k]?) (k : Nat) : itZ h h' k ρ = some ((List.zipWith (fun c c' => D.tup [c, c']) xs ys)[k]?) := by
  unfold itZ
  rw [hx k, hy k, List.getElem?_zipWith]
  show some _ = some _
  congr 1
  cases xs[k]? <;> cases ys[k]? <;> rfl
end
end Mv
end
section
set_option Elab.async false
set_option linter.all false
set_option maxRecDepth 100000
set_option maxHeartbeats 4000000
namespace Mv
open PySem
local macro_rules | `(tactic| walk_at "ev") => `(tactic| try simp only [↓W_bCons, ↓W_bNil, ↓W_bBrk, ↓W_bCnt, ↓W_bExp, ↓W_bRet, ↓W_bRetN, ↓W_bIf, ↓W_bAsg, ↓W_bPar, ↓W_bAug, ↓W_eC, ↓W_eV, ↓W_eM, ↓W_hV, ↓W_hE, ↓W_eFz, ↓W_e1, ↓W_e2, ↓W_aNil, ↓W_aCons, ↓W_eN, ↓W_eTup, ↓W_eLst, ↓W_eCall, ↓W_eMut, ↓W_eMt, ↓W_eIf, ↓W_eAn, ↓W_eOr, ↓W_eNo, ↓W_eJ0, ↓W_eJ1, ↓W_tT, ↓W_tB, ↓W_tNo, ↓W_tAn, ↓W_tOr, ↓W_tAll, ↓W_gNm, ↓W_gsNil, ↓W_gsCons, ↓W_gTp, ↓W_gIx, ↓W_bFor, ↓W_bWhile, ↓W_iRg1, ↓W_iRg2, ↓W_iSq, ↓W_eLc, ↓W_bind, ↓W_map, ↓W_some, ↓W_none,
  Hd.get, List.getElem?_cons_zero, List.getElem?_cons_succ, List.getD_cons_zero, List.getD_cons_succ, List.set_cons_zero, List.set_cons_succ, List.length_cons, List.length_nil, List.map_cons, List.map_nil, List.replicate, List.cons_append, List.nil_append, Nat.reduceAdd, Nat.reduceSub, Nat.reduceLeDiff, Nat.zero_add,
  D.frz, D.frzL, D.fz, D.fzL, tru_b, tru_i, tru_n, tru_l, tru_t, tru_c, tms, lend, unlend, keepL, Option.map_some, Option.bind_some, Bool.and_true, Bool.true_and, Bool.not_true, Bool.not_false, ↓reduceIte, if_true, if_false, Bool.false_eq_true, true_and, and_true, ite_b,
  vv_add, vv_sub, vv_mul, vv_div, vv_mod, vv_pow, vv_shl, vv_shr, vv_neg, vv_lt, vv_le, vv_gt, vv_ge, vv_int, vv_intS, vv_intb, vv_abs, vv_gcd, vv_max2, vv_min2, vv_lenL, vv_lenC, vv_lenT, vv_idxL, vv_idxC, vv_idxT, vv_eqI, vv_eqB, vv_neI, vv_list, vv_listT, vv_tuple, vv_tupleT, vv_sum, vv_maxL, vv_minL, vv_strI, vv_app, vv_isNN, vv_isIN, vv_isSN, vv_isBN, vv_isLN, vv_isTN, vv_isBB, vv_isNB, vv_isIB, vv_isSB, vv_isLB, vv_isTB, vv_inNN, vv_inIN, vv_inSN, vv_inBN, vv_inLN, vv_inTN, vv_inBB, atF0, atF1, atF2, atF3, atF4, atF5, okI, okB, okS, okN, okL, ix0, ix1, ix2, frzL_int, fzL_int, intsD_map, isiI_int, isiI_str, isiI_bool, isiI_list, isiI_tuple, isiS_int, isiS_str, isiS_bool, isiS_list, isiS_tuple, isiB_int, isiB_str, isiB_bool, isiB_list, isiB_tuple, isiL_int, isiL_str, isiL_bool, isiL_list, isiL_tuple, isiT_int, isiT_str, isiT_bool, isiT_list, isiT_tuple, isiN_int, isiN_str, isiN_bool, isiN_list, isiN_tuple])
namespace PreA
noncomputable def d_law_cell : Ev → Option Out := bCons (bIf (tB' (e2 gLt (hV 1) (hE (eN gLen (aCons (hV 0) aNil))))) (bRet (e2 gIdx (hV 0) (hV 1))) (bNil)) (bRet (eC (.int 0)))
noncomputable def F_law_cell : List D → Option (D × List D) := fnD [true, true] 2 d_law_cell
noncomputable def d_law_digits : Ev → Option Out := bCons (bAsg (eLst (aNil)) (gNm 3)) (bCons (bFor (iRg2 (aCons (hV 1) (aCons (hV 2) aNil))) (gNm 4) (bCons (bAsg (eCall 2 F_law_cell (aCons (hV 0) (aCons (hV 4) aNil))) (gNm 5)) (bCons (bIf (tB' (e2 gLt (hV 5) (hE (eC (.int 0))))) (bAsg (e2 gSubt (hE (eC (.int 1))) (hE (e2 gMul (hE (eC (.int 2))) (hV 5)))) (gNm 5)) (bNil)) (bIf (tB' (e2 gGe (hV 5) (hE (e2 gPow (hE (eC (.int 10))) (hE (eC (.int 18))))))) (bFor (iRg1 (aCons (hE (eC (.int 60))) aNil)) (gNm 6) (bIf (tB' (e2 gGt (hV 5) (hE (eC (.int 0))))) (bCons (bExp (eMut 3 gApp (aCons (hE (e2 gMod (hE (eN gInt (aCons (hV 5) aNil))) (hE (eC (.int 1000))))) aNil))) (bAsg (e2 gDiv (hV 5) (hE (eC (.int 1000)))) (gNm 5))) (bNil))) (bCons (bAsg (e2 gMod (hE (eN gInt (aCons (hE (e2 gAdd (hE (e2 gAdd (hE (e2 gMul (hV 5) (hE (eC (.int 48271))))) (hE (e2 gMul (hV 4) (hE (eC (.int 69621))))))) (hE (eC (.int 11))))) aNil))) (hE (eC (.int 2147483647)))) (gNm 7)) (bFor (iRg1 (aCons (hE (eC (.int 12))) aNil)) (gNm 6) (bCons (bAsg (e2 gMod (hE (eN gInt (aCons (hE (e2 gAdd (hE (e2 gAdd (hE (e2 gMul (hV 7) (hE (eC (.int 16807))))) (hE (e2 gMul (hE (eC (.int 7))) (hV 6))))) (hE (eC (.int 1))))) aNil))) (hE (eC (.int 2147483647)))) (gNm 7)) (bExp (eMut 3 gApp (aCons (hE (e2 gMod (hE (eN gInt (aCons (hE (e2 gDiv (hV 7) (hE (eC (.int 997))))) aNil))) (hE (eC (.int 1000))))) aNil)))))))))) (bRet (eM 3)))
noncomputable def F_law_digits : List D → Option (D × List D) := fnD [true, true, true] 8 d_law_digits
noncomputable def d_law_draw : Ev → Option Out := bCons (bAsg (e2 gAdd (hE (e2 gIdx (hV 0) (hE (eC (.int 1))))) (hE (eC (.int 1)))) (gIx 0 (hE (eC (.int 1))))) (bCons (bIf (tB' (e2 gGt (hE (e2 gIdx (hV 0) (hE (eC (.int 1))))) (hE (eN gLen (aCons (hE (e2 gIdx (hV 0) (hE (eC (.int 0))))) aNil))))) (bRet (e2 gMod (hE (eN gInt (aCons (hE (e2 gAdd (hE (e2 gMul (hE (e2 gIdx (hV 0) (hE (eC (.int 1))))) (hE (eC (.int 7))))) (hE (eC (.int 3))))) aNil))) (hV 1))) (bNil)) (bRet (e2 gMod (hE (eN gInt (aCons (hE (e2 gIdx (hE (e2 gIdx (hV 0) (hE (eC (.int 0))))) (hE (e2 gSubt (hE (e2 gIdx (hV 0) (hE (eC (.int 1))))) (hE (eC (.int 1))))))) aNil))) (hV 1))))
noncomputable def F_law_draw : List D → Option (D × List D) := fnD [true, true] 2 d_law_draw
noncomputable def d_law_pick : Ev → Option Out := bRet (e2 gIdx (hV 1) (hE (e2 gMod (hE (eN gInt (aCons (hE (eCall 2 F_law_draw (aCons (hV 0) (aCons (hE (eC (.int 1000))) aNil)))) aNil))) (hE (eN gLen (aCons (hV 1) aNil))))))
noncomputable def F_law_pick : List D → Option (D × List D) := fnD [true, true] 2 d_law_pick
noncomputable def d_law_same (F0 : List D → Option (D × List D)) : Ev → Option Out := bCons (bIf (tB' (e2 (gIsB false) (hV 1) (hE (eC .non)))) (bRet (e2 (gIsB false) (hV 0) (hE (eC .non)))) (bNil)) (bCons (bIf (tB' (e2 (gIsB false) (hV 1) (hE (eC (.bl true))))) (bRet (e2 (gIsB false) (hV 0) (hE (eC (.bl true))))) (bNil)) (bCons (bIf (tB' (e2 (gIsB false) (hV 1) (hE (eC (.bl false))))) (bRet (e2 (gIsB false) (hV 0) (hE (eC (.bl false))))) (bNil)) (bCons (bIf (tT (hE (eN gIsi (aCons (hV 1) (aCons (hE (eC (.ty "str"))) aNil))))) (bRet (eAn (eN gIsi (aCons (hV 0) (aCons (hE (eC (.ty "str"))) aNil))) (e2 gEq (hE (eN gRepr (aCons (hV 0) aNil))) (hE (eN gRepr (aCons (hV 1) aNil)))))) (bNil)) (bCons (bIf (tT (hE (eN gIsi (aCons (hV 1) (aCons (hE (eC (.ty "int"))) aNil))))) (bRet (eAn (eN gIsi (aCons (hV 0) (aCons (hE (eC (.ty "int"))) aNil))) (eAn (eNo (eN gIsi (aCons (hV 0) (aCons (hE (eC (.ty "bool"))) aNil)))) (e2 gEq (hE (eN gRepr (aCons (hV 0) aNil))) (hE (eN gRepr (aCons (hV 1) aNil))))))) (bNil)) (bCons (bIf (tOr' (tAn (tT (hE (eN gIsi (aCons (hV 1) (aCons (hE (eC (.ty "tuple"))) aNil))))) (tNo (tT (hE (eN gIsi (aCons (hV 0) (aCons (hE (eC (.ty "tuple"))) aNil))))))) (tAn (tT (hE (eN gIsi (aCons (hV 1) (aCons (hE (eC (.ty "list"))) aNil))))) (tNo (tT (hE (eN gIsi (aCons (hV 0) (aCons (hE (eC (.ty "list"))) aNil)))))))) (bRet (eC (.bl false))) (bNil)) (bCons (bIf (tB' (e2 gNe (hE (eN gLen (aCons (hV 0) aNil))) (hE (eN gLen (aCons (hV 1) aNil))))) (bRet (eC (.bl false))) (bNil)) (bCons (bFor (iRg1 (aCons (hE (eN gLen (aCons (hV 1) aNil))) aNil)) (gNm 2) (bIf (tNo (tT (hE (eCall 2 F0 (aCons (hE (e2 gIdx (hV 0) (hV 2))) (aCons (hE (e2 gIdx (hV 1) (hV 2))) aNil)))))) (bRet (eC (.bl false))) (bNil))) (bRet (eC (.bl true))))))))))
noncomputable def S_law_same (F0 : List D → Option (D × List D)) : List D → Option (D × List D) := fnD [true, true] 3 (d_law_same F0)
noncomputable def R_law_same : Nat → List D → Option (D × List D)
  | 0 => fun _ => none
  | n + 1 => S_law_same (R_law_same n)
noncomputable def F_law_same : List D → Option (D × List D) := R_law_same 8
end PreA
namespace PreA
def cellV (ns : List Int) (k : Int) : Int := if k < ns.length then ns.getD k.toNat 0 else 0
theorem cell_ok {ns : List Int} {k : Int} (hk : 0 ≤ k) : F_law_cell [.cst (ns.map D.int), .int k] = some (.int (cellV ns k), [.cst (ns.map D.int), .int k]) := by
  apply of_W
  unfold F_law_cell
  rw [W_fnD rfl]
  unfold d_law_cell
  walk_at "ev"
  rw [List.length_map]
  split
  · rename_i h
    obtain ⟨n, rfl⟩ := Int.eq_ofNat_of_zero_le hk
    have hn : n < ns.length := by omega
    rw [atF_nat, List.getElem?_map, List.getElem?_eq_getElem hn]
    show W (okD (.int ns[n])) _
    rw [okI, W_some]
    unfold cellV
    rw [if_pos h]
    simp [hn]
  · rename_i h
    unfold cellV
    rw [if_neg h]
/-- the box behind n draws -/
abbrev bx (ds : List Int) (n : Int) : D := .lst true [.lst false (ds.map D.int), .int n]
def drw (ds : List Int) (n m : Int) : Int := if (ds.length : Int) < n + 1 then ((n + 1) * 7 + 3) % m else ds.getD n.toNat 0 % m
theorem drw_nn {ds : List Int} {n m : Int} (hm : 0 < m) : 0 ≤ drw ds n m := by
  unfold drw
  split <;> exact Int.emod_nonneg _ (by omega)
theorem drw_lt {ds : List Int} {n m : Int} (hm : 0 < m) : drw ds n m < m := by
  unfold drw
  split <;> exact Int.emod_lt_of_pos _ hm
theorem draw_ok {ds : List Int} {n m : Int} (hn : 0 ≤ n) (hm : 0 < m) : F_law_draw [bx ds n, .int m] = some (.int (drw ds n m), [bx ds (n + 1), .int m]) := by
  apply of_W
  unfold F_law_draw bx
  rw [W_fnD rfl]
  unfold d_law_draw
  walk_at "ev"
  rw [List.length_map]
  unfold drw
  split
  · rename_i h
    rw [W_ok (MulOk.right (by decide))]
    walk_at "ev"
    rw [W_ok hm]
  · rename_i h
    obtain ⟨k, rfl⟩ := Int.eq_ofNat_of_zero_le hn
    have hk : k < ds.length := by omega
    rw [Int.add_sub_cancel, atF_nat, List.getElem?_map, List.getElem?_eq_getElem hk]
    show W (okD (.int ds[k])) _
    rw [okI, W_some]
    walk_at "ev"
    rw [W_ok hm]
    simp [hk]
theorem pick_ok {ds : List Int} {n : Int} {o : Bool} {xs : List D} (hn : 0 ≤ n) (hx : xs ≠ []) : ∃ j, ∃ h : j < xs.length, F_law_pick [bx ds n, .lst o xs] = (okD xs[j]).map fun x => (x, [bx ds (n + 1), .lst o xs]) := by
  have hl : (0 : Int) < xs.length := by
    cases xs with
    | nil => exact absurd rfl hx
    | cons _ _ => simp
  obtain ⟨j, hj⟩ := Int.eq_ofNat_of_zero_le (show 0 ≤ drw ds n 1000 % (xs.length : Int) from Int.emod_nonneg _ (by omega))
  have hj2 : j < xs.length := by
    have := Int.emod_lt_of_pos (drw ds n 1000) hl
    omega
  refine ⟨j, hj2, ?_⟩
  have key : ∀ (Q : D × List D → Prop), W (F_law_pick [bx ds n, .lst o xs]) Q = W (okD xs[j]) fun x => Q (x, [bx ds (n + 1), .lst o xs]) := fun Q => by
    unfold F_law_pick
    rw [W_fnD rfl]
    unfold d_law_pick
    walk_at "ev"
    have e := draw_ok (ds := ds) (n := n) (m := 1000) hn (by decide)
    unfold bx at e ⊢
    walk_at "ev"
    rw [W_eq e]
    cases o <;> (walk_at "ev"; rw [W_ok hl]; walk_at "ev"; rw [hj, atF_nat, List.getElem?_eq_getElem hj2]; rfl)
  cases h : okD xs[j] with
  | some x =>
    apply of_W
    rw [key, h, W_some]
  | none =>
    cases h2 : F_law_pick [bx ds n, .lst o xs] with
    | none => rfl
    | some r =>
      have := key fun _ => True
      rw [h, h2, W_some, W_none] at this
      exact absurd trivial (by rw [this]; exact fun z => z)
noncomputable def digRest : Ev → Option Out := bIf (tB' (e2 gGe (hV 5) (hE (e2 gPow (hE (eC (D.int 10))) (hE (eC (D.int 18)))))))
                (bFor (iRg1 (aCons (hE (eC (D.int 60))) aNil)) (gNm 6)
                  (bIf (tB' (e2 gGt (hV 5) (hE (eC (D.int 0)))))
                    (bCons (bExp (eMut 3 gApp (aCons (hE (e2 gMod (hE (eN gInt (aCons (hV 5) aNil))) (hE (eC (D.int 1000))))) aNil)))
                      (bAsg (e2 gDiv (hV 5) (hE (eC (D.int 1000)))) (gNm 5))) bNil))
                (bCons (bAsg (e2 gMod (hE (eN gInt (aCons (hE (e2 gAdd (hE (e2 gAdd (hE (e2 gMul (hV 5) (hE (eC (D.int 48271)))))
                                    (hE (e2 gMul (hV 4) (hE (eC (D.int 69621))))))) (hE (eC (D.int 11))))) aNil))) (hE (eC (D.int 2147483647)))) (gNm 7))
                  (bFor (iRg1 (aCons (hE (eC (D.int 12))) aNil)) (gNm 6)
                    (bCons (bAsg (e2 gMod (hE (eN gInt (aCons (hE (e2 gAdd (hE (e2 gAdd (hE (e2 gMul (hV 7) (hE (eC (D.int 16807)))))
                                        (hE (e2 gMul (hE (eC (D.int 7))) (hV 6))))) (hE (eC (D.int 1))))) aNil))) (hE (eC (D.int 2147483647)))) (gNm 7))
                      (bExp (eMut 3 gApp (aCons (hE (e2 gMod (hE (eN gInt (aCons (hE (e2 gDiv (hV 7) (hE (eC (D.int 997))))) aNil))) (hE (eC (D.int 1000))))) aNil))))))
theorem digRest_ok {ns ds : List Int} {a b c : Int} {k : Nat} {x6 x7 : D} (hk : k ≤ 64) (hlen : ds.length ≤ 60 * k) (hds : ∀ d ∈ ds, 0 ≤ d ∧ d < 1000) (hc : 0 ≤ c) : W (digRest [.cst (ns.map D.int), .int a, .int b, .lst true (ds.map D.int), .int (a + k), .int c, x6, x7]) fun o => match o with
            | .nx ρ2 => ∃ (ds : List Int) (x4 x5 x6 x7 : D), ρ2 = [.cst (ns.map D.int), .int a, .int b, .lst true (ds.map D.int), x4, x5, x6, x7] ∧ ds.length ≤ 60 * (k + 1) ∧ (∀ d ∈ ds, 0 ≤ d ∧ d < 1000) ∧ (0 < k + 1 → ds ≠ [])
            | _ => False := by
  unfold digRest
  walk_at "ev"
  rw [W_ok (by decide)]
  walk_at "ev"
  split
  · rename_i hbig
    rw [W_ok (by decide)]
    walk_at "ev"
    refine W_range (lo := 0) (n := 60) (fun j ρ => ∃ (es : List Int) (c' : Int) (x6 x7 : D), ρ = [.cst (ns.map D.int), .int a, .int b, .lst true (es.map D.int), .int (a + k), .int c', x6, x7] ∧ 0 ≤ c' ∧ (j = 0 → c' = c) ∧ es.length ≤ 60 * k + j ∧ (∀ d ∈ es, 0 ≤ d ∧ d < 1000) ∧ (0 < j → es ≠ [])) ⟨ds, c, _, _, rfl, hc, fun _ => rfl, hlen, hds, by simp⟩ ?_ ?_
    · rintro j ρ hj ⟨es, c', y6, y7, rfl, hc', h0, hl', hes, hne⟩
      walk_at "ev"
      split
      · rw [W_ok (by decide)]
        walk_at "ev"
        rw [List.length_map, W_ok (by have : j < 60 := hj; omega)]
        walk_at "ev"
        rw [W_ok (by decide)]
        refine ⟨es ++ [c' % 1000], c' / 1000, _, _, by rw [List.map_append]; rfl, by omega, by omega, by simp; omega, ?_, by simp⟩
        intro d hd
        rcases List.mem_append.mp hd with hd | hd
        · exact hes d hd
        · rw [List.mem_singleton] at hd
          omega
      · rename_i hpos
        refine ⟨es, c', _, _, rfl, hc', by omega, by omega, hes, fun _ => ?_⟩
        by_cases hj0 : j = 0
        · have := h0 hj0
          have hb2 : (10 : Int) ^ (18 : Int).toNat ≤ c := hbig
          have h18 : (10 : Int) ^ (18 : Int).toNat = 1000000000000000000 := by decide
          omega
        · exact hne (by omega)
    · rintro ρ ⟨es, c', y6, y7, rfl, hc', h0, hl', hes, hne⟩
      exact ⟨es, _, _, _, _, rfl, by omega, hes, fun _ => hne (by decide)⟩
  · rename_i hsmall
    rw [W_ok (MulOk.right (by decide))]
    walk_at "ev"
    rw [W_ok (MulOk.right (by decide))]
    walk_at "ev"
    rw [W_ok (by decide)]
    walk_at "ev"
    rw [W_ok (by decide)]
    walk_at "ev"
    refine W_range (lo := 0) (n := 12) (fun j ρ => ∃ (es : List Int) (s : Int) (x6 : D), ρ = [.cst (ns.map D.int), .int a, .int b, .lst true (es.map D.int), .int (a + k), .int c, x6, .int s] ∧ es.length ≤ 60 * k + j ∧ (∀ d ∈ es, 0 ≤ d ∧ d < 1000) ∧ (0 < j → es ≠ [])) ⟨ds, _, _, rfl, hlen, hds, by simp⟩ ?_ ?_
    · rintro j ρ hj ⟨es, s', y6, rfl, hl', hes, hne⟩
      walk_at "ev"
      rw [W_ok (MulOk.right (by decide))]
      walk_at "ev"
      rw [W_ok (MulOk.left (by decide))]
      walk_at "ev"
      rw [W_ok (by decide)]
      walk_at "ev"
      rw [W_ok (by decide)]
      walk_at "ev"
      rw [W_ok (by decide)]
      walk_at "ev"
      rw [List.length_map, W_ok (by have : j < 12 := hj; omega)]
      refine ⟨es ++ [_], _, _, by rw [List.map_append]; rfl, by simp; omega, ?_, by simp⟩
      intro d hd
      rcases List.mem_append.mp hd with hd | hd
      · exact hes d hd
      · rw [List.mem_singleton] at hd
        omega
    · rintro ρ ⟨es, s', y6, rfl, hl', hes, hne⟩
      exact ⟨es, _, _, _, _, rfl, by omega, hes, fun _ => hne (by decide)⟩
  
theorem digits_ok {ns : List Int} {a b : Int} (hn : ns.length ≤ 63) (ha : 0 ≤ a) (hab : a < b) (hb : b ≤ 64) : ∃ ds : List Int, ds ≠ [] ∧ (∀ d ∈ ds, 0 ≤ d ∧ d < 1000) ∧ F_law_digits [.cst (ns.map D.int), .int a, .int b] = some (.lst true (ds.map D.int), [.cst (ns.map D.int), .int a, .int b]) := by
  have key : W (F_law_digits [.cst (ns.map D.int), .int a, .int b]) fun r => ∃ ds : List Int, ds ≠ [] ∧ (∀ d ∈ ds, 0 ≤ d ∧ d < 1000) ∧ r = (.lst true (ds.map D.int), [.cst (ns.map D.int), .int a, .int b]) := by
    unfold F_law_digits
    rw [W_fnD rfl]
    unfold d_law_digits
    change W (bCons _ (bCons (bFor _ _ (bCons _ (bCons _ digRest))) _) _) _
    walk_at "ev"
    rw [W_ok (by omega)]
    walk_at "ev"
    refine W_range (lo := a) (n := (b - a).toNat) (fun k ρ => ∃ (ds : List Int) (x4 x5 x6 x7 : D), ρ = [.cst (ns.map D.int), .int a, .int b, .lst true (ds.map D.int), x4, x5, x6, x7] ∧ ds.length ≤ 60 * k ∧ (∀ d ∈ ds, 0 ≤ d ∧ d < 1000) ∧ (0 < k → ds ≠ [])) ⟨[], _, _, _, _, rfl, by simp, by simp, by simp⟩ ?_ ?_
    · rintro k ρ hk ⟨ds, x4, x5, x6, x7, rfl, hlen, hds, _⟩
      walk_at "ev"
      rw [W_eq (cell_ok (by omega))]
      walk_at "ev"
      generalize cellV ns (a + k) = c
      -- below 0
      by_cases hneg : c < 0
      · rw [if_pos hneg, W_ok (MulOk.left (by decide))]
        walk_at "ev"
        refine W_mono (digRest_ok (c := 1 - 2 * c) (by omega) hlen hds (by omega)) fun o ho => ?_
        cases o with
        | nx ρ2 => exact ho
        | _ => exact ho.elim
      · rw [if_neg hneg]
        refine W_mono (digRest_ok (by omega) hlen hds (by omega)) fun o ho => ?_
        cases o with
        | nx ρ2 => exact ho
        | _ => exact ho.elim
    · rintro ρ ⟨ds, x4, x5, x6, x7, rfl, hlen, hds, hne⟩
      walk_at "ev"
      exact ⟨ds, hne (by omega), hds, rfl⟩
  obtain ⟨r, e, ds, h1, h2, h3⟩ := key
  exact ⟨ds, h1, h2, by rw [e, h3]⟩
/-- alike, of nesting below n, all of a size that can be told -/
def Sm : Nat → D → D → Prop
  | 0, _, _ => False
  | n + 1, d, e => match d, e with
    | .non, .non => True
    | .bl a, .bl b => a = b
    | .int a, .int b => a = b ∧ a.natAbs < 2 ^ 1900
    | .str a, .str b => a = b ∧ (reprText a).length ≤ 16777216
    | .lst _ xs, .lst _ ys => xs.length = ys.length ∧ ys.length < 2 ^ 62 ∧ ∀ (k : Nat) (a b : D), xs[k]? = some a → ys[k]? = some b → Sm n a b ∧ a.frz = true ∧ b.frz = true
    | .tup xs, .tup ys => xs.length = ys.length ∧ ys.length < 2 ^ 62 ∧ ∀ (k : Nat) (a b : D), xs[k]? = some a → ys[k]? = some b → Sm n a b ∧ a.frz = true ∧ b.frz = true
    | _, _ => False
theorem loopL {F0 : List D → Option (D × List D)} {xs ys : List D} {q q' : Bool} (hl : xs.length = ys.length)
    (hF : ∀ (k : Nat) (a b : D), xs[k]? = some a → ys[k]? = some b → F0 [a, b] = some (.bl true, [a, b]) ∧ a.frz = true ∧ b.frz = true) {x2 : D} :
    W (lrun (fStep (itR 0 1 ys.length) (gNm 2) (bIf (tNo (tT (hE (eCall 2 F0 (aCons (hE (e2 gIdx (hV 0) (hV 2))) (aCons (hE (e2 gIdx (hV 1) (hV 2))) aNil)))))) (bRet (eC (.bl false))) (bNil))) [.lst q xs, .lst q' ys, x2]) fun o => match o with
      | .nx ρ => ∃ x2, ρ = [.lst q xs, .lst q' ys, x2]
      | _ => False := by
  refine W_range (fun k ρ => ∃ x2, ρ = [.lst q xs, .lst q' ys, x2]) ⟨_, rfl⟩ ?_ ?_
  · rintro k ρ hk ⟨x2, rfl⟩
    have h1 : k < xs.length := by omega
    obtain ⟨e1, e2, e3⟩ := hF k xs[k] ys[k] (List.getElem?_eq_getElem h1) (List.getElem?_eq_getElem hk)
    walk_at "ev"
    rw [Int.zero_add, atF_nat, List.getElem?_eq_getElem h1]
    show W (okD xs[k]) _
    rw [okD_of e2, W_some]
    walk_at "ev"
    rw [atF_nat, List.getElem?_eq_getElem hk]
    show W (okD ys[k]) _
    rw [okD_of e3, W_some]
    walk_at "ev"
    rw [W_eq e1]
    walk_at "ev"
    exact ⟨_, rfl⟩
  · rintro ρ ⟨x2, rfl⟩
    exact ⟨_, rfl⟩
theorem loopT {F0 : List D → Option (D × List D)} {xs ys : List D}  (hl : xs.length = ys.length)
    (hF : ∀ (k : Nat) (a b : D), xs[k]? = some a → ys[k]? = some b → F0 [a, b] = some (.bl true, [a, b]) ∧ a.frz = true ∧ b.frz = true) {x2 : D} :
    W (lrun (fStep (itR 0 1 ys.length) (gNm 2) (bIf (tNo (tT (hE (eCall 2 F0 (aCons (hE (e2 gIdx (hV 0) (hV 2))) (aCons (hE (e2 gIdx (hV 1) (hV 2))) aNil)))))) (bRet (eC (.bl false))) (bNil))) [.tup xs, .tup ys, x2]) fun o => match o with
      | .nx ρ => ∃ x2, ρ = [.tup xs, .tup ys, x2]
      | _ => False := by
  refine W_range (fun k ρ => ∃ x2, ρ = [.tup xs, .tup ys, x2]) ⟨_, rfl⟩ ?_ ?_
  · rintro k ρ hk ⟨x2, rfl⟩
    have h1 : k < xs.length := by omega
    obtain ⟨e1, e2, e3⟩ := hF k xs[k] ys[k] (List.getElem?_eq_getElem h1) (List.getElem?_eq_getElem hk)
    walk_at "ev"
    rw [Int.zero_add, atF_nat, List.getElem?_eq_getElem h1]
    show W (okD xs[k]) _
    rw [okD_of e2, W_some]
    walk_at "ev"
    rw [atF_nat, List.getElem?_eq_getElem hk]
    show W (okD ys[k]) _
    rw [okD_of e3, W_some]
    walk_at "ev"
    rw [W_eq e1]
    walk_at "ev"
    exact ⟨_, rfl⟩
  · rintro ρ ⟨x2, rfl⟩
    exact ⟨_, rfl⟩
theorem same_ok : ∀ (n : Nat) (d e : D), Sm n d e → R_law_same n [d, e] = some (.bl true, [d, e])
  | 0, _, _, h => h.elim
  | n + 1, d, e, h => by
    apply of_W
    show W (S_law_same (R_law_same n) [d, e]) _
    unfold S_law_same
    rw [W_fnD rfl]
    unfold d_law_same
    unfold Sm at h
    split at h
    · walk_at "ev"
    · subst h
      rename_i a
      cases a <;> (walk_at "ev"; rfl)
    · obtain ⟨rfl, hz⟩ := h
      rename_i a
      have r : gRepr [.int a] = some (.str (toString a)) := if_pos hz
      walk_at "ev"
      simp only [r, vv_eqS, decide_true]
      walk_at "ev"
      simp only [r, vv_eqS, decide_true]
      walk_at "ev"
      done
    · obtain ⟨rfl, hz⟩ := h
      rename_i a
      have r : gRepr [.str a] = some (.str (reprText a)) := if_pos hz
      walk_at "ev"
      simp only [r, vv_eqS, decide_true]
      walk_at "ev"
      simp only [r, vv_eqS, decide_true]
      walk_at "ev"
      done
    · obtain ⟨hl, hz, hk⟩ := h
      rename_i o xs o' ys
      walk_at "ev"
      rw [hl]
      simp only [decide_true, Bool.not_true, if_false, Bool.false_eq_true]
      walk_at "ev"
      rw [W_ok (by omega)]
      walk_at "ev"
      rw [Int.toNat_natCast]
      refine W_mono (loopL hl fun k a b ha hb => ?_) fun o ho => ?_
      · obtain ⟨h1, h2, h3⟩ := hk k a b ha hb
        exact ⟨same_ok n a b h1, h2, h3⟩
      · cases o with
        | nx ρ =>
          obtain ⟨x2, rfl⟩ := ho
          walk_at "ev"
        | _ => exact ho.elim
    · obtain ⟨hl, hz, hk⟩ := h
      rename_i xs ys
      walk_at "ev"
      rw [hl]
      simp only [decide_true, Bool.not_true, if_false, Bool.false_eq_true]
      walk_at "ev"
      rw [W_ok (by omega)]
      walk_at "ev"
      rw [Int.toNat_natCast]
      refine W_mono (loopT hl fun k a b ha hb => ?_) fun o ho => ?_
      · obtain ⟨h1, h2, h3⟩ := hk k a b ha hb
        exact ⟨same_ok n a b h1, h2, h3⟩
      · cases o with
        | nx ρ =>
          obtain ⟨x2, rfl⟩ := ho
          walk_at "ev"
        | _ => exact ho.elim
    · exact h.elim
theorem pick_int {ds : List Int} {n : Int} {o : Bool} (ks : List Int) (hn : 0 ≤ n) (hk : ks ≠ []) : ∃ k ∈ ks, F_law_pick [bx ds n, .lst o (ks.map D.int)] = some (.int k, [bx ds (n + 1), .lst o (ks.map D.int)]) := by
  obtain ⟨j, hj, e⟩ := pick_ok (ds := ds) (n := n) (o := o) (xs := ks.map D.int) hn (by simpa using hk)
  have hj2 : j < ks.length := by simpa using hj
  refine ⟨ks[j], List.getElem_mem hj2, ?_⟩
  rw [e, List.getElem_map]
  rfl
theorem frz_bx {ds : List Int} {n : Int} : (bx ds n).frz = false := rfl
end PreA
end Mv
end
section
/-! more operations: x += y on numbers and texts -/
namespace Mv
open PySem PySem.Spec PyProof.Rows L2
def gAug : D → D → Option D := fun a b => match a, b with
  | .int i, .int j => some (.int (i + j))
  | .str x, .str y => if x.length + y.length ≤ 16777216 then some (.str (x ++ y)) else none
  | _, _ => none
def rAug : R2 := rOr (rI0 fun i j => .int (i + j)) (fun x y H Q => ∃ i j, x = .str i ∧ y = .str j ∧ i.length + j.length ≤ sizeLine ∧ Q (.str (i ++ j)) H)
theorem ip_addA {X : Cx} : PIp X .Add rAug := OpR.or iop_add iop_add_str
theorem o2_ipAdd {K : Frg} : Op2 K rAug gAug := by
  intro x y H dx dy l Q d hi mx my hg q
  unfold gAug at hg
  split at hg
  · rename_i i j
    cases hg
    exact .inl ⟨i, j, hi.view mx, hi.view my, q _ H (hi.add rfl fun _ _ => rfl)⟩
  · rename_i a b
    split at hg
    · rename_i c
      cases hg
      exact .inr ⟨a, b, hi.view mx, hi.view my, by rw [sizeLine_eq]; exact c, q _ H (hi.add rfl fun _ _ => rfl)⟩
    · cases hg
  · cases hg
theorem ip_subA {X : Cx} : PIp X .Sub (rI0 fun i j => .int (i - j)) := iop_sub
variable {i j : Int} {x y : Str}
theorem vv_augI : gAug (.int i) (.int j) = some (.int (i + j)) := rfl
theorem vv_augS : gAug (.str x) (.str y) = if x.length + y.length ≤ 16777216 then some (.str (x ++ y)) else none := rfl
end Mv
end
section
set_option Elab.async false
set_option linter.all false
set_option maxRecDepth 100000
/-! more operations: in, not in, pop, reverse, extend, count -/
namespace Mv
open PySem PySem.Spec PyProof.Rows L2
/-! ### in -/
def inD (a : D) (xs : List D) : Bool := (D.pdL xs).any fun z => PyData.eqv z a.pd
def gIn (neg : Bool) : D → D → Option D := fun a b => match b with
  | .lst _ xs => if a.dat = true ∧ D.datL xs = true ∧ SeqAt.shaped a.pd = true ∧ SeqAt.shaped (.list (D.pdL xs)) = true then some (.bl (if neg = true then !inD a xs else inD a xs)) else none
  | _ => none
theorem op_inA {X : Cx} (hu : X.A.units + 65 < cLine) : OpR X (compareOp .In) (rInD X.K) := op_inD hu
theorem op_notInA {X : Cx} (hu : X.A.units + 65 < cLine) : OpR X (compareOp .NotIn) (rNotInD X.K) := op_notInD hu
theorem o2_in {K : Frg} : Op2 K (rInD K) (gIn false) := by
  intro x y H dx dy l Q d hi mx my hg q
  unfold gIn at hg
  split at hg
  · rename_i o xs
    split at hg
    · rename_i c
      cases hg
      have hy := Fz.dp (.lst o xs) _ (by rw [D.dat]; exact c.2.1) (hi.view my)
      rw [D.pd] at hy
      exact ⟨_, _, Fz.dp _ _ c.1 (hi.view mx), hy, c.2.2.1, c.2.2.2, q _ H (hi.add rfl fun _ _ => rfl)⟩
    · cases hg
  · cases hg
theorem o2_notIn {K : Frg} : Op2 K (rNotInD K) (gIn true) := by
  intro x y H dx dy l Q d hi mx my hg q
  unfold gIn at hg
  split at hg
  · rename_i o xs
    split at hg
    · rename_i c
      cases hg
      have hy := Fz.dp (.lst o xs) _ (by rw [D.dat]; exact c.2.1) (hi.view my)
      rw [D.pd] at hy
      exact ⟨_, _, Fz.dp _ _ c.1 (hi.view mx), hy, c.2.2.1, c.2.2.2, q _ H (hi.add rfl fun _ _ => rfl)⟩
    · cases hg
  · cases hg
/-! ### list.count over data -/
section
variable {X : Cx}
def rCntD (K : Frg) : V → List V → Hp → VK → Prop := fun x xs H Q => ∃ (a : Addr) (y : V) (d : PyData) (ds : List PyData), x = V.ref a ∧ xs = [y] ∧ Dp K H (V.ref a) (.list ds) ∧ Dp K H y d ∧
  SeqAt.shaped (.list ds) = true ∧ SeqAt.shaped d = true ∧ Q (.int ((ds.countP fun z => PyData.eqv z d : Nat) : Int)) H
theorem mt_countD (hu : X.A.units + 65 < cLine) : MtR X "list.count" (rCntD X.K) := by
  intro pins s σ H x xs v us Q I rx rxs h
  obtain ⟨a, y, d, ds, rfl, rfl, hl, hy, sl, sd, q⟩ := h
  cases rx
  cases rxs with
  | cons ry rt =>
    rename_i uy ut
    cases rt
    obtain ⟨bs, r1⟩ := Dp.reads I d y uy hy ry
    have hxs : PyData.canLayAll0 ds = true := SeqAt.canLay_of_shaped sl
    have hroom : X.A.units + 1 + min (PyData.depthAll ds) d.depth < cLine := room_in_shaped sd hu
    cases hl with
    | lst hs ha =>
      obtain ⟨its, rv, ⟨⟨cls, dd, data, sls⟩, n, ho, hc, hdn, hdt⟩, hlen⟩ := I.list hs
      simp only at hc hdt
      subst hc hdt
      obtain ⟨as, h4⟩ := Dp.readsAll I ds _ its ha rv
      have hmap : its.map (SeqAt.readOf s.heap) = ds := SeqAt.readsAll_map ds its as hxs h4
      refine call_meets PySem.F.slot_list_count ⟨_, ho, rfl⟩ PySem.F.entry_list_count (PySem.F.args_list_count_2 _ _)
        (SeqAt.list_countAt a its.toArray n dd sls uy (fun u => PyData.eqv (SeqAt.readOf s.heap u) d)) ⟨ho, SeqAt.items_eqAt (vs := its.toArray) (show ReadsAll s.heap its.toArray.toList ds as from h4) r1 hxs (SeqAt.canLay_of_shaped sd) hroom, ?_⟩
      have ec : its.toArray.toList.countP (fun u => PyData.eqv (SeqAt.readOf s.heap u) d) = ds.countP fun z => PyData.eqv z d := by
        rw [← hmap, List.countP_map]; rfl
      refine ⟨.int ((ds.countP fun z => PyData.eqv z d : Nat) : Int), H, I.tok _, ⟨s.toks, ?_⟩, q⟩
      show Value.int ((its.toArray.toList.countP (fun u => PyData.eqv (SeqAt.readOf s.heap u) d) : Nat) : Int) s.toks = _
      rw [ec]
end
def gCntD : List D → Option D := fun ds => match ds with
  | [.lst _ xs, a] => if a.dat = true ∧ D.datL xs = true ∧ SeqAt.shaped a.pd = true ∧ SeqAt.shaped (.list (D.pdL xs)) = true then some (.int (((D.pdL xs).countP fun z => PyData.eqv z a.pd : Nat) : Int)) else none
  | _ => none
theorem on_countD {K : Frg} : OpN K (fun xs H Q => ∃ x r', xs = x :: r' ∧ rCntD K x r' H Q) gCntD := by
  intro xs H ds l Q d hi hm hg q
  unfold gCntD at hg
  split at hg
  · rename_i o ys a
    split at hg
    · rename_i c
      cases hg
      cases hm with
      | cons m1 mr =>
        cases mr with
        | cons m2 mr =>
          cases mr
          rename_i x y
          obtain ⟨p, us, rfl, hs, hl, hz, _⟩ := hi.list m1
          have hy := Fz.dp (.lst o ys) _ (by rw [D.dat]; exact c.2.1) (hi.view m1)
          rw [D.pd] at hy
          exact ⟨_, _, rfl, p, y, _, _, rfl, rfl, hy, Fz.dp _ _ c.1 (hi.view m2), c.2.2.2, c.2.2.1, q _ H (hi.add rfl fun _ _ => rfl)⟩
    · cases hg
  · cases hg
/-! ### pop, reverse, extend -/
theorem prs_erase : ∀ {us : List V} {xs : List D} {k : Nat} {v : V} {d : D}, us.length = xs.length → us[k]? = some v → xs[k]? = some d → (prs us xs).Perm ((some v, d) :: prs (us.eraseIdx k) (xs.eraseIdx k))
  | [], _, _, _, _, _, h, _ => by cases h
  | u :: us, [], _, _, _, h, _, _ => by cases h
  | u :: us, x :: xs, 0, v, d, _, h1, h2 => by
    cases h1; cases h2
    exact List.Perm.refl _
  | u :: us, x :: xs, k + 1, v, d, hl, h1, h2 => by
    have i := prs_erase (us := us) (xs := xs) (k := k) (by simpa using hl) h1 h2
    show ((some u, x) :: prs us xs).Perm ((some v, d) :: (some u, x) :: prs (us.eraseIdx k) (xs.eraseIdx k))
    exact (List.Perm.cons _ i).trans (List.Perm.swap _ _ _)
def gPopAt : List D → List D → Option (D × List D) := fun xs ds => match ds with
  | [.int i] => if -(2 ^ 63) ≤ i ∧ i < 2 ^ 63 then (seqIndex? i xs.length).bind fun k => xs[k]?.map fun d => (d, xs.eraseIdx k) else none
  | _ => none
theorem mo_popAt {K : Frg} : MutOp K rPopAt gPopAt := by
  intro a vs H ds xs l Q d ys hlen hi hg q
  unfold gPopAt at hg
  split at hg
  · rename_i i
    split at hg
    · rename_i c
      obtain ⟨k, e1, hg⟩ := Option.bind_eq_some_iff.mp hg
      obtain ⟨d', e2, hg⟩ := Option.map_eq_some_iff.mp hg
      cases hg
      match vs, hlen with
      | [v], _ =>
        have hv : v = .int i := hi.view (List.mem_cons_of_mem _ List.mem_cons_self)
        subst hv
        obtain ⟨us, hs, hl, hop⟩ := hi.open
        have hk : k < us.length := by
          rw [hl]
          exact (List.getElem?_eq_some_iff.mp e2).1
        refine ⟨a, us, i, k, us[k], rfl, rfl, hs, c.1, c.2, by rw [hl]; exact e1, List.getElem?_eq_getElem hk, q _ _ ?_⟩
        have hp := prs_erase hl (List.getElem?_eq_getElem hk) e2
        have hcl : Items K [a] H (prs (us.eraseIdx k) (xs.eraseIdx k) ++ ((some us[k], d) :: l)) := by
          refine hop.sub ⟨prs [.int i] [.int i], ?_⟩
          refine (List.Perm.append hp (List.Perm.refl _)).trans ?_
          show ((some us[k], d) :: (prs (us.eraseIdx k) (xs.eraseIdx k) ++ ((some (.int i), .int i) :: l))).Perm ((some (.int i), .int i) :: (prs (us.eraseIdx k) (xs.eraseIdx k) ++ ((some us[k], d) :: l)))
          exact ((List.Perm.cons _ List.perm_middle).trans (List.Perm.swap _ _ _)).trans (List.Perm.cons _ List.perm_middle.symm)
        have hfin := Items.close hs (by rw [List.length_eraseIdx, List.length_eraseIdx, hl]) hcl
        exact hfin.perm (List.Perm.swap _ _ _)
    · cases hg
  · cases hg
def gPop : List D → List D → Option (D × List D) := fun xs ds => match ds with
  | [] => xs[xs.length - 1]?.map fun d => (d, xs.dropLast)
  | _ => none
theorem erase_last {α : Type} (l : List α) : l.eraseIdx (l.length - 1) = l.dropLast := by
  rw [List.dropLast_eq_take]
  by_cases h : l = []
  · subst h; rfl
  · have : 0 < l.length := List.length_pos_iff.mpr h
    rw [List.eraseIdx_eq_take_drop_succ, Nat.sub_add_cancel this, List.drop_length, List.append_nil]
theorem mo_pop {K : Frg} : MutOp K rPop gPop := by
  intro a vs H ds xs l Q d ys hlen hi hg q
  unfold gPop at hg
  split at hg
  · obtain ⟨d', e2, hg⟩ := Option.map_eq_some_iff.mp hg
    cases hg
    match vs, hlen with
    | [], _ =>
      obtain ⟨us, hs, hl, hop⟩ := hi.open
      have hk : us.length - 1 < us.length := by
        have := (List.getElem?_eq_some_iff.mp e2).1
        omega
      refine ⟨a, us, us[us.length - 1], rfl, rfl, hs, List.getElem?_eq_getElem hk, q _ _ ?_⟩
      have e2' : xs[us.length - 1]? = some d := by rw [hl]; exact e2
      have hp := prs_erase hl (List.getElem?_eq_getElem hk) e2'
      have ex : xs.eraseIdx (us.length - 1) = xs.dropLast := by rw [hl]; exact erase_last _
      rw [erase_last, ex] at hp
      have hcl : Items K [a] H (prs us.dropLast xs.dropLast ++ ((some (us[us.length - 1]'hk), d) :: l)) := by
        refine hop.perm ?_
        refine (List.Perm.append hp (List.Perm.refl _)).trans ?_
        exact List.perm_middle.symm
      have hfin := Items.close hs (by rw [List.length_dropLast, List.length_dropLast, hl]) hcl
      exact hfin.perm (List.Perm.swap _ _ _)
  · cases hg
def gRev : List D → List D → Option (D × List D) := fun xs ds => match ds with
  | [] => some (.non, xs.reverse)
  | _ => none
theorem prs_rev : ∀ {us : List V} {xs : List D}, us.length = xs.length → prs us.reverse xs.reverse = (prs us xs).reverse
  | [], [], _ => rfl
  | [], _ :: _, h => by simp at h
  | _ :: _, [], h => by simp at h
  | u :: us, x :: xs, h => by
    have hh : us.length = xs.length := by simpa using h
    rw [List.reverse_cons, List.reverse_cons, prs_app (by simp [hh]), prs_rev hh]
    show _ = ((some u, x) :: prs us xs).reverse
    rw [List.reverse_cons]
    rfl
theorem mo_rev {K : Frg} : MutOp K rReverse gRev := by
  intro a vs H ds xs l Q d ys hlen hi hg q
  unfold gRev at hg
  split at hg
  · cases hg
    match vs, hlen with
    | [], _ =>
      obtain ⟨us, hs, hl, hop⟩ := hi.open
      refine ⟨a, us, rfl, rfl, hs, q _ _ ?_⟩
      have hcl : Items K [a] H (prs us.reverse xs.reverse ++ l) := by
        rw [prs_rev hl]
        exact hop.perm (List.Perm.append (List.reverse_perm _).symm (List.Perm.refl _))
      exact (Items.close hs (by simp [hl]) hcl).add (d := .non) rfl fun _ _ => rfl
  · cases hg
def gExt : List D → List D → Option (D × List D) := fun xs ds => match ds with
  | [.lst _ zs] => if D.frzL zs = true ∧ xs.length + zs.length ≤ 16777216 then some (.non, xs ++ zs) else none
  | _ => none
theorem mo_ext {K : Frg} : MutOp K rExtend gExt := by
  intro a vs H ds xs l Q d ys hlen hi hg q
  unfold gExt at hg
  split at hg
  · rename_i o zs
    split at hg
    · rename_i c
      cases hg
      match vs, hlen with
      | [v], _ =>
        obtain ⟨b, ws, rfl, hb, lb, i2⟩ := hi.listAll (v := v) (b := o) (ds := zs) (List.mem_cons_of_mem _ List.mem_cons_self) c.1
        have i3 : Items K [] H ((some (.ref a), .lst true xs) :: (prs ws zs ++ (prs [.ref b] [.lst o zs] ++ l))) := i2.perm List.perm_middle
        obtain ⟨us, hs, hl, hop⟩ := i3.open
        refine ⟨a, b, us, ws, rfl, rfl, hs, hb, by rw [sizeLine_eq, hl, lb]; exact c.2, q _ _ ?_⟩
        have hcl : Items K [a] H (prs (us ++ ws) (xs ++ zs) ++ l) := by
          rw [prs_app hl, List.append_assoc]
          refine hop.sub ⟨prs [.ref b] [.lst o zs], ?_⟩
          exact (List.Perm.append_left _ List.perm_middle).trans List.perm_middle
        exact (Items.close hs (by simp [hl, lb]) hcl).add (d := .non) rfl fun _ _ => rfl
    · cases hg
  · cases hg
/-! ### of things told by an embedding -/
structure Emb {α : Type} [DecidableEq α] (f : α → D) : Prop where
  ok : ∀ x, D.ok 60 (f x)
  eq : ∀ x y, PyData.eqv (f x).pd (f y).pd = decide (x = y)
theorem emb_int : Emb D.int := ⟨fun _ => ok_int, fun x y => by
  rw [D.pd, D.pd]
  simp only [PyData.eqv]
  rfl⟩
section
variable {α : Type} [DecidableEq α] {f : α → D} (E : Emb f) {o o' : Bool}
include E
theorem emb_lok (l : List α) : D.ok 61 (.lst o (l.map f)) := ok_lst fun d hd => by
  obtain ⟨x, _, rfl⟩ := List.mem_map.mp hd
  exact E.ok x
theorem emb_shaped (l : List α) : D.datL (l.map f) = true ∧ SeqAt.shaped (.list (D.pdL (l.map f))) = true := by
  have h := ok_mono (emb_lok E (o := true) l) (show 61 ≤ 64 by decide)
  have h2 := ok_shaped h
  obtain ⟨h1, _, _⟩ := h
  rw [D.dat] at h1
  rw [D.pd] at h2
  exact ⟨h1, h2⟩
theorem pdL_map : ∀ l : List α, D.pdL (l.map f) = l.map fun x => (f x).pd
  | [] => by simp [D.pdL]
  | x :: l => by rw [List.map_cons, D.pdL, pdL_map l, List.map_cons]
theorem inD_map (x : α) (l : List α) : inD (f x) (l.map f) = decide (x ∈ l) := by
  unfold inD
  rw [pdL_map E]
  induction l with
  | nil => simp
  | cons y l ih =>
    rw [List.map_cons, List.any_cons, ih, E.eq]
    by_cases h : y = x
    · subst h; simp
    · have : ¬ x = y := fun z => h z.symm
      simp [h, this]
theorem gIn_map {neg : Bool} (x : α) (l : List α) : gIn neg (f x) (.lst o (l.map f)) = some (.bl (if neg = true then !decide (x ∈ l) else decide (x ∈ l))) := by
  have h1 := ok_mono (E.ok x) (show 60 ≤ 64 by decide)
  obtain ⟨h2, h3⟩ := emb_shaped E l
  unfold gIn
  show (if _ then _ else _) = _
  rw [inD_map E]
  exact if_pos ⟨h1.1, h2, ok_shaped h1, h3⟩
theorem gCnt_map (x : α) (l : List α) : gCntD [.lst o (l.map f), f x] = some (.int (l.count x : Nat)) := by
  have h1 := ok_mono (E.ok x) (show 60 ≤ 64 by decide)
  obtain ⟨h2, h3⟩ := emb_shaped E l
  unfold gCntD
  have e : ((D.pdL (l.map f)).countP fun z => PyData.eqv z (f x).pd) = l.count x := by
    rw [pdL_map E, List.countP_map, List.count]
    refine congrArg (fun p => List.countP p l) (funext fun y => ?_)
    show PyData.eqv (f y).pd (f x).pd = (y == x)
    rw [E.eq]
    rfl
  show (if _ then _ else _) = _
  rw [if_pos ⟨h1.1, h2, ok_shaped h1, h3⟩, e]
end
theorem gPopAt_nat {xs : List D} {k : Nat} (h : k < xs.length) (h2 : k < 2 ^ 62) : gPopAt xs [.int (k : Nat)] = some (xs[k], xs.eraseIdx k) := by
  unfold gPopAt
  show (if -(2 ^ 63) ≤ ((k : Nat) : Int) ∧ ((k : Nat) : Int) < 2 ^ 63 then _ else _) = _
  rw [if_pos (by omega)]
  have e : seqIndex? (k : Int) xs.length = some k := by
    unfold seqIndex?
    have h1 : ¬ ((k : Int) < 0) := by omega
    simp only [if_neg h1]
    have h3 : (0 ≤ (k : Int) && decide ((k : Int) < (xs.length : Int))) = true := by simp; omega
    simp [h]
  rw [e, Option.bind_some, List.getElem?_eq_getElem h]
  rfl
theorem vv_rev {xs : List D} : gRev xs [] = some (.non, xs.reverse) := rfl
theorem vv_ext {xs zs : List D} {o : Bool} : gExt xs [.lst o zs] = if D.frzL zs = true ∧ xs.length + zs.length ≤ 16777216 then some (.non, xs ++ zs) else none := rfl
end Mv
end
section
set_option Elab.async false
set_option linter.all false
set_option maxRecDepth 100000
set_option exponentiation.threshold 5000
/-! Helpers for the laws' mathematics. -/
namespace Mv
open PySem Mv.PreA
theorem big1 {i : Int} (h : i.natAbs < 2 ^ 64) : i.natAbs < 2 ^ 1900 := Nat.lt_of_lt_of_le h (by decide +kernel)
theorem big4 {i : Int} (h : i.natAbs < 2 ^ 64) : i.natAbs < 2 ^ 4000 := Nat.lt_of_lt_of_le h (by decide +kernel)
theorem divok {j : Int} (h : 0 < j) (h2 : j.natAbs < 2 ^ 64) : DivOk j := ⟨h, big4 h2⟩
theorem mul_lt {a b : Int} {A B : Nat} (ha : a.natAbs < A) (hb : b.natAbs < B) : (a * b).natAbs < A * B := by
  rw [Int.natAbs_mul]
  exact Nat.mul_lt_mul_of_lt_of_lt ha hb
theorem sm_int {n : Nat} {a : Int} (h : a.natAbs < 2 ^ 64) : Sm (n + 1) (.int a) (.int a) := ⟨rfl, big1 h⟩
theorem sm_bl {n : Nat} {a b : Bool} (h : a = b) : Sm (n + 1) (.bl a) (.bl b) := h
theorem sm_non {n : Nat} : Sm (n + 1) .non .non := trivial
theorem sm_str {n : Nat} {a : Str} (h : (reprText a).length ≤ 16777216) : Sm (n + 1) (.str a) (.str a) := ⟨rfl, h⟩
/-- lists of things that are alike, and frozen -/
theorem sm_lst {n : Nat} {o o' : Bool} {α : Type} (l : List α) (f : α → D) (hl : l.length < 2 ^ 62) (h : ∀ x ∈ l, Sm n (f x) (f x) ∧ (f x).frz = true) : Sm (n + 1) (.lst o (l.map f)) (.lst o' (l.map f)) := by
  refine ⟨rfl, by rw [List.length_map]; exact hl, ?_⟩
  intro k a b ha hb
  rw [List.getElem?_map] at ha hb
  obtain ⟨x, hx, rfl⟩ := Option.map_eq_some_iff.mp ha
  rw [hx] at hb
  cases hb
  obtain ⟨h1, h2⟩ := h x (List.mem_of_getElem? hx)
  exact ⟨h1, h2, h2⟩
theorem sm_tup {n : Nat} {α : Type} (l : List α) (f : α → D) (hl : l.length < 2 ^ 62) (h : ∀ x ∈ l, Sm n (f x) (f x) ∧ (f x).frz = true) : Sm (n + 1) (.tup (l.map f)) (.tup (l.map f)) := by
  refine ⟨rfl, by rw [List.length_map]; exact hl, ?_⟩
  intro k a b ha hb
  rw [List.getElem?_map] at ha hb
  obtain ⟨x, hx, rfl⟩ := Option.map_eq_some_iff.mp ha
  rw [hx] at hb
  cases hb
  obtain ⟨h1, h2⟩ := h x (List.mem_of_getElem? hx)
  exact ⟨h1, h2, h2⟩
theorem sm_ints {n : Nat} {o o' : Bool} {l : List Int} (hl : l.length < 2 ^ 62) (h : ∀ x ∈ l, x.natAbs < 2 ^ 64) : Sm (n + 2) (.lst o (l.map D.int)) (.lst o' (l.map D.int)) :=
  sm_lst l D.int hl fun x hx => ⟨sm_int (h x hx), rfl⟩
theorem sm_t2 {n : Nat} {a b c d : D} (h1 : Sm n a c) (h2 : Sm n b d) (z1 : a.frz = true ∧ c.frz = true) (z2 : b.frz = true ∧ d.frz = true) : Sm (n + 1) (.tup [a, b]) (.tup [c, d]) := by
  refine ⟨rfl, by show 2 < _; decide, ?_⟩
  intro k x y hx hy
  match k with
  | 0 => cases hx; cases hy; exact ⟨h1, z1⟩
  | 1 => cases hx; cases hy; exact ⟨h2, z2⟩
  | k + 2 => cases hx
/-! comprehensions over what is written as a list of α -/
theorem W_compM {α : Type} {vs : List Nat} {it : Src} {g : D → Ev → Option Ev} {test : Ev → Option (Bool × Ev)} {elt : Ev → Option (D × Ev)} {ρ : Ev} {Q : D × Ev → Prop} (emb : α → D) (l : List α) (p : α → Bool) (f : α → D) (hn : l.length ≤ 16777216)
    (hi : ∀ k, it k ρ = some (l.map emb)[k]?)
    (hs : ∀ x ∈ l, W (g (emb x) (wipeD ρ vs)) fun ρ1 => W (test ρ1) fun q => q.1 = p x ∧ (if p x = true then W (elt q.2) fun r => r.1 = f x ∧ unw ρ vs r.2 = ρ else unw ρ vs q.2 = ρ))
    (hd : Q (.lst true ((l.filter p).map f), ρ)) : W (lrun (cStep vs it g test elt) ([], ρ)) Q := by
  refine W_compL (ds := l.map emb) (fun k acc ρ' => ρ' = ρ ∧ acc = ((l.take k).filter p).map f) ⟨rfl, by simp⟩ ?_ ?_ ?_
  · rintro k acc ρ' ⟨rfl, rfl⟩
    exact hi k
  · rintro k d acc ρ' hk ⟨rfl, rfl⟩
    rw [List.getElem?_map] at hk
    obtain ⟨x, hx, rfl⟩ := Option.map_eq_some_iff.mp hk
    have hlt : k < l.length := (List.getElem?_eq_some_iff.mp hx).1
    refine W_mono (hs x (List.mem_of_getElem? hx)) fun ρ1 h1 => W_mono h1 fun q ⟨h2, h3⟩ => ?_
    rw [h2]
    have hl : (((l.take k).filter p).map f).length ≤ k := by
      rw [List.length_map]
      exact Nat.le_trans (List.length_filter_le _ _) (by rw [List.length_take]; exact Nat.min_le_left _ _)
    have ht : l.take (k + 1) = l.take k ++ [x] := by rw [List.take_add_one, hx]; rfl
    cases hp : p x
    · rw [hp] at h3
      rw [if_neg (by decide)] at h3
      rw [if_neg (by decide)]
      refine ⟨h3, ?_⟩
      rw [ht, List.filter_append, List.filter_cons_of_neg (by rw [hp]; decide)]
      simp
    · rw [hp, if_pos rfl] at h3
      rw [if_pos rfl]
      refine W_mono h3 fun r ⟨h4, h5⟩ => ⟨by omega, h5, ?_⟩
      rw [ht, List.filter_append, List.filter_cons_of_pos hp, List.map_append, h4]
      rfl
  · rintro acc ρ' ⟨rfl, rfl⟩
    rw [List.length_map, List.take_length]
    exact hd
theorem enum_map {α : Type} (g : α → D) (l : List α) : ((l.map g).mapIdx fun k c => D.tup [.int (k : Nat), c]) = l.zipIdx.map fun e => D.tup [.int (e.2 : Nat), g e.1] := by
  apply List.ext_getElem?
  intro i
  rw [List.getElem?_mapIdx, List.getElem?_map, List.getElem?_map, List.getElem?_zipIdx]
  cases l[i]? <;> simp
theorem zip_map {α β : Type} (g : α → D) (h : β → D) (l : List α) (m : List β) : List.zipWith (fun c c' => D.tup [c, c']) (l.map g) (m.map h) = (l.zip m).map fun e => D.tup [g e.1, h e.2] := by
  apply List.ext_getElem?
  intro i
  show _ = ((List.zipWith Prod.mk l m).map _)[i]?
  rw [List.getElem?_zipWith, List.getElem?_map, List.getElem?_map, List.getElem?_map, List.getElem?_zipWith]
  cases l[i]? <;> cases m[i]? <;> simp
/-- for .. in range: what holds before turn k -/
theorem W_rangeC {lo c : Int} {n : Nat} {g : D → Ev → Option Ev} {body : Ev → Option Out} {ρ : Ev} {Q : Out → Prop} (P : Nat → Ev → Prop) (h0 : P 0 ρ)
    (hs : ∀ k ρ, k < n → P k ρ → W (g (.int (lo + (k : Int) * c)) ρ) fun ρ1 => W (body ρ1) fun o => match o with
      | .nx ρ2 => P (k + 1) ρ2
      | .ct ρ2 => P (k + 1) ρ2
      | .bk ρ2 => Q (.nx ρ2)
      | .rt d ρ2 => Q (.rt d ρ2))
    (hd : ∀ ρ, P n ρ → Q (.nx ρ)) : W (lrun (fStep (itR lo c n) g body) ρ) Q := by
  refine W_lrun (fun k ρ => k ≤ n ∧ P k ρ) (fun k _ => n - k) ⟨Nat.zero_le _, h0⟩ ?_
  rintro k ρ ⟨hk, hp⟩
  unfold fStep
  rw [W_bind]
  unfold itR
  by_cases h : k < n
  · rw [if_pos h, W_some]
    rw [W_bind]
    refine W_mono (hs k ρ h hp) fun ρ1 h1 => ?_
    rw [W_map]
    refine W_mono h1 fun o ho => ?_
    cases o with
    | nx ρ2 => exact ⟨⟨h, ho⟩, by show n - (k + 1) < n - k; omega⟩
    | ct ρ2 => exact ⟨⟨h, ho⟩, by show n - (k + 1) < n - k; omega⟩
    | bk ρ2 => exact ho
    | rt d ρ2 => exact ho
  · rw [if_neg h, W_some]
    have : k = n := by omega
    subst this
    rw [W_some]
    exact hd ρ hp
theorem small_any {a b c : Int} (h : Builtin.Range.small a b c = true) : Builtin.Range.small a b c = true := h
theorem rg_down {a b : Int} (ha : -(2 ^ 62) ≤ a) (ha' : a < 2 ^ 62) (hb : -(2 ^ 62) ≤ b) (hb' : b < 2 ^ 62) : (-1 : Int) ≠ 0 ∧ (-1 : Int).natAbs < 1073741824 ∧ Builtin.Range.small a b (-1) = true := ⟨by decide, by decide, PySem.W.small_down ha ha' hb hb'⟩
theorem rg_size {a b : Int} : (Builtin.Range.rangeSize a b (-1)).toNat = (a - b).toNat := by rw [PySem.W.rangeSize_downNat]; rfl
/-! slices of what is written as a list of α -/
theorem cut_map {α : Type} (f : α → D) (l : List α) (lo hi : Option Int) : cutD (l.map f) lo hi = ((l.drop (HT.sIx l.length 0 lo)).take (HT.sIx l.length l.length hi - HT.sIx l.length 0 lo)).map f := by
  unfold cutD
  rw [List.length_map, List.map_take, List.map_drop]
theorem cut_to {α : Type} (f : α → D) (l : List α) {k : Nat} : cutD (l.map f) none (some (k : Int)) = (l.take k).map f := by
  rw [cut_map, HT.sIx_nat, HT.sIx_none, List.drop_zero, Nat.sub_zero]
  congr 1
  rw [List.take_eq_take_iff]
  omega
theorem cut_from {α : Type} (f : α → D) (l : List α) {k : Nat} : cutD (l.map f) (some (k : Int)) none = (l.drop k).map f := by
  rw [cut_map, HT.sIx_nat, HT.sIx_none]
  congr 1
  by_cases h : k ≤ l.length
  · rw [Nat.min_eq_left h, List.take_of_length_le (by rw [List.length_drop]; omega)]
  · rw [Nat.min_eq_right (by omega), List.drop_eq_nil_of_le (Nat.le_refl _), List.drop_eq_nil_of_le (by omega), List.take_nil]
end Mv
end
section
set_option Elab.async false
set_option linter.all false
set_option maxRecDepth 100000
set_option maxHeartbeats 4000000
set_option exponentiation.threshold 5000
open PySem Mv Mv.PreA
local macro_rules | `(tactic| walk_at "ev") => `(tactic| try simp only [↓W_bCons, ↓W_bNil, ↓W_bBrk, ↓W_bCnt, ↓W_bExp, ↓W_bRet, ↓W_bRetN, ↓W_bIf, ↓W_bAsg, ↓W_bPar, ↓W_bAug, ↓W_eC, ↓W_eV, ↓W_eM, ↓W_hV, ↓W_hE, ↓W_eFz, ↓W_e1, ↓W_e2, ↓W_aNil, ↓W_aCons, ↓W_eN, ↓W_eTup, ↓W_eLst, ↓W_eCall, ↓W_eMut, ↓W_eMt, ↓W_eIf, ↓W_eAn, ↓W_eOr, ↓W_eNo, ↓W_eJ0, ↓W_eJ1, ↓W_tT, ↓W_tB, ↓W_tNo, ↓W_tAn, ↓W_tOr, ↓W_tAll, ↓W_gNm, ↓W_gsNil, ↓W_gsCons, ↓W_gTp, ↓W_gIx, ↓W_bFor, ↓W_bWhile, ↓W_iRg1, ↓W_iRg2, ↓W_iSq, ↓W_eLc, ↓W_eSl, ↓W_pN, ↓W_pS, ↓W_iEn, ↓W_iZp, ↓W_iRv, ↓W_iRg3, ↓W_eCh, ↓W_chIf, ↓W_bind, ↓W_map, ↓W_some, ↓W_none,
  Hd.get, List.getElem?_cons_zero, List.getElem?_cons_succ, List.getD_cons_zero, List.getD_cons_succ, List.set_cons_zero, List.set_cons_succ, List.length_cons, List.length_nil, List.map_cons, List.map_nil, List.replicate, List.cons_append, List.nil_append, Nat.reduceAdd, Nat.reduceSub, Nat.reduceLeDiff, Nat.zero_add,
  D.frz, D.frzL, D.fz, D.fzL, tru_b, tru_i, tru_n, tru_l, tru_t, tru_c, tms, wipeD, unw, lend, unlend, keepL, Option.map_some, Option.bind_some, Bool.and_true, Bool.true_and, Bool.not_true, Bool.not_false, ↓reduceIte, if_true, if_false, Bool.false_eq_true, true_and, and_true, ite_b, ite_nb, vv_fmtI, vv_fmtS, vv_reprI, vv_reprS, vv_addS, vv_lenS, vv_eqS, vv_neS, vv_addL, vv_addT,
  vv_add, vv_sub, vv_mul, vv_div, vv_mod, vv_pow, vv_shl, vv_shr, vv_neg, vv_lt, vv_le, vv_gt, vv_ge, vv_int, vv_intS, vv_intb, vv_abs, vv_gcd, vv_max2, vv_min2, vv_lenL, vv_lenC, vv_lenT, vv_idxL, vv_idxC, vv_idxT, vv_eqI, vv_eqB, vv_neI, vv_list, vv_listT, vv_tuple, vv_tupleT, vv_sum, vv_slL, vv_slS, vv_slT, vv_index, vv_count, isL_l, isL_c, lenL_l, lenL_c, kindL, vv_maxL, vv_minL, vv_strI, vv_app, vv_isNN, vv_isIN, vv_isSN, vv_isBN, vv_isLN, vv_isTN, vv_isBB, vv_isNB, vv_isIB, vv_isSB, vv_isLB, vv_isTB, vv_inNN, vv_inIN, vv_inSN, vv_inBN, vv_inLN, vv_inTN, vv_inBB, atF0, atF1, atF2, atF3, atF4, atF5, okI, okB, okS, okN, okL, ix0, ix1, ix2, frzL_int, fzL_int, intsD_map, isiI_int, isiI_str, isiI_bool, isiI_list, isiI_tuple, isiS_int, isiS_str, isiS_bool, isiS_list, isiS_tuple, isiB_int, isiB_str, isiB_bool, isiB_list, isiB_tuple, isiL_int, isiL_str, isiL_bool, isiL_list, isiL_tuple, isiT_int, isiT_str, isiT_bool, isiT_list, isiT_tuple, isiN_int, isiN_str, isiN_bool, isiN_list, isiN_tuple])

namespace Mv
/-! plain laws of fractions -/
abbrev pr (a b : Int) : D := .tup [.int a, .int b]
theorem pr_frz {a b : Int} : (pr a b).frz = true := rfl
def lowP (t b : Int) : Int := if b < 0 then -t / gd t b else t / gd t b
def lowQ (t b : Int) : Int := if b < 0 then -b / gd t b else b / gd t b
def Red (p q : Int) : Prop := 0 < q ∧ Nat.gcd p.natAbs q.natAbs = 1
theorem gd_pos {t b : Int} (h : b ≠ 0) : 0 < gd t b := by
  unfold gd
  have : 0 < Nat.gcd t.natAbs b.natAbs := Nat.gcd_pos_of_pos_right _ (by omega)
  omega
theorem gd_left {t b : Int} : gd t b ∣ t := Int.ofNat_dvd_left.mpr (Nat.gcd_dvd_left _ _)
theorem gd_right {t b : Int} : gd t b ∣ b := Int.ofNat_dvd_left.mpr (Nat.gcd_dvd_right _ _)
theorem gd_abs {t b : Int} (h : b ≠ 0) : (gd t b).natAbs ≤ b.natAbs := by
  unfold gd
  rw [Int.natAbs_natCast]
  exact Nat.gcd_le_right _ (by omega)
theorem low_red {t b : Int} (h : b ≠ 0) : Red (lowP t b) (lowQ t b) := by
  have hg := gd_pos (t := t) h
  obtain ⟨u, hu⟩ := gd_left (t := t) (b := b)
  obtain ⟨v, hv⟩ := gd_right (t := t) (b := b)
  have e1 : t / gd t b = u := by rw [Int.ediv_eq_iff_eq_mul_right (by omega) gd_left]; exact hu
  have e2 : b / gd t b = v := by rw [Int.ediv_eq_iff_eq_mul_right (by omega) gd_right]; exact hv
  have e3 : -t / gd t b = -u := by rw [Int.neg_ediv_of_dvd gd_left, e1]
  have e4 : -b / gd t b = -v := by rw [Int.neg_ediv_of_dvd gd_right, e2]
  have hc : Nat.gcd u.natAbs v.natAbs = 1 := by
    have h1 : t.natAbs = Nat.gcd t.natAbs b.natAbs * u.natAbs := by
      conv => lhs; rw [hu, Int.natAbs_mul]
      unfold gd; rw [Int.natAbs_natCast]
    have h2 : b.natAbs = Nat.gcd t.natAbs b.natAbs * v.natAbs := by
      conv => lhs; rw [hv, Int.natAbs_mul]
      unfold gd; rw [Int.natAbs_natCast]
    have h3 : 0 < Nat.gcd t.natAbs b.natAbs := Nat.gcd_pos_of_pos_right _ (by omega)
    have h4 : Nat.gcd t.natAbs b.natAbs * Nat.gcd u.natAbs v.natAbs = Nat.gcd t.natAbs b.natAbs * 1 := by rw [← Nat.gcd_mul_left, ← h1, ← h2, Nat.mul_one]
    exact Nat.eq_of_mul_eq_mul_left h3 h4
  unfold lowP lowQ
  have hs1 : 0 < b → 0 < v := fun k => by
    rw [hv] at k
    exact Int.pos_of_mul_pos_right k hg
  have hs2 : b < 0 → v < 0 := fun k => by
    rw [hv] at k
    have k2 : 0 < gd t b * -v := by rw [Int.mul_neg]; omega
    have := Int.pos_of_mul_pos_right k2 hg
    omega
  by_cases hb : b < 0
  · rw [if_pos hb, if_pos hb, e3, e4]
    exact ⟨by have := hs2 hb; omega, by rw [Int.natAbs_neg, Int.natAbs_neg]; exact hc⟩
  · rw [if_neg hb, if_neg hb, e1, e2]
    exact ⟨hs1 (by omega), hc⟩
theorem lowP_le {t b : Int} (h : b ≠ 0) : (lowP t b).natAbs ≤ t.natAbs := by
  have hg := gd_pos (t := t) h
  unfold lowP
  split
  · rw [← Int.natAbs_neg t]; exact Int.natAbs_ediv_le_natAbs _ _
  · exact Int.natAbs_ediv_le_natAbs _ _
theorem lowQ_le {t b : Int} (h : b ≠ 0) : (lowQ t b).natAbs ≤ b.natAbs := by
  unfold lowQ
  split
  · rw [← Int.natAbs_neg b]; exact Int.natAbs_ediv_le_natAbs _ _
  · exact Int.natAbs_ediv_le_natAbs _ _
theorem low_mul {p q k : Int} (h : Red p q) (hk : k ≠ 0) : lowP (p * k) (q * k) = p ∧ lowQ (p * k) (q * k) = q := by
  obtain ⟨hq, hc⟩ := h
  have hg : gd (p * k) (q * k) = (k.natAbs : Int) := by
    unfold gd
    rw [Int.natAbs_mul, Int.natAbs_mul, Nat.gcd_mul_right, hc, Nat.one_mul]
  unfold lowP lowQ
  rw [hg]
  rcases Int.lt_or_gt_of_ne hk with h0 | h0
  · have : q * k < 0 := Int.mul_neg_of_pos_of_neg hq h0
    rw [if_pos this, if_pos this]
    have e : (k.natAbs : Int) = -k := by omega
    rw [e, ← Int.mul_neg, ← Int.mul_neg, Int.mul_ediv_cancel _ (by omega), Int.mul_ediv_cancel _ (by omega)]
    exact ⟨rfl, rfl⟩
  · have : 0 < q * k := Int.mul_pos hq h0
    rw [if_neg (by omega), if_neg (by omega)]
    have e : (k.natAbs : Int) = k := by omega
    rw [e, Int.mul_ediv_cancel _ (by omega), Int.mul_ediv_cancel _ (by omega)]
    exact ⟨rfl, rfl⟩
theorem low_self {p q : Int} (h : Red p q) : lowP p q = p ∧ lowQ p q = q := by
  have := low_mul h (k := 1) (by decide)
  rwa [Int.mul_one, Int.mul_one] at this
theorem fdiv_neg {t g : Int} (hg : 0 < g) (h : g ∣ t) : t.fdiv (-g) = -t / g := by
  obtain ⟨u, rfl⟩ := h
  have e : g * u = -u * -g := by rw [Int.neg_mul_neg, Int.mul_comm]
  rw [Int.neg_ediv_of_dvd ⟨u, rfl⟩, Int.mul_ediv_cancel_left _ (by omega), e, Int.mul_fdiv_cancel _ (by omega)]

end Mv
namespace Mv.Sums
noncomputable def d_fraction : Ev → Option Out := bCons (bAsg (eN gGcd (aCons (hV 0) (aCons (hV 1) aNil))) (gNm 2)) (bCons (bIf (tB' (e2 gLt (hV 1) (hE (eC (.int 0))))) (bAsg (e1 gNeg (hV 2)) (gNm 2)) (bNil)) (bRet (eTup (aCons (hE (e2 gDiv (hV 0) (hV 2))) (aCons (hE (e2 gDiv (hV 1) (hV 2))) aNil)))))
noncomputable def F_fraction : List D → Option (D × List D) := fnD [true, true] 3 d_fraction
noncomputable def d_is_less : Ev → Option Out := bRet (e2 gLt (hE (e2 gMul (hE (e2 gIdx (hV 0) (hE (eC (.int 0))))) (hE (e2 gIdx (hV 1) (hE (eC (.int 1))))))) (hE (e2 gMul (hE (e2 gIdx (hV 1) (hE (eC (.int 0))))) (hE (e2 gIdx (hV 0) (hE (eC (.int 1))))))))
noncomputable def F_is_less : List D → Option (D × List D) := fnD [true, true] 2 d_is_less
noncomputable def d_plus : Ev → Option Out := bRet (eCall 2 F_fraction (aCons (hE (e2 gAdd (hE (e2 gMul (hE (e2 gIdx (hV 0) (hE (eC (.int 0))))) (hE (e2 gIdx (hV 1) (hE (eC (.int 1))))))) (hE (e2 gMul (hE (e2 gIdx (hV 1) (hE (eC (.int 0))))) (hE (e2 gIdx (hV 0) (hE (eC (.int 1))))))))) (aCons (hE (e2 gMul (hE (e2 gIdx (hV 0) (hE (eC (.int 1))))) (hE (e2 gIdx (hV 1) (hE (eC (.int 1))))))) aNil)))
noncomputable def F_plus : List D → Option (D × List D) := fnD [true, true] 2 d_plus
noncomputable def d_minus : Ev → Option Out := bRet (eCall 2 F_fraction (aCons (hE (e2 gSubt (hE (e2 gMul (hE (e2 gIdx (hV 0) (hE (eC (.int 0))))) (hE (e2 gIdx (hV 1) (hE (eC (.int 1))))))) (hE (e2 gMul (hE (e2 gIdx (hV 1) (hE (eC (.int 0))))) (hE (e2 gIdx (hV 0) (hE (eC (.int 1))))))))) (aCons (hE (e2 gMul (hE (e2 gIdx (hV 0) (hE (eC (.int 1))))) (hE (e2 gIdx (hV 1) (hE (eC (.int 1))))))) aNil)))
noncomputable def F_minus : List D → Option (D × List D) := fnD [true, true] 2 d_minus
noncomputable def d_times : Ev → Option Out := bRet (eCall 2 F_fraction (aCons (hE (e2 gMul (hE (e2 gIdx (hV 0) (hE (eC (.int 0))))) (hE (e2 gIdx (hV 1) (hE (eC (.int 0))))))) (aCons (hE (e2 gMul (hE (e2 gIdx (hV 0) (hE (eC (.int 1))))) (hE (e2 gIdx (hV 1) (hE (eC (.int 1))))))) aNil)))
noncomputable def F_times : List D → Option (D × List D) := fnD [true, true] 2 d_times
noncomputable def d_over : Ev → Option Out := bRet (eCall 2 F_fraction (aCons (hE (e2 gMul (hE (e2 gIdx (hV 0) (hE (eC (.int 0))))) (hE (e2 gIdx (hV 1) (hE (eC (.int 1))))))) (aCons (hE (e2 gMul (hE (e2 gIdx (hV 0) (hE (eC (.int 1))))) (hE (e2 gIdx (hV 1) (hE (eC (.int 0))))))) aNil)))
noncomputable def F_over : List D → Option (D × List D) := fnD [true, true] 2 d_over
theorem dok {j : Int} (h : 0 < j) (h2 : j.natAbs < 2 ^ 4000) : DivOk j := ⟨h, h2⟩
theorem ndok {g : Int} (h : 0 < g) : ¬ DivOk (-g) := fun k => by have := k.1; omega
theorem dno {j : Int} (h : j < 0) (h2 : j.natAbs < 2 ^ 4000) : DivNo j := ⟨h, h2⟩
theorem fraction_ok {t b : Int} (hb : b ≠ 0) (hs : b.natAbs < 2 ^ 4000) : F_fraction [.int t, .int b] = some (pr (lowP t b) (lowQ t b), [.int t, .int b]) := by
  have hg := gd_pos (t := t) hb
  have hl := gd_abs (t := t) hb
  have hl2 := Nat.lt_of_le_of_lt hl hs
  apply of_W
  unfold F_fraction
  rw [W_fnD rfl]
  unfold d_fraction
  walk_at "ev"
  split
  · rename_i hb0
    rw [W_no (ndok hg), W_ok (dno (by omega) (by rw [Int.natAbs_neg]; exact hl2)), W_no (ndok hg), W_ok (dno (by omega) (by rw [Int.natAbs_neg]; exact hl2))]
    rw [fdiv_neg hg gd_left, fdiv_neg hg gd_right]
    unfold lowP lowQ
    rw [if_pos hb0, if_pos hb0]
  · rename_i hb0
    rw [W_ok (dok hg hl2), W_ok (dok hg hl2)]
    unfold lowP lowQ
    rw [if_neg hb0, if_neg hb0]
theorem bd_ok {b d : Int} (hb : b.natAbs < 2 ^ 1000) (hd : d.natAbs < 2 ^ 64) (h1 : b ≠ 0) (h2 : d ≠ 0) : b * d ≠ 0 ∧ (b * d).natAbs < 2 ^ 4000 :=
  ⟨Int.mul_ne_zero h1 h2, Nat.lt_of_lt_of_le (mul_lt hb hd) (by rw [← Nat.pow_add]; exact Nat.pow_le_pow_right (by decide) (by decide))⟩
section
variable {a b c d : Int} (hc : c.natAbs < 2 ^ 64) (hd : d.natAbs < 2 ^ 64) (hb : b.natAbs < 2 ^ 1000) (hd0 : d ≠ 0) (hb0 : b ≠ 0)
include hc hd hb hd0 hb0
theorem plus_ok : F_plus [pr a b, pr c d] = some (pr (lowP (a * d + c * b) (b * d)) (lowQ (a * d + c * b) (b * d)), [pr a b, pr c d]) := by
  obtain ⟨e1, e2⟩ := bd_ok hb hd hb0 hd0
  apply of_W
  unfold F_plus
  rw [W_fnD rfl]
  unfold d_plus
  walk_at "ev"
  rw [W_ok (MulOk.right hd)]
  rw [W_ok (MulOk.left hc)]
  walk_at "ev"
  rw [W_ok (MulOk.right hd), W_eq (fraction_ok e1 e2)]
  walk_at "ev"
theorem minus_ok : F_minus [pr a b, pr c d] = some (pr (lowP (a * d - c * b) (b * d)) (lowQ (a * d - c * b) (b * d)), [pr a b, pr c d]) := by
  obtain ⟨e1, e2⟩ := bd_ok hb hd hb0 hd0
  apply of_W
  unfold F_minus
  rw [W_fnD rfl]
  unfold d_minus
  walk_at "ev"
  rw [W_ok (MulOk.right hd)]
  rw [W_ok (MulOk.left hc)]
  walk_at "ev"
  rw [W_ok (MulOk.right hd), W_eq (fraction_ok e1 e2)]
  walk_at "ev"
theorem times_ok : F_times [pr a b, pr c d] = some (pr (lowP (a * c) (b * d)) (lowQ (a * c) (b * d)), [pr a b, pr c d]) := by
  obtain ⟨e1, e2⟩ := bd_ok hb hd hb0 hd0
  apply of_W
  unfold F_times
  rw [W_fnD rfl]
  unfold d_times
  walk_at "ev"
  rw [W_ok (MulOk.right hc)]
  rw [W_ok (MulOk.right hd), W_eq (fraction_ok e1 e2)]
  walk_at "ev"
theorem over_ok (hc0 : c ≠ 0) : F_over [pr a b, pr c d] = some (pr (lowP (a * d) (b * c)) (lowQ (a * d) (b * c)), [pr a b, pr c d]) := by
  obtain ⟨e1, e2⟩ := bd_ok hb hc hb0 hc0
  apply of_W
  unfold F_over
  rw [W_fnD rfl]
  unfold d_over
  walk_at "ev"
  rw [W_ok (MulOk.right hd)]
  rw [W_ok (MulOk.right hc), W_eq (fraction_ok e1 e2)]
  walk_at "ev"
theorem less_ok : F_is_less [pr a b, pr c d] = some (.bl (decide (a * d < c * b)), [pr a b, pr c d]) := by
  apply of_W
  unfold F_is_less
  rw [W_fnD rfl]
  unfold d_is_less
  walk_at "ev"
  rw [W_ok (MulOk.right hd)]
  rw [W_ok (MulOk.left hc)]
  walk_at "ev"
end
end Mv.Sums
namespace Mv
theorem euclid {a b : Int} (ha : 0 ≤ a) (hb : 0 < b) : Nat.gcd b.natAbs (a % b).natAbs = Nat.gcd a.natAbs b.natAbs := by
  have h1 : (a % b).natAbs = a.natAbs % b.natAbs := by
    have e : a = (a.natAbs : Int) := by omega
    have e2 : b = (b.natAbs : Int) := by omega
    conv => lhs; rw [e, e2]
    rw [← Int.natCast_emod, Int.natAbs_natCast]
  rw [h1, Nat.gcd_comm a.natAbs, Nat.gcd_rec b.natAbs a.natAbs, Nat.gcd_comm]
theorem halve {a b : Int} (hb : 0 < b) (h : b < a) : 2 * (b * (a % b)) < a * b := by
  have h1 := Int.emod_nonneg a (b := b) (by omega)
  have h2 := Int.emod_lt_of_pos a hb
  have h3 := Int.mul_ediv_add_emod a b
  have h4 : 1 ≤ a / b := by
    rw [Int.le_ediv_iff_mul_le hb]; omega
  have h5 : b ≤ b * (a / b) := by
    have := Int.mul_le_mul_of_nonneg_left h4 (by omega : 0 ≤ b)
    omega
  have h6 : 2 * (a % b) < a := by omega
  have h7 := Int.mul_lt_mul_of_pos_left h6 hb
  rw [Int.mul_left_comm, Int.mul_comm a b]
  exact h7
theorem gd_zero {a : Int} (h : 0 ≤ a) : gd a 0 = a := by
  unfold gd
  rw [Int.natAbs_zero, Nat.gcd_zero_right]; omega
end Mv
end
section
set_option Elab.async false
set_option linter.all false
set_option maxRecDepth 100000
set_option maxHeartbeats 4000000
set_option exponentiation.threshold 5000
open PySem Mv Mv.PreA
local macro_rules | `(tactic| walk_at "ev") => `(tactic| try simp only [↓W_bCons, ↓W_bNil, ↓W_bBrk, ↓W_bCnt, ↓W_bExp, ↓W_bRet, ↓W_bRetN, ↓W_bIf, ↓W_bAsg, ↓W_bPar, ↓W_bAug, ↓W_eC, ↓W_eV, ↓W_eM, ↓W_hV, ↓W_hE, ↓W_eFz, ↓W_e1, ↓W_e2, ↓W_aNil, ↓W_aCons, ↓W_eN, ↓W_eTup, ↓W_eLst, ↓W_eCall, ↓W_eMut, ↓W_eMt, ↓W_eIf, ↓W_eAn, ↓W_eOr, ↓W_eNo, ↓W_eJ0, ↓W_eJ1, ↓W_tT, ↓W_tB, ↓W_tNo, ↓W_tAn, ↓W_tOr, ↓W_tAll, ↓W_gNm, ↓W_gsNil, ↓W_gsCons, ↓W_gTp, ↓W_gIx, ↓W_bFor, ↓W_bWhile, ↓W_iRg1, ↓W_iRg2, ↓W_iSq, ↓W_eLc, ↓W_eSl, ↓W_pN, ↓W_pS, ↓W_iEn, ↓W_iZp, ↓W_iRv, ↓W_iRg3, ↓W_iRgV, ↓W_eCh, ↓W_chIf, ↓W_bind, ↓W_map, ↓W_some, ↓W_none,
  Hd.get, List.getElem?_cons_zero, List.getElem?_cons_succ, List.getD_cons_zero, List.getD_cons_succ, List.set_cons_zero, List.set_cons_succ, List.length_cons, List.length_nil, List.map_cons, List.map_nil, List.replicate, List.cons_append, List.nil_append, Nat.reduceAdd, Nat.reduceSub, Nat.reduceLeDiff, Nat.zero_add,
  D.frz, D.frzL, D.fz, D.fzL, tru_b, tru_i, tru_n, tru_l, tru_t, tru_c, tms, wipeD, unw, lend, unlend, keepL, Option.map_some, Option.bind_some, Bool.and_true, Bool.true_and, Bool.not_true, Bool.not_false, ↓reduceIte, if_true, if_false, Bool.false_eq_true, true_and, and_true, ite_b, ite_nb, vv_fmtI, vv_fmtS, vv_reprI, vv_reprS, vv_addS, vv_lenS, vv_eqS, vv_neS, vv_addL, vv_addT,
  vv_add, vv_sub, vv_mul, vv_div, vv_mod, vv_pow, vv_shl, vv_shr, vv_neg, vv_lt, vv_le, vv_gt, vv_ge, vv_int, vv_intS, vv_intb, vv_abs, vv_gcd, vv_max2, vv_min2, vv_lenL, vv_lenC, vv_lenT, vv_idxL, vv_idxC, vv_idxT, vv_eqI, vv_eqB, vv_neI, vv_list, vv_listT, vv_tuple, vv_tupleT, vv_sum, vv_slL, vv_slS, vv_slT, vv_range, vv_index, vv_count, isL_l, isL_c, lenL_l, lenL_c, kindL, vv_maxL, vv_minL, vv_strI, vv_app, vv_isNN, vv_isIN, vv_isSN, vv_isBN, vv_isLN, vv_isTN, vv_isBB, vv_isNB, vv_isIB, vv_isSB, vv_isLB, vv_isTB, vv_inNN, vv_inIN, vv_inSN, vv_inBN, vv_inLN, vv_inTN, vv_inBB, atF0, atF1, atF2, atF3, atF4, atF5, okI, okB, okS, okN, okL, ix0, ix1, ix2, frzL_int, fzL_int, intsD_map, isiI_int, isiI_str, isiI_bool, isiI_list, isiI_tuple, isiS_int, isiS_str, isiS_bool, isiS_list, isiS_tuple, isiB_int, isiB_str, isiB_bool, isiB_list, isiB_tuple, isiL_int, isiL_str, isiL_bool, isiL_list, isiL_tuple, isiT_int, isiT_str, isiT_bool, isiT_list, isiT_tuple, isiN_int, isiN_str, isiN_bool, isiN_list, isiN_tuple])
local macro_rules | `(tactic| walk_at "mu") => `(tactic| repeat (first | (rw [W_ok (MulOk.right (by omega))]; walk_at "ev") | (rw [W_ok (MulOk.left (by omega))]; walk_at "ev") | (rw [W_ok (divok (by omega) (by omega))]; walk_at "ev") | (rw [W_ok (by omega)]; walk_at "ev")))
namespace Mv
/-! fractions in lowest terms, told by any top and bottom -/
abbrev fr (t b : Int) : D := pr (lowP t b) (lowQ t b)
theorem fr_frz {t b : Int} : (fr t b).frz = true := rfl
theorem fr_fz {t b : Int} : (fr t b).fz = fr t b := rfl
theorem low_id {t b : Int} (h : b ≠ 0) : lowP t b * b = t * lowQ t b ∧ 0 < lowQ t b := by
  refine ⟨?_, (low_red h).1⟩
  have hg := gd_pos (t := t) h
  obtain ⟨u, hu⟩ := gd_left (t := t) (b := b)
  obtain ⟨v, hv⟩ := gd_right (t := t) (b := b)
  have e1 : t / gd t b = u := by rw [Int.ediv_eq_iff_eq_mul_right (by omega) gd_left]; exact hu
  have e2 : b / gd t b = v := by rw [Int.ediv_eq_iff_eq_mul_right (by omega) gd_right]; exact hv
  have e3 : -t / gd t b = -u := by rw [Int.neg_ediv_of_dvd gd_left, e1]
  have e4 : -b / gd t b = -v := by rw [Int.neg_ediv_of_dvd gd_right, e2]
  unfold lowP lowQ
  rw [e1, e2, e3, e4]
  generalize gd t b = g at *
  subst hu
  split
  · rw [hv]; grind
  · rw [hv]; grind
theorem low_cross {t b t' b' : Int} (h : b ≠ 0) (h' : b' ≠ 0) (e : t * b' = t' * b) : lowP t b = lowP t' b' ∧ lowQ t b = lowQ t' b' := by
  obtain ⟨i1, i2⟩ := low_id (t := t) h
  have hr := low_red (t := t) h
  generalize lowP t b = p at *
  generalize lowQ t b = q at *
  have e1 : p * b' = q * t' := by
    have : b * (p * b') = b * (q * t') := by grind
    exact Int.eq_of_mul_eq_mul_left h this
  have hd : q.natAbs ∣ p.natAbs * b'.natAbs := by
    rw [← Int.natAbs_mul, e1, Int.natAbs_mul]; exact Nat.dvd_mul_right _ _
  have hd2 : q.natAbs ∣ b'.natAbs := Nat.Coprime.dvd_of_dvd_mul_left (Nat.Coprime.symm hr.2) hd
  obtain ⟨k, hk⟩ := Int.natAbs_dvd_natAbs.mp hd2
  have e2 : t' = p * k := by
    have : q * t' = q * (p * k) := by rw [← e1, hk]; grind
    exact Int.eq_of_mul_eq_mul_left (by omega) this
  have hk0 : k ≠ 0 := fun z => h' (by rw [hk, z, Int.mul_zero])
  obtain ⟨m1, m2⟩ := low_mul hr hk0
  rw [e2, hk, m1, m2]
  exact ⟨rfl, rfl⟩
theorem fr_cross {t b t' b' : Int} (h : b ≠ 0) (h' : b' ≠ 0) (e : t * b' = t' * b) : fr t b = fr t' b' := by
  obtain ⟨e1, e2⟩ := low_cross h h' e
  unfold fr
  rw [e1, e2]
theorem fr_zero {b : Int} (h : b ≠ 0) : fr 0 b = pr 0 1 := by
  rw [fr_cross h (t' := 0) (b' := 1) (by decide) (by omega)]
  rfl
theorem fr_one {a : Int} : fr a 1 = pr a 1 := by
  have h : Red a 1 := ⟨by decide, Nat.gcd_one_right _⟩
  unfold fr
  rw [(low_self h).1, (low_self h).2]
theorem low_le {t b : Int} (h : b ≠ 0) : (lowP t b).natAbs ≤ t.natAbs ∧ (lowQ t b).natAbs ≤ b.natAbs := ⟨lowP_le h, lowQ_le h⟩
theorem sm_fr {n : Nat} {t b : Int} (h : b ≠ 0) (h1 : t.natAbs < 2 ^ 64) (h2 : b.natAbs < 2 ^ 64) : Sm (n + 2) (fr t b) (fr t b) := by
  have := low_le (t := t) h
  exact sm_t2 (sm_int (by omega)) (sm_int (by omega)) ⟨rfl, rfl⟩ ⟨rfl, rfl⟩
section
variable {a b c d : Int} (hc : c.natAbs < 2 ^ 64) (hd : d.natAbs < 2 ^ 64) (hb : b.natAbs < 2 ^ 1000) (hd0 : d ≠ 0) (hb0 : b ≠ 0)
include hc hd hb hd0 hb0
theorem plusF : Sums.F_plus [fr a b, fr c d] = some (fr (a * d + c * b) (b * d), [fr a b, fr c d]) := by
  have l1 := low_le (t := a) hb0
  have l2 := low_le (t := c) hd0
  obtain ⟨i1, i2⟩ := low_id (t := a) hb0
  obtain ⟨j1, j2⟩ := low_id (t := c) hd0
  have := Sums.plus_ok (a := lowP a b) (b := lowQ a b) (c := lowP c d) (d := lowQ c d) (by omega) (by omega) (by omega) (by omega) (by omega)
  unfold fr
  rw [this]
  have e := low_cross (t := lowP a b * lowQ c d + lowP c d * lowQ a b) (b := lowQ a b * lowQ c d) (t' := a * d + c * b) (b' := b * d) (Int.mul_ne_zero (by omega) (by omega)) (Int.mul_ne_zero hb0 hd0) (by grind)
  rw [e.1, e.2]
theorem minusF : Sums.F_minus [fr a b, fr c d] = some (fr (a * d - c * b) (b * d), [fr a b, fr c d]) := by
  have l1 := low_le (t := a) hb0
  have l2 := low_le (t := c) hd0
  obtain ⟨i1, i2⟩ := low_id (t := a) hb0
  obtain ⟨j1, j2⟩ := low_id (t := c) hd0
  have := Sums.minus_ok (a := lowP a b) (b := lowQ a b) (c := lowP c d) (d := lowQ c d) (by omega) (by omega) (by omega) (by omega) (by omega)
  unfold fr
  rw [this]
  have e := low_cross (t := lowP a b * lowQ c d - lowP c d * lowQ a b) (b := lowQ a b * lowQ c d) (t' := a * d - c * b) (b' := b * d) (Int.mul_ne_zero (by omega) (by omega)) (Int.mul_ne_zero hb0 hd0) (by grind)
  rw [e.1, e.2]
theorem timesF : Sums.F_times [fr a b, fr c d] = some (fr (a * c) (b * d), [fr a b, fr c d]) := by
  have l1 := low_le (t := a) hb0
  have l2 := low_le (t := c) hd0
  obtain ⟨i1, i2⟩ := low_id (t := a) hb0
  obtain ⟨j1, j2⟩ := low_id (t := c) hd0
  have := Sums.times_ok (a := lowP a b) (b := lowQ a b) (c := lowP c d) (d := lowQ c d) (by omega) (by omega) (by omega) (by omega) (by omega)
  unfold fr
  rw [this]
  have e := low_cross (t := lowP a b * lowP c d) (b := lowQ a b * lowQ c d) (t' := a * c) (b' := b * d) (Int.mul_ne_zero (by omega) (by omega)) (Int.mul_ne_zero hb0 hd0) (by grind)
  rw [e.1, e.2]
theorem overF (hc0 : c ≠ 0) : Sums.F_over [fr a b, fr c d] = some (fr (a * d) (b * c), [fr a b, fr c d]) := by
  have l1 := low_le (t := a) hb0
  have l2 := low_le (t := c) hd0
  obtain ⟨i1, i2⟩ := low_id (t := a) hb0
  obtain ⟨j1, j2⟩ := low_id (t := c) hd0
  have hp : lowP c d ≠ 0 := fun z => by
    rw [z, Int.zero_mul] at j1
    rcases Int.mul_eq_zero.mp j1.symm with h | h
    · exact hc0 h
    · omega
  have := Sums.over_ok (a := lowP a b) (b := lowQ a b) (c := lowP c d) (d := lowQ c d) (by omega) (by omega) (by omega) (by omega) (by omega) hp
  unfold fr
  rw [this]
  have e := low_cross (t := lowP a b * lowQ c d) (b := lowQ a b * lowP c d) (t' := a * d) (b' := b * c) (Int.mul_ne_zero (by omega) hp) (Int.mul_ne_zero hb0 hc0) (by grind)
  rw [e.1, e.2]
theorem lessF (hbp : 0 < b) (hdp : 0 < d) : Sums.F_is_less [fr a b, fr c d] = some (.bl (decide (a * d < c * b)), [fr a b, fr c d]) := by
  have l1 := low_le (t := a) hb0
  have l2 := low_le (t := c) hd0
  obtain ⟨i1, i2⟩ := low_id (t := a) hb0
  obtain ⟨j1, j2⟩ := low_id (t := c) hd0
  have := Sums.less_ok (a := lowP a b) (b := lowQ a b) (c := lowP c d) (d := lowQ c d) (by omega) (by omega) (by omega) (by omega) (by omega)
  unfold fr
  rw [this]
  have e : (lowP a b * lowQ c d < lowP c d * lowQ a b) ↔ (a * d < c * b) := by
    have h1 : 0 < b * d := Int.mul_pos hbp hdp
    have h2 : 0 < lowQ a b * lowQ c d := Int.mul_pos i2 j2
    rw [← Int.mul_lt_mul_right h1, show lowP a b * lowQ c d * (b * d) = (a * d) * (lowQ a b * lowQ c d) by grind, show lowP c d * lowQ a b * (b * d) = (c * b) * (lowQ a b * lowQ c d) by grind, Int.mul_lt_mul_right h2]
  rw [decide_eq_decide.mpr e]
end
theorem fractionF {t b : Int} (hb : b ≠ 0) (hs : b.natAbs < 2 ^ 4000) : Sums.F_fraction [.int t, .int b] = some (fr t b, [.int t, .int b]) := Sums.fraction_ok hb hs
end Mv
end
section
set_option Elab.async false
set_option linter.all false
set_option maxRecDepth 100000
set_option maxHeartbeats 4000000
set_option exponentiation.threshold 5000
open PySem Mv Mv.PreA
local macro_rules | `(tactic| walk_at "ev") => `(tactic| try simp only [↓W_bCons, ↓W_bNil, ↓W_bBrk, ↓W_bCnt, ↓W_bExp, ↓W_bRet, ↓W_bRetN, ↓W_bIf, ↓W_bAsg, ↓W_bPar, ↓W_bAug, ↓W_eC, ↓W_eV, ↓W_eM, ↓W_hV, ↓W_hE, ↓W_eFz, ↓W_e1, ↓W_e2, ↓W_aNil, ↓W_aCons, ↓W_eN, ↓W_eTup, ↓W_eLst, ↓W_eCall, ↓W_eMut, ↓W_eMt, ↓W_eIf, ↓W_eAn, ↓W_eOr, ↓W_eNo, ↓W_eJ0, ↓W_eJ1, ↓W_tT, ↓W_tB, ↓W_tNo, ↓W_tAn, ↓W_tOr, ↓W_tAll, ↓W_gNm, ↓W_gsNil, ↓W_gsCons, ↓W_gTp, ↓W_gIx, ↓W_bFor, ↓W_bWhile, ↓W_iRg1, ↓W_iRg2, ↓W_iSq, ↓W_eLc, ↓W_eSl, ↓W_pN, ↓W_pS, ↓W_iEn, ↓W_iZp, ↓W_iRv, ↓W_iRg3, ↓W_iRgV, ↓W_eCh, ↓W_chIf, ↓W_bind, ↓W_map, ↓W_some, ↓W_none,
  Hd.get, List.getElem?_cons_zero, List.getElem?_cons_succ, List.getD_cons_zero, List.getD_cons_succ, List.set_cons_zero, List.set_cons_succ, List.length_cons, List.length_nil, List.map_cons, List.map_nil, List.replicate, List.cons_append, List.nil_append, Nat.reduceAdd, Nat.reduceSub, Nat.reduceLeDiff, Nat.zero_add,
  D.frz, D.frzL, D.fz, D.fzL, tru_b, tru_i, tru_n, tru_l, tru_t, tru_c, tms, wipeD, unw, lend, unlend, keepL, Option.map_some, Option.bind_some, Bool.and_true, Bool.true_and, Bool.not_true, Bool.not_false, ↓reduceIte, if_true, if_false, Bool.false_eq_true, true_and, and_true, ite_b, ite_nb, vv_fmtI, vv_fmtS, vv_reprI, vv_reprS, vv_addS, vv_lenS, vv_eqS, vv_neS, vv_addL, vv_addT,
  vv_add, vv_sub, vv_mul, vv_div, vv_mod, vv_pow, vv_shl, vv_shr, vv_neg, vv_lt, vv_le, vv_gt, vv_ge, vv_int, vv_intS, vv_intb, vv_abs, vv_gcd, vv_max2, vv_min2, vv_lenL, vv_lenC, vv_lenT, vv_idxL, vv_idxC, vv_idxT, vv_eqI, vv_eqB, vv_neI, vv_list, vv_listT, vv_tuple, vv_tupleT, vv_sum, vv_slL, vv_slS, vv_slT, vv_range, vv_index, vv_count, isL_l, isL_c, lenL_l, lenL_c, kindL, vv_maxL, vv_minL, vv_strI, vv_app, vv_isNN, vv_isIN, vv_isSN, vv_isBN, vv_isLN, vv_isTN, vv_isBB, vv_isNB, vv_isIB, vv_isSB, vv_isLB, vv_isTB, vv_inNN, vv_inIN, vv_inSN, vv_inBN, vv_inLN, vv_inTN, vv_inBB, atF0, atF1, atF2, atF3, atF4, atF5, okI, okB, okS, okN, okL, ix0, ix1, ix2, frzL_int, fzL_int, intsD_map, isiI_int, isiI_str, isiI_bool, isiI_list, isiI_tuple, isiS_int, isiS_str, isiS_bool, isiS_list, isiS_tuple, isiB_int, isiB_str, isiB_bool, isiB_list, isiB_tuple, isiL_int, isiL_str, isiL_bool, isiL_list, isiL_tuple, isiT_int, isiT_str, isiT_bool, isiT_list, isiT_tuple, isiN_int, isiN_str, isiN_bool, isiN_list, isiN_tuple])
local macro_rules | `(tactic| walk_at "mu") => `(tactic| repeat (first | (rw [W_ok (MulOk.right (by omega))]; walk_at "ev") | (rw [W_ok (MulOk.left (by omega))]; walk_at "ev") | (rw [W_ok (divok (by omega) (by omega))]; walk_at "ev") | (rw [W_ok (by omega)]; walk_at "ev")))
namespace Mv.PreB
noncomputable def d_law_draw : Ev → Option Out := bCons (bAsg (e2 gAdd (hE (e2 gIdx (hV 0) (hE (eC (.int 1))))) (hE (eC (.int 1)))) (gIx 0 (hE (eC (.int 1))))) (bCons (bIf (tB' (e2 gGt (hE (e2 gIdx (hV 0) (hE (eC (.int 1))))) (hE (eN gLen (aCons (hE (e2 gIdx (hV 0) (hE (eC (.int 0))))) aNil))))) (bRet (e2 gMod (hE (eN gInt (aCons (hE (e2 gAdd (hE (e2 gAdd (hE (e2 gIdx (hE (e2 gIdx (hV 0) (hE (eC (.int 0))))) (hE (e2 gMod (hE (eN gInt (aCons (hE (e2 gMul (hE (e2 gIdx (hV 0) (hE (eC (.int 1))))) (hE (eC (.int 31))))) aNil))) (hE (eN gLen (aCons (hE (e2 gIdx (hV 0) (hE (eC (.int 0))))) aNil))))))) (hE (e2 gMul (hE (e2 gIdx (hV 0) (hE (eC (.int 1))))) (hE (eC (.int 7))))))) (hE (eC (.int 3))))) aNil))) (hV 1))) (bNil)) (bRet (e2 gMod (hE (eN gInt (aCons (hE (e2 gIdx (hE (e2 gIdx (hV 0) (hE (eC (.int 0))))) (hE (e2 gSubt (hE (e2 gIdx (hV 0) (hE (eC (.int 1))))) (hE (eC (.int 1))))))) aNil))) (hV 1))))
noncomputable def F_law_draw : List D → Option (D × List D) := fnD [true, true] 2 d_law_draw
noncomputable def d_law_pick : Ev → Option Out := bRet (e2 gIdx (hV 1) (hE (eCall 2 F_law_draw (aCons (hV 0) (aCons (hE (eN gLen (aCons (hV 1) aNil))) aNil)))))
noncomputable def F_law_pick : List D → Option (D × List D) := fnD [true, true] 2 d_law_pick
def drw (ds : List Int) (n m : Int) : Int := if (ds.length : Int) < n + 1 then (ds.getD (((n + 1) * 31) % (ds.length : Int)).toNat 0 + (n + 1) * 7 + 3) % m else ds.getD n.toNat 0 % m
theorem drw_nn {ds : List Int} {n m : Int} (hm : 0 < m) : 0 ≤ drw ds n m := by
  unfold drw
  split <;> exact Int.emod_nonneg _ (by omega)
theorem drw_lt {ds : List Int} {n m : Int} (hm : 0 < m) : drw ds n m < m := by
  unfold drw
  split <;> exact Int.emod_lt_of_pos _ hm
theorem draw_ok {ds : List Int} {n m : Int} (h0 : ds ≠ []) (hn : 0 ≤ n) (hm : 0 < m) : F_law_draw [bx ds n, .int m] = some (.int (drw ds n m), [bx ds (n + 1), .int m]) := by
  have hl : (0 : Int) < ds.length := by
    cases ds with
    | nil => exact absurd rfl h0
    | cons _ _ => simp
  apply of_W
  unfold F_law_draw bx
  rw [W_fnD rfl]
  unfold d_law_draw
  walk_at "ev"
  rw [List.length_map]
  unfold drw
  split
  · rename_i h
    rw [W_ok (MulOk.right (by decide))]
    walk_at "ev"
    rw [W_ok hl]
    walk_at "ev"
    obtain ⟨k, hk⟩ := Int.eq_ofNat_of_zero_le (show 0 ≤ (n + 1) * 31 % (ds.length : Int) from Int.emod_nonneg _ (by omega))
    have hk2 : k < ds.length := by
      have := Int.emod_lt_of_pos ((n + 1) * 31) hl
      omega
    rw [hk, atF_nat, List.getElem?_map, List.getElem?_eq_getElem hk2]
    show W (okD (.int ds[k])) _
    rw [okI, W_some]
    walk_at "ev"
    rw [W_ok (MulOk.right (by decide))]
    walk_at "ev"
    rw [W_ok hm]
    simp [hk2]
  · rename_i h
    obtain ⟨k, rfl⟩ := Int.eq_ofNat_of_zero_le hn
    have hk : k < ds.length := by omega
    rw [Int.add_sub_cancel, atF_nat, List.getElem?_map, List.getElem?_eq_getElem hk]
    show W (okD (.int ds[k])) _
    rw [okI, W_some]
    walk_at "ev"
    rw [W_ok hm]
    simp [hk]
theorem pick_ok {ds : List Int} {n : Int} {o : Bool} {xs : List D} (h0 : ds ≠ []) (hn : 0 ≤ n) (hx : xs ≠ []) : ∃ j, ∃ h : j < xs.length, F_law_pick [bx ds n, .lst o xs] = (okD xs[j]).map fun x => (x, [bx ds (n + 1), .lst o xs]) := by
  have hl : (0 : Int) < xs.length := by
    cases xs with
    | nil => exact absurd rfl hx
    | cons _ _ => simp
  obtain ⟨j, hj⟩ := Int.eq_ofNat_of_zero_le (drw_nn (ds := ds) (n := n) hl)
  have hj2 : j < xs.length := by
    have := drw_lt (ds := ds) (n := n) hl
    omega
  refine ⟨j, hj2, ?_⟩
  have key : ∀ (Q : D × List D → Prop), W (F_law_pick [bx ds n, .lst o xs]) Q = W (okD xs[j]) fun x => Q (x, [bx ds (n + 1), .lst o xs]) := fun Q => by
    unfold F_law_pick
    rw [W_fnD rfl]
    unfold d_law_pick
    walk_at "ev"
    have e := draw_ok (ds := ds) (n := n) (m := (xs.length : Int)) h0 hn hl
    unfold bx at e ⊢
    walk_at "ev"
    rw [W_eq e]
    cases o <;> (walk_at "ev"; rw [hj, atF_nat, List.getElem?_eq_getElem hj2]; rfl)
  cases h : okD xs[j] with
  | some x =>
    apply of_W
    rw [key, h, W_some]
  | none =>
    cases h2 : F_law_pick [bx ds n, .lst o xs] with
    | none => rfl
    | some r =>
      have := key fun _ => True
      rw [h, h2, W_some, W_none] at this
      exact absurd (this ▸ trivial : False) (by simp)
theorem pick_int {ds : List Int} {n : Int} {o : Bool} (ks : List Int) (h0 : ds ≠ []) (hn : 0 ≤ n) (hk : ks ≠ []) : ∃ k ∈ ks, F_law_pick [bx ds n, .lst o (ks.map D.int)] = some (.int k, [bx ds (n + 1), .lst o (ks.map D.int)]) := by
  obtain ⟨j, hj, e⟩ := pick_ok (ds := ds) (n := n) (o := o) (xs := ks.map D.int) h0 hn (by simpa using hk)
  have hj2 : j < ks.length := by simpa using hj
  refine ⟨ks[j], List.getElem_mem hj2, ?_⟩
  rw [e, List.getElem_map]
  rfl
end Mv.PreB
end
section
set_option Elab.async false
set_option linter.all false
set_option maxRecDepth 100000
set_option maxHeartbeats 4000000
set_option exponentiation.threshold 5000
open PySem Mv Mv.PreA
local macro_rules | `(tactic| walk_at "ev") => `(tactic| try simp only [↓W_bCons, ↓W_bNil, ↓W_bBrk, ↓W_bCnt, ↓W_bExp, ↓W_bRet, ↓W_bRetN, ↓W_bIf, ↓W_bAsg, ↓W_bPar, ↓W_bAug, ↓W_eC, ↓W_eV, ↓W_eM, ↓W_hV, ↓W_hE, ↓W_eFz, ↓W_e1, ↓W_e2, ↓W_aNil, ↓W_aCons, ↓W_eN, ↓W_eTup, ↓W_eLst, ↓W_eCall, ↓W_eMut, ↓W_eMt, ↓W_eIf, ↓W_eAn, ↓W_eOr, ↓W_eNo, ↓W_eJ0, ↓W_eJ1, ↓W_tT, ↓W_tB, ↓W_tNo, ↓W_tAn, ↓W_tOr, ↓W_tAll, ↓W_gNm, ↓W_gsNil, ↓W_gsCons, ↓W_gTp, ↓W_gIx, ↓W_bFor, ↓W_bWhile, ↓W_iRg1, ↓W_iRg2, ↓W_iSq, ↓W_eLc, ↓W_eSl, ↓W_pN, ↓W_pS, ↓W_iEn, ↓W_iZp, ↓W_iRv, ↓W_iRg3, ↓W_iRgV, ↓W_eCh, ↓W_chIf, ↓W_bind, ↓W_map, ↓W_some, ↓W_none,
  Hd.get, List.getElem?_cons_zero, List.getElem?_cons_succ, List.getD_cons_zero, List.getD_cons_succ, List.set_cons_zero, List.set_cons_succ, List.length_cons, List.length_nil, List.map_cons, List.map_nil, List.replicate, List.cons_append, List.nil_append, Nat.reduceAdd, Nat.reduceSub, Nat.reduceLeDiff, Nat.zero_add,
  D.frz, D.frzL, D.fz, D.fzL, tru_b, tru_i, tru_n, tru_l, tru_t, tru_c, tms, wipeD, unw, lend, unlend, keepL, Option.map_some, Option.bind_some, Bool.and_true, Bool.true_and, Bool.not_true, Bool.not_false, ↓reduceIte, if_true, if_false, Bool.false_eq_true, true_and, and_true, ite_b, ite_nb, vv_fmtI, vv_fmtS, vv_reprI, vv_reprS, vv_addS, vv_augI, vv_augS, vv_lenS, vv_eqS, vv_neS, vv_addL, vv_addT,
  vv_add, vv_sub, vv_mul, vv_div, vv_mod, vv_pow, vv_shl, vv_shr, vv_neg, vv_lt, vv_le, vv_gt, vv_ge, vv_int, vv_intS, vv_intb, vv_abs, vv_gcd, vv_max2, vv_min2, vv_lenL, vv_lenC, vv_lenT, vv_idxL, vv_idxC, vv_idxT, vv_eqI, vv_eqB, vv_neI, vv_list, vv_listT, vv_tuple, vv_tupleT, vv_sum, vv_slL, vv_slS, vv_slT, vv_range, vv_index, vv_count, isL_l, isL_c, lenL_l, lenL_c, kindL, vv_maxL, vv_minL, vv_strI, vv_app, vv_isNN, vv_isIN, vv_isSN, vv_isBN, vv_isLN, vv_isTN, vv_isBB, vv_isNB, vv_isIB, vv_isSB, vv_isLB, vv_isTB, vv_inNN, vv_inIN, vv_inSN, vv_inBN, vv_inLN, vv_inTN, vv_inBB, atF0, atF1, atF2, atF3, atF4, atF5, okI, okB, okS, okN, okL, ix0, ix1, ix2, frzL_int, fzL_int, intsD_map, isiI_int, isiI_str, isiI_bool, isiI_list, isiI_tuple, isiS_int, isiS_str, isiS_bool, isiS_list, isiS_tuple, isiB_int, isiB_str, isiB_bool, isiB_list, isiB_tuple, isiL_int, isiL_str, isiL_bool, isiL_list, isiL_tuple, isiT_int, isiT_str, isiT_bool, isiT_list, isiT_tuple, isiN_int, isiN_str, isiN_bool, isiN_list, isiN_tuple])
local macro_rules | `(tactic| walk_at "mu") => `(tactic| repeat (first | (rw [W_ok (MulOk.right (by omega))]; walk_at "ev") | (rw [W_ok (MulOk.left (by omega))]; walk_at "ev") | (rw [W_ok (divok (by omega) (by omega))]; walk_at "ev") | (rw [W_ok (by omega)]; walk_at "ev")))
namespace Mv
/-! fractions as rational numbers -/
abbrev rt (r : Rat) : D := pr r.num (r.den : Int)
theorem rt_red (r : Rat) : Red r.num (r.den : Int) := ⟨by have := r.den_pos; omega, by rw [Int.natAbs_natCast]; exact r.reduced⟩
theorem rat_nd (r : Rat) : r = (r.num : Rat) / ((r.den : Int) : Rat) := by rw [← Rat.divInt_eq_div, Rat.num_divInt_den]
theorem den_ne (r : Rat) : (r.den : Int) ≠ 0 := by have := r.den_pos; omega
theorem cast_ne {b : Int} (h : b ≠ 0) : (b : Rat) ≠ 0 := fun k => h (Rat.intCast_eq_zero_iff.mp k)
theorem num_low {t b : Int} (hb : b ≠ 0) : lowP t b = ((t : Rat) / (b : Rat)).num ∧ lowQ t b = (((t : Rat) / (b : Rat)).den : Int) := by
  generalize hr : (t : Rat) / (b : Rat) = r
  have h1 := rat_nd r
  have h2 := cast_ne hb
  have h3 := cast_ne (den_ne r)
  have e : t * (r.den : Int) = r.num * b := by
    have : ((t * (r.den : Int) : Int) : Rat) = ((r.num * b : Int) : Rat) := by
      rw [Rat.intCast_mul, Rat.intCast_mul]
      generalize ((r.den : Int) : Rat) = d at *
      generalize (r.num : Rat) = n at *
      grind
    exact Rat.intCast_inj.mp this
  obtain ⟨c1, c2⟩ := low_cross (t := t) (b := b) (t' := r.num) (b' := (r.den : Int)) hb (den_ne r) e
  obtain ⟨s1, s2⟩ := low_self (rt_red r)
  rw [c1, c2]
  exact ⟨s1, s2⟩
theorem fr_rt {t b : Int} (hb : b ≠ 0) : fr t b = rt ((t : Rat) / (b : Rat)) := by
  obtain ⟨e1, e2⟩ := num_low (t := t) hb
  show pr _ _ = pr _ _
  rw [e1, e2]
theorem rt_int (n : Int) : rt (n : Rat) = pr n 1 := by
  show pr _ _ = pr _ _
  rw [Rat.num_intCast, Rat.den_intCast]; rfl
/-- top and bottom are below 2 ^ n -/
def Sz (n : Nat) (r : Rat) : Prop := r.num.natAbs < 2 ^ n ∧ r.den < 2 ^ n
theorem Sz.mono {m n : Nat} {r : Rat} (h : Sz m r) (k : m ≤ n) : Sz n r := ⟨Nat.lt_of_lt_of_le h.1 (Nat.pow_le_pow_right (by decide) k), Nat.lt_of_lt_of_le h.2 (Nat.pow_le_pow_right (by decide) k)⟩
theorem sz_of {t b : Int} {n : Nat} (hb : b ≠ 0) (h1 : t.natAbs < 2 ^ n) (h2 : b.natAbs < 2 ^ n) : Sz n ((t : Rat) / (b : Rat)) := by
  obtain ⟨e1, e2⟩ := num_low (t := t) hb
  obtain ⟨l1, l2⟩ := low_le (t := t) hb
  refine ⟨by rw [← e1]; omega, ?_⟩
  have : (((t : Rat) / (b : Rat)).den : Int).natAbs = ((t : Rat) / (b : Rat)).den := Int.natAbs_natCast _
  rw [← this, ← e2]; omega
theorem Sz.den {n : Nat} {r : Rat} (h : Sz n r) : (r.den : Int).natAbs < 2 ^ n := by rw [Int.natAbs_natCast]; exact h.2
theorem rat_mul (r s : Rat) : r * s = ((r.num * s.num : Int) : Rat) / (((r.den : Int) * (s.den : Int) : Int) : Rat) := by
  have h1 := rat_nd r
  have h2 := rat_nd s
  have h3 := cast_ne (den_ne r)
  have h4 := cast_ne (den_ne s)
  rw [Rat.intCast_mul, Rat.intCast_mul]
  generalize ((r.den : Int) : Rat) = d at *
  generalize (r.num : Rat) = n at *
  generalize ((s.den : Int) : Rat) = d' at *
  generalize (s.num : Rat) = n' at *
  grind
theorem rat_add (r s : Rat) : r + s = ((r.num * (s.den : Int) + s.num * (r.den : Int) : Int) : Rat) / (((r.den : Int) * (s.den : Int) : Int) : Rat) := by
  have h1 := rat_nd r
  have h2 := rat_nd s
  have h3 := cast_ne (den_ne r)
  have h4 := cast_ne (den_ne s)
  rw [Rat.intCast_add, Rat.intCast_mul, Rat.intCast_mul, Rat.intCast_mul]
  generalize ((r.den : Int) : Rat) = d at *
  generalize (r.num : Rat) = n at *
  generalize ((s.den : Int) : Rat) = d' at *
  generalize (s.num : Rat) = n' at *
  grind
theorem rat_sub (r s : Rat) : r - s = ((r.num * (s.den : Int) - s.num * (r.den : Int) : Int) : Rat) / (((r.den : Int) * (s.den : Int) : Int) : Rat) := by
  have h1 := rat_nd r
  have h2 := rat_nd s
  have h3 := cast_ne (den_ne r)
  have h4 := cast_ne (den_ne s)
  rw [Rat.intCast_sub, Rat.intCast_mul, Rat.intCast_mul, Rat.intCast_mul]
  generalize ((r.den : Int) : Rat) = d at *
  generalize (r.num : Rat) = n at *
  generalize ((s.den : Int) : Rat) = d' at *
  generalize (s.num : Rat) = n' at *
  grind
theorem num_ne {s : Rat} (h : s ≠ 0) : s.num ≠ 0 := fun k => h (Rat.num_eq_zero.mp k)
theorem rat_div (r : Rat) {s : Rat} (hs : s ≠ 0) : r / s = ((r.num * (s.den : Int) : Int) : Rat) / (((r.den : Int) * s.num : Int) : Rat) := by
  have h1 := rat_nd r
  have h2 := rat_nd s
  have h3 := cast_ne (den_ne r)
  have h4 := cast_ne (den_ne s)
  have h5 := cast_ne (num_ne hs)
  rw [Rat.intCast_mul, Rat.intCast_mul]
  generalize ((r.den : Int) : Rat) = d at *
  generalize (r.num : Rat) = n at *
  generalize ((s.den : Int) : Rat) = d' at *
  generalize (s.num : Rat) = n' at *
  grind
theorem pow_pos' {n : Nat} : 0 < 2 ^ n := Nat.pow_pos (by decide)
theorem mul_sz {a b : Int} {m n : Nat} (h1 : a.natAbs < 2 ^ m) (h2 : b.natAbs < 2 ^ n) : (a * b).natAbs < 2 ^ (m + n) := by
  rw [Int.natAbs_mul, Nat.pow_add]
  exact Nat.mul_lt_mul'' h1 h2
theorem add_sz {a b : Int} {m : Nat} (h1 : a.natAbs < 2 ^ m) (h2 : b.natAbs < 2 ^ m) : (a + b).natAbs < 2 ^ (m + 1) := by
  rw [Nat.pow_succ]; omega
theorem sub_sz {a b : Int} {m : Nat} (h1 : a.natAbs < 2 ^ m) (h2 : b.natAbs < 2 ^ m) : (a - b).natAbs < 2 ^ (m + 1) := by
  rw [Nat.pow_succ]; omega
theorem up_sz {a : Nat} {m n : Nat} (h : a < 2 ^ m) (k : m ≤ n) : a < 2 ^ n := Nat.lt_of_lt_of_le h (Nat.pow_le_pow_right (by decide) k)
theorem Sz.mul {m n : Nat} {r s : Rat} (h1 : Sz m r) (h2 : Sz n s) : Sz (m + n) (r * s) := by
  rw [rat_mul]
  exact sz_of (Int.mul_ne_zero (den_ne r) (den_ne s)) (mul_sz h1.1 h2.1) (mul_sz h1.den h2.den)
theorem Sz.add {m n : Nat} {r s : Rat} (h1 : Sz m r) (h2 : Sz n s) : Sz (m + n + 1) (r + s) := by
  rw [rat_add]
  refine sz_of (Int.mul_ne_zero (den_ne r) (den_ne s)) (add_sz (mul_sz h1.1 h2.den) ?_) (up_sz (mul_sz h1.den h2.den) (by omega))
  rw [Nat.add_comm]
  exact mul_sz h2.1 h1.den
theorem Sz.sub {m n : Nat} {r s : Rat} (h1 : Sz m r) (h2 : Sz n s) : Sz (m + n + 1) (r - s) := by
  rw [rat_sub]
  refine sz_of (Int.mul_ne_zero (den_ne r) (den_ne s)) (sub_sz (mul_sz h1.1 h2.den) ?_) (up_sz (mul_sz h1.den h2.den) (by omega))
  rw [Nat.add_comm]
  exact mul_sz h2.1 h1.den
theorem Sz.div {m n : Nat} {r s : Rat} (h1 : Sz m r) (h2 : Sz n s) (hs : s ≠ 0) : Sz (m + n) (r / s) := by
  rw [rat_div r hs]
  exact sz_of (Int.mul_ne_zero (den_ne r) (num_ne hs)) (mul_sz h1.1 h2.den) (mul_sz h1.den h2.1)
theorem MulOk.both {i j : Int} (h : i.natAbs < 2 ^ 4000) (k : j.natAbs < 2 ^ 4000) : MulOk i j := .inr (.inr ⟨h, k⟩)
section
variable {m n : Nat} {r s : Rat} (hr : Sz m r) (hs : Sz n s) (hm : m ≤ 1500) (hn : n ≤ 1500)
include hr hs hm hn
theorem plusR : Sums.F_plus [rt r, rt s] = some (rt (r + s), [rt r, rt s]) := by
  have a1 := up_sz hr.1 (show m ≤ 4000 by omega)
  have a2 := up_sz hr.den (show m ≤ 4000 by omega)
  have b1 := up_sz hs.1 (show n ≤ 4000 by omega)
  have b2 := up_sz hs.den (show n ≤ 4000 by omega)
  have e1 := Int.mul_ne_zero (den_ne r) (den_ne s)
  have e2 := up_sz (mul_sz hr.den hs.den) (show m + n ≤ 4000 by omega)
  apply of_W
  unfold Sums.F_plus
  rw [W_fnD rfl]
  unfold Sums.d_plus
  walk_at "ev"
  rw [W_ok (MulOk.both a1 b2)]
  rw [W_ok (MulOk.both b1 a2)]
  walk_at "ev"
  rw [W_ok (MulOk.both a2 b2), W_eq (fractionF e1 e2)]
  rw [fr_rt e1, ← rat_add]
  walk_at "ev"
theorem minusR : Sums.F_minus [rt r, rt s] = some (rt (r - s), [rt r, rt s]) := by
  have a1 := up_sz hr.1 (show m ≤ 4000 by omega)
  have a2 := up_sz hr.den (show m ≤ 4000 by omega)
  have b1 := up_sz hs.1 (show n ≤ 4000 by omega)
  have b2 := up_sz hs.den (show n ≤ 4000 by omega)
  have e1 := Int.mul_ne_zero (den_ne r) (den_ne s)
  have e2 := up_sz (mul_sz hr.den hs.den) (show m + n ≤ 4000 by omega)
  apply of_W
  unfold Sums.F_minus
  rw [W_fnD rfl]
  unfold Sums.d_minus
  walk_at "ev"
  rw [W_ok (MulOk.both a1 b2)]
  rw [W_ok (MulOk.both b1 a2)]
  walk_at "ev"
  rw [W_ok (MulOk.both a2 b2), W_eq (fractionF e1 e2)]
  rw [fr_rt e1, ← rat_sub]
  walk_at "ev"
theorem timesR : Sums.F_times [rt r, rt s] = some (rt (r * s), [rt r, rt s]) := by
  have a1 := up_sz hr.1 (show m ≤ 4000 by omega)
  have a2 := up_sz hr.den (show m ≤ 4000 by omega)
  have b1 := up_sz hs.1 (show n ≤ 4000 by omega)
  have b2 := up_sz hs.den (show n ≤ 4000 by omega)
  have e1 := Int.mul_ne_zero (den_ne r) (den_ne s)
  have e2 := up_sz (mul_sz hr.den hs.den) (show m + n ≤ 4000 by omega)
  apply of_W
  unfold Sums.F_times
  rw [W_fnD rfl]
  unfold Sums.d_times
  walk_at "ev"
  rw [W_ok (MulOk.both a1 b1)]
  walk_at "ev"
  rw [W_ok (MulOk.both a2 b2), W_eq (fractionF e1 e2)]
  rw [fr_rt e1, ← rat_mul]
  walk_at "ev"
theorem overR (h0 : s ≠ 0) : Sums.F_over [rt r, rt s] = some (rt (r / s), [rt r, rt s]) := by
  have a1 := up_sz hr.1 (show m ≤ 4000 by omega)
  have a2 := up_sz hr.den (show m ≤ 4000 by omega)
  have b1 := up_sz hs.1 (show n ≤ 4000 by omega)
  have b2 := up_sz hs.den (show n ≤ 4000 by omega)
  have e1 := Int.mul_ne_zero (den_ne r) (num_ne h0)
  have e2 := up_sz (mul_sz hr.den hs.1) (show m + n ≤ 4000 by omega)
  apply of_W
  unfold Sums.F_over
  rw [W_fnD rfl]
  unfold Sums.d_over
  walk_at "ev"
  rw [W_ok (MulOk.both a1 b2)]
  walk_at "ev"
  rw [W_ok (MulOk.both a2 b1), W_eq (fractionF e1 e2)]
  rw [fr_rt e1, ← rat_div r h0]
  walk_at "ev"
theorem lessR : Sums.F_is_less [rt r, rt s] = some (.bl (decide (r < s)), [rt r, rt s]) := by
  have a1 := up_sz hr.1 (show m ≤ 4000 by omega)
  have a2 := up_sz hr.den (show m ≤ 4000 by omega)
  have b1 := up_sz hs.1 (show n ≤ 4000 by omega)
  have b2 := up_sz hs.den (show n ≤ 4000 by omega)
  apply of_W
  unfold Sums.F_is_less
  rw [W_fnD rfl]
  unfold Sums.d_is_less
  walk_at "ev"
  rw [W_ok (MulOk.both a1 b2)]
  rw [W_ok (MulOk.both b1 a2)]
  walk_at "ev"
  rw [decide_eq_decide.mpr (Rat.lt_iff r s).symm]
end
theorem sm_rt {n m : Nat} {r : Rat} (h : Sz m r) (k : m ≤ 64) : Sm (n + 2) (rt r) (rt r) := by
  have a1 := up_sz h.1 k
  have a2 := up_sz h.den k
  exact sm_t2 (sm_int a1) (sm_int a2) ⟨rfl, rfl⟩ ⟨rfl, rfl⟩
theorem rt_inj {r s : Rat} (h : rt r = rt s) : r = s := by
  have h1 : r.num = s.num ∧ (r.den : Int) = (s.den : Int) := by
    injection h with h
    injection h with h1 h2
    injection h2 with h2 _
    injection h1 with h1
    injection h2 with h2
    exact ⟨h1, h2⟩
  rw [rat_nd r, rat_nd s, h1.1, h1.2]
end Mv
namespace Mv.PreB
noncomputable def d_law_part : Ev → Option Out := bCons (bPar 2 3 (aCons (hE (eN gAbs (aCons (hV 0) aNil))) (aCons (hE (eN gAbs (aCons (hV 1) aNil))) aNil))) (bCons (bWhile (tB' (e2 gGt (hV 3) (hE (eC (.int 0))))) (bPar 2 3 (aCons (hE (eV 3)) (aCons (hE (e2 gMod (hE (eN gInt (aCons (hV 2) aNil))) (hV 3))) aNil)))) (bCons (bIf (tB' (e2 gLt (hV 1) (hE (eC (.int 0))))) (bAsg (e1 gNeg (hV 2)) (gNm 2)) (bNil)) (bRet (eTup (aCons (hE (e2 gDiv (hV 0) (hV 2))) (aCons (hE (e2 gDiv (hV 1) (hV 2))) aNil))))))
noncomputable def F_law_part : List D → Option (D × List D) := fnD [true, true] 4 d_law_part
def partC : Ev → Option (Bool × Ev) := tB' (e2 gGt (hV 3) (hE (eC (.int 0))))
def partB : Ev → Option Out := bPar 2 3 (aCons (hE (eV 3)) (aCons (hE (e2 gMod (hE (eN gInt (aCons (hV 2) aNil))) (hV 3))) aNil))
theorem part_fr {t b : Int} (hb : b ≠ 0) (hs : b.natAbs < 2 ^ 4000) : F_law_part [.int t, .int b] = some (fr t b, [.int t, .int b]) := by
  have hg := gd_pos (t := t) hb
  have hl := gd_abs (t := t) hb
  have hl2 := Nat.lt_of_le_of_lt hl hs
  apply of_W
  unfold F_law_part
  rw [W_fnD rfl]
  unfold d_law_part
  change W (bCons _ (bCons (bWhile partC partB) _) _) _
  walk_at "ev"
  refine W_while (fun ρ => ∃ one rest : Int, ρ = [.int t, .int b, .int one, .int rest] ∧ 0 ≤ one ∧ 0 ≤ rest ∧ gd one rest = gd t b) (fun ρ => match ρ.getD 3 .any with | .int r => r.toNat | _ => 0) ?_ ?_
  · refine ⟨_, _, rfl, by split <;> omega, by split <;> omega, ?_⟩
    unfold gd
    congr 2
    · split <;> omega
    · split <;> omega
  · rintro ρ ⟨one, rest, rfl, h1, h2, h3⟩
    unfold partC partB
    walk_at "ev"
    split
    · rename_i h
      have h4 := Int.emod_nonneg one (show rest ≠ 0 by omega)
      have h5 := Int.emod_lt_of_pos one h
      rw [W_some]
      refine ⟨⟨rest, one % rest, rfl, by omega, h4, ?_⟩, ?_⟩
      · rw [← h3]
        unfold gd
        rw [euclid h1 h]
      · simp only [List.getD_cons_succ, List.getD_cons_zero]
        omega
    · rename_i h
      have h0 : rest = 0 := by omega
      subst h0
      rw [gd_zero h1] at h3
      subst h3
      walk_at "ev"
      split
      · rename_i hb0
        rw [W_no (Sums.ndok hg), W_ok (Sums.dno (by omega) (by rw [Int.natAbs_neg]; exact hl2)), W_no (Sums.ndok hg), W_ok (Sums.dno (by omega) (by rw [Int.natAbs_neg]; exact hl2))]
        rw [fdiv_neg hg gd_left, fdiv_neg hg gd_right]
        unfold fr lowP lowQ
        rw [if_pos hb0, if_pos hb0]
      · rename_i hb0
        rw [W_ok (Sums.dok hg hl2), W_ok (Sums.dok hg hl2)]
        unfold fr lowP lowQ
        rw [if_neg hb0, if_neg hb0]
theorem part_rt {t b : Int} (hb : b ≠ 0) (hs : b.natAbs < 2 ^ 4000) : F_law_part [.int t, .int b] = some (rt ((t : Rat) / (b : Rat)), [.int t, .int b]) := by
  rw [part_fr hb hs, fr_rt hb]
end Mv.PreB
end
section
set_option Elab.async false
set_option linter.all false
set_option maxHeartbeats 4000000
open PySem
namespace Mv
/-! ### lists of embedded values: equality -/
section
variable {α : Type} [DecidableEq α] {f : α → D} (E : Emb f) {o o' : Bool}
include E
theorem eqvAll_map : ∀ xs ys : List α, PyData.eqvAll (D.pdL (xs.map f)) (D.pdL (ys.map f)) = decide (xs = ys)
  | [], [] => by simp [D.pdL, PyData.eqvAll]
  | [], y :: ys => by simp [D.pdL, PyData.eqvAll]
  | x :: xs, [] => by simp [D.pdL, PyData.eqvAll]
  | x :: xs, y :: ys => by
    rw [List.map_cons, List.map_cons, D.pdL, D.pdL, PyData.eqvAll, eqvAll_map xs ys, E.eq]
    by_cases h : x = y <;> by_cases k : xs = ys <;> simp [h, k]
theorem gEq_emb (xs ys : List α) : gEq (.lst o (xs.map f)) (.lst o' (ys.map f)) = some (.bl (decide (xs = ys))) := by
  rw [gEq_data rfl (ok_mono (emb_lok E xs) (by decide)) (ok_mono (emb_lok E ys) (by decide))]
  rw [D.pd, D.pd, PyData.eqv, eqvAll_map E]
theorem gNe_emb (xs ys : List α) : gNe (.lst o (xs.map f)) (.lst o' (ys.map f)) = some (.bl (!decide (xs = ys))) := by
  rw [gNe_data rfl (ok_mono (emb_lok E xs) (by decide)) (ok_mono (emb_lok E ys) (by decide))]
  rw [D.pd, D.pd, PyData.eqv, eqvAll_map E]
end
theorem emb_tup2 {α β : Type} [DecidableEq α] [DecidableEq β] {f : α → D} {g : β → D} (hf : ∀ x, D.ok 59 (f x)) (hg : ∀ y, D.ok 59 (g y)) (ef : ∀ x y, PyData.eqv (f x).pd (f y).pd = decide (x = y)) (eg : ∀ x y, PyData.eqv (g x).pd (g y).pd = decide (x = y)) : Emb fun e : α × β => D.tup [f e.1, g e.2] := ⟨fun e => ok_tup fun d hd => by
    simp only [List.mem_cons, List.not_mem_nil, or_false] at hd
    rcases hd with rfl | rfl
    · exact hf _
    · exact hg _, fun e e' => by
  simp only [D.pd, D.pdL, PyData.eqv, PyData.eqvAll, Bool.and_true, ef, eg]
  obtain ⟨a, b⟩ := e
  obtain ⟨a', b'⟩ := e'
  by_cases h : a = a' <;> by_cases k : b = b' <;> simp [h, k]⟩
theorem emb_int2 : Emb fun e : Int × Int => D.tup [.int e.1, .int e.2] := emb_tup2 (fun _ => ok_int) (fun _ => ok_int) emb_int.eq emb_int.eq
/-- a range's comprehension over small numbers of any kind -/
theorem all_alike {α : Type} [DecidableEq α] {a : α} : ∀ l : List α, (l = l.map fun _ => a) ↔ ∀ x ∈ l, x = a
  | [] => by simp
  | x :: l => by
    rw [List.map_cons, List.cons.injEq, all_alike l]
    simp
end Mv
end
section
set_option Elab.async false
set_option linter.all false
set_option maxRecDepth 100000
set_option maxHeartbeats 4000000
namespace Lk18
open PySem PySem.Spec PyProof.Rows L2 Mv
def topS (i : Nat) : Stmt := PySem.Challenge.pw_museumlands_k18_whole_samples_dated_and.main.body.getD i (.Pass ⟨0, 0, 0, 0⟩)
abbrev s_fraction : Stmt := topS 2
theorem sc_fraction : FnScope ["top", "bottom", "share"] ["top", "bottom"] (defScope s_fraction) := ⟨rfl, rfl, rfl, by decide +kernel, rfl, by decide +kernel, by decide +kernel⟩
abbrev s_plus : Stmt := topS 3
theorem sc_plus : FnScope ["one", "other"] ["one", "other"] (defScope s_plus) := ⟨rfl, rfl, rfl, by decide +kernel, rfl, by decide +kernel, by decide +kernel⟩
abbrev s_minus : Stmt := topS 4
theorem sc_minus : FnScope ["one", "other"] ["one", "other"] (defScope s_minus) := ⟨rfl, rfl, rfl, by decide +kernel, rfl, by decide +kernel, by decide +kernel⟩
abbrev s_times : Stmt := topS 5
theorem sc_times : FnScope ["one", "other"] ["one", "other"] (defScope s_times) := ⟨rfl, rfl, rfl, by decide +kernel, rfl, by decide +kernel, by decide +kernel⟩
abbrev s_over : Stmt := topS 6
theorem sc_over : FnScope ["one", "other"] ["one", "other"] (defScope s_over) := ⟨rfl, rfl, rfl, by decide +kernel, rfl, by decide +kernel, by decide +kernel⟩
abbrev s_is_less : Stmt := topS 7
theorem sc_is_less : FnScope ["one", "other"] ["one", "other"] (defScope s_is_less) := ⟨rfl, rfl, rfl, by decide +kernel, rfl, by decide +kernel, by decide +kernel⟩
abbrev s_whole : Stmt := topS 8
theorem sc_whole : FnScope ["number"] ["number"] (defScope s_whole) := ⟨rfl, rfl, rfl, by decide +kernel, rfl, by decide +kernel, by decide +kernel⟩
abbrev s_years_of : Stmt := topS 10
theorem sc_years_of : FnScope ["curve", "value", "found", "one", "low", "other", "high", "piece", "share", "year"] ["curve", "value"] (defScope s_years_of) := ⟨rfl, rfl, rfl, by decide +kernel, rfl, by decide +kernel, by decide +kernel⟩
abbrev s_years_between : Stmt := topS 11
theorem sc_years_between : FnScope ["curve", "least", "most", "found", "one", "low", "other", "high", "piece"] ["curve", "least", "most"] (defScope s_years_between) := ⟨rfl, rfl, rfl, by decide +kernel, rfl, by decide +kernel, by decide +kernel⟩
abbrev s_piece_between : Stmt := topS 12
theorem sc_piece_between : FnScope ["one", "low", "other", "high", "least", "most", "inside", "first", "second", "step"] ["one", "low", "other", "high", "least", "most"] (defScope s_piece_between) := ⟨rfl, rfl, rfl, by decide +kernel, rfl, by decide +kernel, by decide +kernel⟩
abbrev s_length_of : Stmt := topS 13
theorem sc_length_of : FnScope ["stretches", "total", "start", "end"] ["stretches"] (defScope s_length_of) := ⟨rfl, rfl, rfl, by decide +kernel, rfl, by decide +kernel, by decide +kernel⟩
abbrev s_both : Stmt := topS 14
theorem sc_both : FnScope ["one", "other", "found", "start", "end", "first", "last", "low", "high"] ["one", "other"] (defScope s_both) := ⟨rfl, rfl, rfl, by decide +kernel, rfl, by decide +kernel, by decide +kernel⟩
abbrev s_dated : Stmt := topS 15
theorem sc_dated : FnScope ["curve", "samples", "found", "value", "error"] ["curve", "samples"] (defScope s_dated) := ⟨rfl, rfl, rfl, by decide +kernel, rfl, by decide +kernel, by decide +kernel⟩
abbrev s_worst_value : Stmt := topS 16
theorem sc_worst_value : FnScope ["curve", "values", "year", "value", "best", "many"] ["curve"] (defScope s_worst_value) := ⟨rfl, rfl, rfl, by decide +kernel, rfl, by decide +kernel, by decide +kernel⟩
abbrev s_middle_year : Stmt := topS 17
theorem sc_middle_year : FnScope ["stretches", "half", "start", "end", "size"] ["stretches"] (defScope s_middle_year) := ⟨rfl, rfl, rfl, by decide +kernel, rfl, by decide +kernel, by decide +kernel⟩
abbrev s_law_cell : Stmt := topS 19
theorem sc_law_cell : FnScope ["script", "k"] ["script", "k"] (defScope s_law_cell) := ⟨rfl, rfl, rfl, by decide +kernel, rfl, by decide +kernel, by decide +kernel⟩
abbrev s_law_digits : Stmt := topS 20
theorem sc_law_digits : FnScope ["script", "first", "last", "digits", "k", "cell", "turn", "seed"] ["script", "first", "last"] (defScope s_law_digits) := ⟨rfl, rfl, rfl, by decide +kernel, rfl, by decide +kernel, by decide +kernel⟩
abbrev s_law_draw : Stmt := topS 21
theorem sc_law_draw : FnScope ["box", "many"] ["box", "many"] (defScope s_law_draw) := ⟨rfl, rfl, rfl, by decide +kernel, rfl, by decide +kernel, by decide +kernel⟩
abbrev s_law_pick : Stmt := topS 22
theorem sc_law_pick : FnScope ["box", "lot"] ["box", "lot"] (defScope s_law_pick) := ⟨rfl, rfl, rfl, by decide +kernel, rfl, by decide +kernel, by decide +kernel⟩
abbrev s_law_same : Stmt := topS 23
theorem sc_law_same : FnScope ["told", "due", "k"] ["told", "due"] (defScope s_law_same) := ⟨rfl, rfl, rfl, by decide +kernel, rfl, by decide +kernel, by decide +kernel⟩
abbrev s_law_spoil : Stmt := topS 24
theorem sc_law_spoil : FnScope ["told", "part"] ["told"] (defScope s_law_spoil) := ⟨rfl, rfl, rfl, by decide +kernel, rfl, by decide +kernel, by decide +kernel⟩
abbrev s_law_twice : Stmt := topS 25
theorem sc_law_twice : FnScope ["told", "again", "due"] ["told", "again", "due"] (defScope s_law_twice) := ⟨rfl, rfl, rfl, by decide +kernel, rfl, by decide +kernel, by decide +kernel⟩
abbrev s_law_low : Stmt := topS 26
theorem sc_law_low : FnScope ["top", "bottom", "one", "rest", "step"] ["top", "bottom"] (defScope s_law_low) := ⟨rfl, rfl, rfl, by decide +kernel, rfl, by decide +kernel, by decide +kernel⟩
abbrev s_law_curve : Stmt := topS 27
theorem sc_law_curve : FnScope ["box", "wide", "far", "curve", "year", "point", "value"] ["box"] (defScope s_law_curve) := ⟨rfl, rfl, rfl, by decide +kernel, rfl, by decide +kernel, by decide +kernel⟩
abbrev s_law_less : Stmt := topS 28
theorem sc_law_less : FnScope ["one", "far"] ["one", "far"] (defScope s_law_less) := ⟨rfl, rfl, rfl, by decide +kernel, rfl, by decide +kernel, by decide +kernel⟩
abbrev s_law_value : Stmt := topS 29
theorem sc_law_value : FnScope ["curve", "year", "k", "size", "rise", "top"] ["curve", "year"] (defScope s_law_value) := ⟨rfl, rfl, rfl, by decide +kernel, rfl, by decide +kernel, by decide +kernel⟩
abbrev s_law_cuts : Stmt := topS 30
theorem sc_law_cuts : FnScope ["curve", "levels", "cuts", "point", "k", "size", "rise", "level", "top", "cut", "at", "far"] ["curve", "levels"] (defScope s_law_cuts) := ⟨rfl, rfl, rfl, by decide +kernel, rfl, by decide +kernel, by decide +kernel⟩
abbrev s_law_stretches : Stmt := topS 31
theorem sc_law_stretches : FnScope ["curve", "bounds", "levels", "least", "most", "cuts", "found", "begun", "k", "goes_on_there", "middle"] ["curve", "bounds"] (defScope s_law_stretches) := ⟨rfl, rfl, rfl, by decide +kernel, rfl, by decide +kernel, by decide +kernel⟩
abbrev s_law_in : Stmt := topS 32
theorem sc_law_in : FnScope ["value", "bounds", "least", "most"] ["value", "bounds"] (defScope s_law_in) := ⟨rfl, rfl, rfl, by decide +kernel, rfl, by decide +kernel, by decide +kernel⟩
abbrev s_law_samples_fit : Stmt := topS 33
theorem sc_law_samples_fit : FnScope ["box", "curve", "handed", "true_level", "samples", "turn", "error", "value", "bounds", "sample", "lent_samples", "due", "levels", "point", "best", "many", "k"] ["box"] (defScope s_law_samples_fit) := ⟨rfl, rfl, rfl, by decide +kernel, rfl, by decide +kernel, by decide +kernel⟩
abbrev s_law_drawn : Stmt := topS 34
theorem sc_law_drawn : FnScope ["box", "ends", "at", "lot", "turn", "last", "far"] ["box", "ends"] (defScope s_law_drawn) := ⟨rfl, rfl, rfl, by decide +kernel, rfl, by decide +kernel, by decide +kernel⟩
abbrev s_law_told : Stmt := topS 35
theorem sc_law_told : FnScope ["lot", "pair"] ["lot"] (defScope s_law_told) := ⟨rfl, rfl, rfl, by decide +kernel, rfl, by decide +kernel, by decide +kernel⟩
abbrev s_law_in_lot : Stmt := topS 36
theorem sc_law_in_lot : FnScope ["lot", "at", "pair"] ["lot", "at"] (defScope s_law_in_lot) := ⟨rfl, rfl, rfl, by decide +kernel, rfl, by decide +kernel, by decide +kernel⟩
abbrev s_law_both : Stmt := topS 37
theorem sc_law_both : FnScope ["one", "far", "found", "begun", "low", "high", "at"] ["one", "far"] (defScope s_law_both) := ⟨rfl, rfl, rfl, by decide +kernel, rfl, by decide +kernel, by decide +kernel⟩
abbrev s_law_middle : Stmt := topS 38
theorem sc_law_middle : FnScope ["lot", "size", "pair", "at"] ["lot"] (defScope s_law_middle) := ⟨rfl, rfl, rfl, by decide +kernel, rfl, by decide +kernel, by decide +kernel⟩
abbrev s_law_lists_fit : Stmt := topS 39
theorem sc_law_lists_fit : FnScope ["box", "one", "far", "pair", "mine", "yours", "lot", "handed"] ["box"] (defScope s_law_lists_fit) := ⟨rfl, rfl, rfl, by decide +kernel, rfl, by decide +kernel, by decide +kernel⟩
abbrev s_law : Stmt := topS 40
theorem sc_law : FnScope ["script", "box", "turn", "at", "points"] ["script"] (defScope s_law) := ⟨rfl, rfl, rfl, by decide +kernel, rfl, by decide +kernel, by decide +kernel⟩
structure Top (K : Frg) (mg : Str → Option Value) : Prop where
  abs_ : mg "abs" = none
  bool_ : mg "bool" = none
  int_ : mg "int" = none
  isinstance_ : mg "isinstance" = none
  len_ : mg "len" = none
  list_ : mg "list" = none
  max_ : mg "max" = none
  min_ : mg "min" = none
  range_ : mg "range" = none
  repr_ : mg "repr" = none
  str_ : mg "str" = none
  sum_ : mg "sum" = none
  tuple_ : mg "tuple" = none
  zip_ : mg "zip" = none
  gcd_ : mg "gcd" = some (.builtin "math.gcd")
  f_fraction : ∃ f fd, Fun K "fraction" "fraction" s_fraction f fd ∧ Binds K fd ["top", "bottom"] [] ∧ mg "fraction" = some (.ref f)
  f_plus : ∃ f fd, Fun K "plus" "plus" s_plus f fd ∧ Binds K fd ["one", "other"] [] ∧ mg "plus" = some (.ref f)
  f_minus : ∃ f fd, Fun K "minus" "minus" s_minus f fd ∧ Binds K fd ["one", "other"] [] ∧ mg "minus" = some (.ref f)
  f_times : ∃ f fd, Fun K "times" "times" s_times f fd ∧ Binds K fd ["one", "other"] [] ∧ mg "times" = some (.ref f)
  f_over : ∃ f fd, Fun K "over" "over" s_over f fd ∧ Binds K fd ["one", "other"] [] ∧ mg "over" = some (.ref f)
  f_is_less : ∃ f fd, Fun K "is_less" "is_less" s_is_less f fd ∧ Binds K fd ["one", "other"] [] ∧ mg "is_less" = some (.ref f)
  f_whole : ∃ f fd, Fun K "whole" "whole" s_whole f fd ∧ Binds K fd ["number"] [] ∧ mg "whole" = some (.ref f)
  f_years_of : ∃ f fd, Fun K "years_of" "years_of" s_years_of f fd ∧ Binds K fd ["curve", "value"] [] ∧ mg "years_of" = some (.ref f)
  f_years_between : ∃ f fd, Fun K "years_between" "years_between" s_years_between f fd ∧ Binds K fd ["curve", "least", "most"] [] ∧ mg "years_between" = some (.ref f)
  f_piece_between : ∃ f fd, Fun K "piece_between" "piece_between" s_piece_between f fd ∧ Binds K fd ["one", "low", "other", "high", "least", "most"] [] ∧ mg "piece_between" = some (.ref f)
  f_length_of : ∃ f fd, Fun K "length_of" "length_of" s_length_of f fd ∧ Binds K fd ["stretches"] [] ∧ mg "length_of" = some (.ref f)
  f_both : ∃ f fd, Fun K "both" "both" s_both f fd ∧ Binds K fd ["one", "other"] [] ∧ mg "both" = some (.ref f)
  f_dated : ∃ f fd, Fun K "dated" "dated" s_dated f fd ∧ Binds K fd ["curve", "samples"] [] ∧ mg "dated" = some (.ref f)
  f_worst_value : ∃ f fd, Fun K "worst_value" "worst_value" s_worst_value f fd ∧ Binds K fd ["curve"] [] ∧ mg "worst_value" = some (.ref f)
  f_middle_year : ∃ f fd, Fun K "middle_year" "middle_year" s_middle_year f fd ∧ Binds K fd ["stretches"] [] ∧ mg "middle_year" = some (.ref f)
  f_law_cell : ∃ f fd, Fun K "_law_cell" "_law_cell" s_law_cell f fd ∧ Binds K fd ["script", "k"] [] ∧ mg "_law_cell" = some (.ref f)
  f_law_digits : ∃ f fd, Fun K "_law_digits" "_law_digits" s_law_digits f fd ∧ Binds K fd ["script", "first", "last"] [] ∧ mg "_law_digits" = some (.ref f)
  f_law_draw : ∃ f fd, Fun K "_law_draw" "_law_draw" s_law_draw f fd ∧ Binds K fd ["box", "many"] [] ∧ mg "_law_draw" = some (.ref f)
  f_law_pick : ∃ f fd, Fun K "_law_pick" "_law_pick" s_law_pick f fd ∧ Binds K fd ["box", "lot"] [] ∧ mg "_law_pick" = some (.ref f)
  f_law_same : ∃ f fd, Fun K "_law_same" "_law_same" s_law_same f fd ∧ Binds K fd ["told", "due"] [] ∧ mg "_law_same" = some (.ref f)
  f_law_spoil : ∃ f fd, Fun K "_law_spoil" "_law_spoil" s_law_spoil f fd ∧ Binds K fd ["told"] [] ∧ mg "_law_spoil" = some (.ref f)
  f_law_twice : ∃ f fd, Fun K "_law_twice" "_law_twice" s_law_twice f fd ∧ Binds K fd ["told", "again", "due"] [] ∧ mg "_law_twice" = some (.ref f)
  f_law_low : ∃ f fd, Fun K "_law_low" "_law_low" s_law_low f fd ∧ Binds K fd ["top", "bottom"] [] ∧ mg "_law_low" = some (.ref f)
  f_law_curve : ∃ f fd, Fun K "_law_curve" "_law_curve" s_law_curve f fd ∧ Binds K fd ["box"] [] ∧ mg "_law_curve" = some (.ref f)
  f_law_less : ∃ f fd, Fun K "_law_less" "_law_less" s_law_less f fd ∧ Binds K fd ["one", "far"] [] ∧ mg "_law_less" = some (.ref f)
  f_law_value : ∃ f fd, Fun K "_law_value" "_law_value" s_law_value f fd ∧ Binds K fd ["curve", "year"] [] ∧ mg "_law_value" = some (.ref f)
  f_law_cuts : ∃ f fd, Fun K "_law_cuts" "_law_cuts" s_law_cuts f fd ∧ Binds K fd ["curve", "levels"] [] ∧ mg "_law_cuts" = some (.ref f)
  f_law_stretches : ∃ f fd, Fun K "_law_stretches" "_law_stretches" s_law_stretches f fd ∧ Binds K fd ["curve", "bounds"] [] ∧ mg "_law_stretches" = some (.ref f)
  f_law_in : ∃ f fd, Fun K "_law_in" "_law_in" s_law_in f fd ∧ Binds K fd ["value", "bounds"] [] ∧ mg "_law_in" = some (.ref f)
  f_law_samples_fit : ∃ f fd, Fun K "_law_samples_fit" "_law_samples_fit" s_law_samples_fit f fd ∧ Binds K fd ["box"] [] ∧ mg "_law_samples_fit" = some (.ref f)
  f_law_drawn : ∃ f fd, Fun K "_law_drawn" "_law_drawn" s_law_drawn f fd ∧ Binds K fd ["box", "ends"] [] ∧ mg "_law_drawn" = some (.ref f)
  f_law_told : ∃ f fd, Fun K "_law_told" "_law_told" s_law_told f fd ∧ Binds K fd ["lot"] [] ∧ mg "_law_told" = some (.ref f)
  f_law_in_lot : ∃ f fd, Fun K "_law_in_lot" "_law_in_lot" s_law_in_lot f fd ∧ Binds K fd ["lot", "at"] [] ∧ mg "_law_in_lot" = some (.ref f)
  f_law_both : ∃ f fd, Fun K "_law_both" "_law_both" s_law_both f fd ∧ Binds K fd ["one", "far"] [] ∧ mg "_law_both" = some (.ref f)
  f_law_middle : ∃ f fd, Fun K "_law_middle" "_law_middle" s_law_middle f fd ∧ Binds K fd ["lot"] [] ∧ mg "_law_middle" = some (.ref f)
  f_law_lists_fit : ∃ f fd, Fun K "_law_lists_fit" "_law_lists_fit" s_law_lists_fit f fd ∧ Binds K fd ["box"] [] ∧ mg "_law_lists_fit" = some (.ref f)
  f_law : ∃ f fd, Fun K "law" "law" s_law f fd ∧ Binds K fd ["script"] [] ∧ mg "law" = some (.ref f)
section
variable {P : Program} {w : World} {K : Frg} {mg : Str → Option Value} {base : Heap}
noncomputable def d_fraction : Ev → Option Out := bCons (bAsg (eN gGcd (aCons (hV 0) (aCons (hV 1) aNil))) (gNm 2)) (bCons (bIf (tB' (e2 gLt (hV 1) (hE (eC (.int 0))))) (bAsg (e1 gNeg (hV 2)) (gNm 2)) (bNil)) (bRet (eTup (aCons (hE (e2 gDiv (hV 0) (hV 2))) (aCons (hE (e2 gDiv (hV 1) (hV 2))) aNil)))))
noncomputable def F_fraction : List D → Option (D × List D) := fnD [true, true] 3 d_fraction
theorem w_fraction (T : Top K mg) : FOk P w K mg base 1 "fraction" ["top", "bottom"] F_fraction := by
  obtain ⟨f, fd, FF, fb, fm⟩ := T.f_fraction
  have nd := sc_fraction.nd
  exact def_ok FF sc_fraction fb fm [0, 1] [true, true] 3 d_fraction rfl rfl (by decide) (by decide) fun cdv A outer s H E hr => dss_cons (ds_set 2 nd (de_bf cr_gcd on_gcd rfl T.gcd_ (da_cons (dh_var 0) (da_cons (dh_var 1) da_nil)))) (dss_cons (ds_if (dt_cmp op_lt o2_lt (dh_var 1) (dh_of (de_int)) (nomark _)) (dss_one (ds_set 2 nd (de_un un_neg o1_neg (dh_var 2)))) (dss_nil)) (dss_one (ds_ret (de_tup (da_cons (dh_of (de_op op_fdivX o2_div (dh_var 0) (dh_var 2))) (da_cons (dh_of (de_op op_fdivX o2_div (dh_var 1) (dh_var 2))) da_nil))))))
noncomputable def d_is_less : Ev → Option Out := bRet (e2 gLt (hE (e2 gMul (hE (e2 gIdx (hV 0) (hE (eC (.int 0))))) (hE (e2 gIdx (hV 1) (hE (eC (.int 1))))))) (hE (e2 gMul (hE (e2 gIdx (hV 1) (hE (eC (.int 0))))) (hE (e2 gIdx (hV 0) (hE (eC (.int 1))))))))
noncomputable def F_is_less : List D → Option (D × List D) := fnD [true, true] 2 d_is_less
theorem w_is_less (T : Top K mg) : FOk P w K mg base 1 "is_less" ["one", "other"] F_is_less := by
  obtain ⟨f, fd, FF, fb, fm⟩ := T.f_is_less
  have nd := sc_is_less.nd
  exact def_ok FF sc_is_less fb fm [0, 1] [true, true] 2 d_is_less rfl rfl (by decide) (by decide) fun cdv A outer s H E hr => dss_one (ds_ret (de_cmp op_lt o2_lt (dh_of (de_op op_mulA o2_mul (dh_of (de_ix ix_seq o2_idx (dh_var 0) (dh_of (de_int)) (fun _ _ => rfl))) (dh_of (de_ix ix_seq o2_idx (dh_var 1) (dh_of (de_int)) (fun _ _ => rfl))))) (dh_of (de_op op_mulA o2_mul (dh_of (de_ix ix_seq o2_idx (dh_var 1) (dh_of (de_int)) (fun _ _ => rfl))) (dh_of (de_ix ix_seq o2_idx (dh_var 0) (dh_of (de_int)) (fun _ _ => rfl))))) (nomark _)))
noncomputable def d_whole : Ev → Option Out := bRet (eTup (aCons (hE (eV 0)) (aCons (hE (eC (.int 1))) aNil)))
noncomputable def F_whole : List D → Option (D × List D) := fnD [true] 1 d_whole
theorem w_whole (T : Top K mg) : FOk P w K mg base 1 "whole" ["number"] F_whole := by
  obtain ⟨f, fd, FF, fb, fm⟩ := T.f_whole
  have nd := sc_whole.nd
  exact def_ok FF sc_whole fb fm [0] [true] 1 d_whole rfl rfl (by decide) (by decide) fun cdv A outer s H E hr => dss_one (ds_ret (de_tup (da_cons (dh_of (de_var 0)) (da_cons (dh_of (de_int)) da_nil))))
noncomputable def d_law_cell : Ev → Option Out := bCons (bIf (tB' (e2 gLt (hV 1) (hE (eN gLen (aCons (hV 0) aNil))))) (bRet (e2 gIdx (hV 0) (hV 1))) (bNil)) (bRet (eC (.int 0)))
noncomputable def F_law_cell : List D → Option (D × List D) := fnD [true, true] 2 d_law_cell
theorem w_law_cell (T : Top K mg) : FOk P w K mg base 1 "_law_cell" ["script", "k"] F_law_cell := by
  obtain ⟨f, fd, FF, fb, fm⟩ := T.f_law_cell
  have nd := sc_law_cell.nd
  exact def_ok FF sc_law_cell fb fm [0, 1] [true, true] 2 d_law_cell rfl rfl (by decide) (by decide) fun cdv A outer s H E hr => dss_cons (ds_if (dt_cmp op_lt o2_lt (dh_var 1) (dh_of (de_bi call_len on_len rfl T.len_ boot_len (da_cons (dh_var 0) da_nil))) (nomark _)) (dss_one (ds_ret (de_ix ix_seq o2_idx (dh_var 0) (dh_var 1) (fun _ _ => rfl)))) (dss_nil)) (dss_one (ds_ret (de_int)))
noncomputable def d_law_draw : Ev → Option Out := bCons (bAsg (e2 gAdd (hE (e2 gIdx (hV 0) (hE (eC (.int 1))))) (hE (eC (.int 1)))) (gIx 0 (hE (eC (.int 1))))) (bCons (bIf (tB' (e2 gGt (hE (e2 gIdx (hV 0) (hE (eC (.int 1))))) (hE (eN gLen (aCons (hE (e2 gIdx (hV 0) (hE (eC (.int 0))))) aNil))))) (bRet (e2 gMod (hE (eN gInt (aCons (hE (e2 gAdd (hE (e2 gMul (hE (e2 gIdx (hV 0) (hE (eC (.int 1))))) (hE (eC (.int 7))))) (hE (eC (.int 3))))) aNil))) (hV 1))) (bNil)) (bRet (e2 gMod (hE (eN gInt (aCons (hE (e2 gIdx (hE (e2 gIdx (hV 0) (hE (eC (.int 0))))) (hE (e2 gSubt (hE (e2 gIdx (hV 0) (hE (eC (.int 1))))) (hE (eC (.int 1))))))) aNil))) (hV 1))))
noncomputable def F_law_draw : List D → Option (D × List D) := fnD [true, true] 2 d_law_draw
theorem w_law_draw (T : Top K mg) : FOk P w K mg base 1 "_law_draw" ["box", "many"] F_law_draw := by
  obtain ⟨f, fd, FF, fb, fm⟩ := T.f_law_draw
  have nd := sc_law_draw.nd
  exact def_ok FF sc_law_draw fb fm [0, 1] [true, true] 2 d_law_draw rfl rfl (by decide) (by decide) fun cdv A outer s H E hr => dss_cons (ds_asg (de_op op_addA o2_add (dh_of (de_ix ix_seq o2_idx (dh_var 0) (dh_of (de_int)) (fun _ _ => rfl))) (dh_of (de_int))) (dg_ix 0 (dh_of (de_int)))) (dss_cons (ds_if (dt_cmp op_gt o2_gt (dh_of (de_ix ix_seq o2_idx (dh_var 0) (dh_of (de_int)) (fun _ _ => rfl))) (dh_of (de_bi call_len on_len rfl T.len_ boot_len (da_cons (dh_of (de_ix ix_seq o2_idx (dh_var 0) (dh_of (de_int)) (fun _ _ => rfl))) da_nil))) (nomark _)) (dss_one (ds_ret (de_op op_mod o2_mod (dh_of (de_ty call_intA on_int rfl T.int_ boot_int (da_cons (dh_of (de_op op_addA o2_add (dh_of (de_op op_mulA o2_mul (dh_of (de_ix ix_seq o2_idx (dh_var 0) (dh_of (de_int)) (fun _ _ => rfl))) (dh_of (de_int)))) (dh_of (de_int)))) da_nil))) (dh_var 1)))) (dss_nil)) (dss_one (ds_ret (de_op op_mod o2_mod (dh_of (de_ty call_intA on_int rfl T.int_ boot_int (da_cons (dh_of (de_ix ix_seq o2_idx (dh_of (de_ix ix_seq o2_idx (dh_var 0) (dh_of (de_int)) (fun _ _ => rfl))) (dh_of (de_op op_sub o2_sub (dh_of (de_ix ix_seq o2_idx (dh_var 0) (dh_of (de_int)) (fun _ _ => rfl))) (dh_of (de_int)))) (fun _ _ => rfl))) da_nil))) (dh_var 1)))))
noncomputable def d_law_low : Ev → Option Out := bCons (bIf (tB' (e2 gLt (hV 1) (hE (eC (.int 0))))) (bPar 0 1 (aCons (hE (e1 gNeg (hV 0))) (aCons (hE (e1 gNeg (hV 1))) aNil))) (bNil)) (bCons (bPar 2 3 (aCons (hE (eN gAbs (aCons (hV 0) aNil))) (aCons (hE (eV 1)) aNil))) (bCons (bFor (iRg1 (aCons (hE (eC (.int 900))) aNil)) (gNm 4) (bCons (bIf (tB' (e2 gEq (hV 3) (hE (eC (.int 0))))) (bBrk) (bNil)) (bPar 2 3 (aCons (hE (eV 3)) (aCons (hE (e2 gMod (hE (eN gInt (aCons (hV 2) aNil))) (hV 3))) aNil))))) (bRet (eTup (aCons (hE (e2 gDiv (hV 0) (hV 2))) (aCons (hE (e2 gDiv (hV 1) (hV 2))) aNil))))))
noncomputable def F_law_low : List D → Option (D × List D) := fnD [false, false] 5 d_law_low
theorem w_law_low (T : Top K mg) : FOk P w K mg base 1 "_law_low" ["top", "bottom"] F_law_low := by
  obtain ⟨f, fd, FF, fb, fm⟩ := T.f_law_low
  have nd := sc_law_low.nd
  exact def_ok FF sc_law_low fb fm [] [false, false] 5 d_law_low rfl rfl (by decide) (by decide) fun cdv A outer s H E hr => dss_cons (ds_if (dt_cmp op_lt o2_lt (dh_var 1) (dh_of (de_int)) (nomark _)) (dss_one (ds_par 0 1 rfl nd (da_cons (dh_of (de_un un_neg o1_neg (dh_var 0))) (da_cons (dh_of (de_un un_neg o1_neg (dh_var 1))) da_nil)))) (dss_nil)) (dss_cons (ds_par 2 3 rfl nd (da_cons (dh_of (de_bi call_abs on_abs rfl T.abs_ boot_abs (da_cons (dh_var 0) da_nil))) (da_cons (dh_of (de_var 1)) da_nil))) (dss_cons (ds_for [] rfl (di_range1 rfl T.range_ (da_cons (dh_of (de_int)) da_nil)) (dg_name 4 nd) (dss_cons (ds_if (dt_cmp (op_eqA (hu64 hr)) o2_eq (dh_var 3) (dh_of (de_int)) (nomark _)) (dss_one (ds_break)) (dss_nil)) (dss_one (ds_par 2 3 rfl nd (da_cons (dh_of (de_var 3)) (da_cons (dh_of (de_op op_mod o2_mod (dh_of (de_ty call_intA on_int rfl T.int_ boot_int (da_cons (dh_var 2) da_nil))) (dh_var 3))) da_nil)))))) (dss_one (ds_ret (de_tup (da_cons (dh_of (de_op op_fdivX o2_div (dh_var 0) (dh_var 2))) (da_cons (dh_of (de_op op_fdivX o2_div (dh_var 1) (dh_var 2))) da_nil)))))))
noncomputable def d_law_less : Ev → Option Out := bRet (e2 gLt (hE (e2 gMul (hE (e2 gIdx (hV 0) (hE (eC (.int 0))))) (hE (e2 gIdx (hV 1) (hE (eC (.int 1))))))) (hE (e2 gMul (hE (e2 gIdx (hV 1) (hE (eC (.int 0))))) (hE (e2 gIdx (hV 0) (hE (eC (.int 1))))))))
noncomputable def F_law_less : List D → Option (D × List D) := fnD [true, true] 2 d_law_less
theorem w_law_less (T : Top K mg) : FOk P w K mg base 1 "_law_less" ["one", "far"] F_law_less := by
  obtain ⟨f, fd, FF, fb, fm⟩ := T.f_law_less
  have nd := sc_law_less.nd
  exact def_ok FF sc_law_less fb fm [0, 1] [true, true] 2 d_law_less rfl rfl (by decide) (by decide) fun cdv A outer s H E hr => dss_one (ds_ret (de_cmp op_lt o2_lt (dh_of (de_op op_mulA o2_mul (dh_of (de_ix ix_seq o2_idx (dh_var 0) (dh_of (de_int)) (fun _ _ => rfl))) (dh_of (de_ix ix_seq o2_idx (dh_var 1) (dh_of (de_int)) (fun _ _ => rfl))))) (dh_of (de_op op_mulA o2_mul (dh_of (de_ix ix_seq o2_idx (dh_var 1) (dh_of (de_int)) (fun _ _ => rfl))) (dh_of (de_ix ix_seq o2_idx (dh_var 0) (dh_of (de_int)) (fun _ _ => rfl))))) (nomark _)))
noncomputable def d_law_in_lot : Ev → Option Out := bRet (e2 gNe (hE (eLc [2] (iSq (hV 0)) (gNm 2) (tB' (eCh gLe gLe (hE (e2 gMul (hE (eC (.int 2))) (hE (e2 gIdx (hV 2) (hE (eC (.int 0))))))) (hV 1) (hE (e2 gMul (hE (eC (.int 2))) (hE (e2 gIdx (hV 2) (hE (eC (.int 1))))))))) (eV 2))) (hE (eLst (aNil))))
noncomputable def F_law_in_lot : List D → Option (D × List D) := fnD [true, true] 3 d_law_in_lot
theorem w_law_in_lot (T : Top K mg) : FOk P w K mg base 1 "_law_in_lot" ["lot", "at"] F_law_in_lot := by
  obtain ⟨f, fd, FF, fb, fm⟩ := T.f_law_in_lot
  have nd := sc_law_in_lot.nd
  exact def_ok FF sc_law_in_lot fb fm [0, 1] [true, true] 3 d_law_in_lot rfl rfl (by decide) (by decide) fun cdv A outer s H E hr => dss_one (ds_ret (de_cmp (op_neA (hu64 hr)) o2_ne (dh_of (de_lc (own := [("pair", 2)]) [0, 1, 2] [0, 1] 3 rfl nd rfl (di_any (dh_var 0) (hsl_var (by decide))) (blk_ok (by kernel_rfl)) (fun _ _ _ _ _ => dg_name 2 nd) (fun _ _ _ _ _ => dts_one (dt_chain op_le op_le o2_le o2_le (dh_of (de_op op_mulA o2_mul (dh_of (de_int)) (dh_of (de_ix ix_seq o2_idx (dh_var 2) (dh_of (de_int)) (fun _ _ => rfl))))) (dh_var 1) (dh_of (de_op op_mulA o2_mul (dh_of (de_int)) (dh_of (de_ix ix_seq o2_idx (dh_var 2) (dh_of (de_int)) (fun _ _ => rfl))))))) (fun _ _ _ _ _ => de_var 2))) (dh_of (de_lst (da_nil))) (nomark _)))
noncomputable def d_plus : Ev → Option Out := bRet (eCall 2 F_fraction (aCons (hE (e2 gAdd (hE (e2 gMul (hE (e2 gIdx (hV 0) (hE (eC (.int 0))))) (hE (e2 gIdx (hV 1) (hE (eC (.int 1))))))) (hE (e2 gMul (hE (e2 gIdx (hV 1) (hE (eC (.int 0))))) (hE (e2 gIdx (hV 0) (hE (eC (.int 1))))))))) (aCons (hE (e2 gMul (hE (e2 gIdx (hV 0) (hE (eC (.int 1))))) (hE (e2 gIdx (hV 1) (hE (eC (.int 1))))))) aNil)))
noncomputable def F_plus : List D → Option (D × List D) := fnD [true, true] 2 d_plus
theorem w_plus (T : Top K mg) (h_fraction : FOk P w K mg base 1 "fraction" ["top", "bottom"] F_fraction) : FOk P w K mg base 2 "plus" ["one", "other"] F_plus := by
  obtain ⟨f, fd, FF, fb, fm⟩ := T.f_plus
  have nd := sc_plus.nd
  exact def_ok FF sc_plus fb fm [0, 1] [true, true] 2 d_plus rfl rfl (by decide) (by decide) fun cdv A outer s H E hr => dss_one (ds_ret (de_call h_fraction hr rfl (da_cons (dh_of (de_op op_addA o2_add (dh_of (de_op op_mulA o2_mul (dh_of (de_ix ix_seq o2_idx (dh_var 0) (dh_of (de_int)) (fun _ _ => rfl))) (dh_of (de_ix ix_seq o2_idx (dh_var 1) (dh_of (de_int)) (fun _ _ => rfl))))) (dh_of (de_op op_mulA o2_mul (dh_of (de_ix ix_seq o2_idx (dh_var 1) (dh_of (de_int)) (fun _ _ => rfl))) (dh_of (de_ix ix_seq o2_idx (dh_var 0) (dh_of (de_int)) (fun _ _ => rfl))))))) (da_cons (dh_of (de_op op_mulA o2_mul (dh_of (de_ix ix_seq o2_idx (dh_var 0) (dh_of (de_int)) (fun _ _ => rfl))) (dh_of (de_ix ix_seq o2_idx (dh_var 1) (dh_of (de_int)) (fun _ _ => rfl))))) da_nil))))
noncomputable def d_minus : Ev → Option Out := bRet (eCall 2 F_fraction (aCons (hE (e2 gSubt (hE (e2 gMul (hE (e2 gIdx (hV 0) (hE (eC (.int 0))))) (hE (e2 gIdx (hV 1) (hE (eC (.int 1))))))) (hE (e2 gMul (hE (e2 gIdx (hV 1) (hE (eC (.int 0))))) (hE (e2 gIdx (hV 0) (hE (eC (.int 1))))))))) (aCons (hE (e2 gMul (hE (e2 gIdx (hV 0) (hE (eC (.int 1))))) (hE (e2 gIdx (hV 1) (hE (eC (.int 1))))))) aNil)))
noncomputable def F_minus : List D → Option (D × List D) := fnD [true, true] 2 d_minus
theorem w_minus (T : Top K mg) (h_fraction : FOk P w K mg base 1 "fraction" ["top", "bottom"] F_fraction) : FOk P w K mg base 2 "minus" ["one", "other"] F_minus := by
  obtain ⟨f, fd, FF, fb, fm⟩ := T.f_minus
  have nd := sc_minus.nd
  exact def_ok FF sc_minus fb fm [0, 1] [true, true] 2 d_minus rfl rfl (by decide) (by decide) fun cdv A outer s H E hr => dss_one (ds_ret (de_call h_fraction hr rfl (da_cons (dh_of (de_op op_sub o2_sub (dh_of (de_op op_mulA o2_mul (dh_of (de_ix ix_seq o2_idx (dh_var 0) (dh_of (de_int)) (fun _ _ => rfl))) (dh_of (de_ix ix_seq o2_idx (dh_var 1) (dh_of (de_int)) (fun _ _ => rfl))))) (dh_of (de_op op_mulA o2_mul (dh_of (de_ix ix_seq o2_idx (dh_var 1) (dh_of (de_int)) (fun _ _ => rfl))) (dh_of (de_ix ix_seq o2_idx (dh_var 0) (dh_of (de_int)) (fun _ _ => rfl))))))) (da_cons (dh_of (de_op op_mulA o2_mul (dh_of (de_ix ix_seq o2_idx (dh_var 0) (dh_of (de_int)) (fun _ _ => rfl))) (dh_of (de_ix ix_seq o2_idx (dh_var 1) (dh_of (de_int)) (fun _ _ => rfl))))) da_nil))))
noncomputable def d_times : Ev → Option Out := bRet (eCall 2 F_fraction (aCons (hE (e2 gMul (hE (e2 gIdx (hV 0) (hE (eC (.int 0))))) (hE (e2 gIdx (hV 1) (hE (eC (.int 0))))))) (aCons (hE (e2 gMul (hE (e2 gIdx (hV 0) (hE (eC (.int 1))))) (hE (e2 gIdx (hV 1) (hE (eC (.int 1))))))) aNil)))
noncomputable def F_times : List D → Option (D × List D) := fnD [true, true] 2 d_times
theorem w_times (T : Top K mg) (h_fraction : FOk P w K mg base 1 "fraction" ["top", "bottom"] F_fraction) : FOk P w K mg base 2 "times" ["one", "other"] F_times := by
  obtain ⟨f, fd, FF, fb, fm⟩ := T.f_times
  have nd := sc_times.nd
  exact def_ok FF sc_times fb fm [0, 1] [true, true] 2 d_times rfl rfl (by decide) (by decide) fun cdv A outer s H E hr => dss_one (ds_ret (de_call h_fraction hr rfl (da_cons (dh_of (de_op op_mulA o2_mul (dh_of (de_ix ix_seq o2_idx (dh_var 0) (dh_of (de_int)) (fun _ _ => rfl))) (dh_of (de_ix ix_seq o2_idx (dh_var 1) (dh_of (de_int)) (fun _ _ => rfl))))) (da_cons (dh_of (de_op op_mulA o2_mul (dh_of (de_ix ix_seq o2_idx (dh_var 0) (dh_of (de_int)) (fun _ _ => rfl))) (dh_of (de_ix ix_seq o2_idx (dh_var 1) (dh_of (de_int)) (fun _ _ => rfl))))) da_nil))))
noncomputable def d_over : Ev → Option Out := bRet (eCall 2 F_fraction (aCons (hE (e2 gMul (hE (e2 gIdx (hV 0) (hE (eC (.int 0))))) (hE (e2 gIdx (hV 1) (hE (eC (.int 1))))))) (aCons (hE (e2 gMul (hE (e2 gIdx (hV 0) (hE (eC (.int 1))))) (hE (e2 gIdx (hV 1) (hE (eC (.int 0))))))) aNil)))
noncomputable def F_over : List D → Option (D × List D) := fnD [true, true] 2 d_over
theorem w_over (T : Top K mg) (h_fraction : FOk P w K mg base 1 "fraction" ["top", "bottom"] F_fraction) : FOk P w K mg base 2 "over" ["one", "other"] F_over := by
  obtain ⟨f, fd, FF, fb, fm⟩ := T.f_over
  have nd := sc_over.nd
  exact def_ok FF sc_over fb fm [0, 1] [true, true] 2 d_over rfl rfl (by decide) (by decide) fun cdv A outer s H E hr => dss_one (ds_ret (de_call h_fraction hr rfl (da_cons (dh_of (de_op op_mulA o2_mul (dh_of (de_ix ix_seq o2_idx (dh_var 0) (dh_of (de_int)) (fun _ _ => rfl))) (dh_of (de_ix ix_seq o2_idx (dh_var 1) (dh_of (de_int)) (fun _ _ => rfl))))) (da_cons (dh_of (de_op op_mulA o2_mul (dh_of (de_ix ix_seq o2_idx (dh_var 0) (dh_of (de_int)) (fun _ _ => rfl))) (dh_of (de_ix ix_seq o2_idx (dh_var 1) (dh_of (de_int)) (fun _ _ => rfl))))) da_nil))))
noncomputable def d_both : Ev → Option Out := bCons (bAsg (eLst (aNil)) (gNm 2)) (bCons (bFor (iSq (hV 0)) (gTp 2 (gsCons (gNm 3) (gsCons (gNm 4) gsNil))) (bFor (iSq (hV 1)) (gTp 2 (gsCons (gNm 5) (gsCons (gNm 6) gsNil))) (bCons (bAsg (eIf (tT (hE (eCall 2 F_is_less (aCons (hV 3) (aCons (hV 5) aNil))))) (eV 5) (eV 3)) (gNm 7)) (bCons (bAsg (eIf (tT (hE (eCall 2 F_is_less (aCons (hV 6) (aCons (hV 4) aNil))))) (eV 6) (eV 4)) (gNm 8)) (bIf (tNo (tT (hE (eCall 2 F_is_less (aCons (hV 8) (aCons (hV 7) aNil)))))) (bIf (tAn (tB' (e2 gGt (hE (eN gLen (aCons (hV 2) aNil))) (hE (eC (.int 0))))) (tB' (e2 gEq (hE (e2 gIdx (hE (e2 gIdx (hV 2) (hE (e1 gNeg (hE (eC (.int 1))))))) (hE (eC (.int 1))))) (hV 7)))) (bAsg (eTup (aCons (hE (e2 gIdx (hE (e2 gIdx (hV 2) (hE (e1 gNeg (hE (eC (.int 1))))))) (hE (eC (.int 0))))) (aCons (hE (eV 8)) aNil))) (gIx 2 (hE (e1 gNeg (hE (eC (.int 1))))))) (bExp (eMut 2 gApp (aCons (hE (eFz (eTup (aCons (hE (eV 7)) (aCons (hE (eV 8)) aNil))))) aNil)))) (bNil)))))) (bRet (eM 2)))
noncomputable def F_both : List D → Option (D × List D) := fnD [true, true] 9 d_both
theorem w_both (T : Top K mg) (h_is_less : FOk P w K mg base 1 "is_less" ["one", "other"] F_is_less) : FOk P w K mg base 2 "both" ["one", "other"] F_both := by
  obtain ⟨f, fd, FF, fb, fm⟩ := T.f_both
  have nd := sc_both.nd
  exact def_ok FF sc_both fb fm [0, 1] [true, true] 9 d_both rfl rfl (by decide) (by decide) fun cdv A outer s H E hr => dss_cons (ds_set 2 nd (de_lst (da_nil))) (dss_cons (ds_for [0, 1] rfl (di_any (dh_var 0) (hsl_var (by decide))) (dg_tup rfl (dgs_cons (dg_name 3 nd) (dgs_cons (dg_name 4 nd) dgs_nil))) (dss_one (ds_for [0, 1] rfl (di_any (dh_var 1) (hsl_var (by decide))) (dg_tup rfl (dgs_cons (dg_name 5 nd) (dgs_cons (dg_name 6 nd) dgs_nil))) (dss_cons (ds_set 7 nd (de_if (dt_truth (dh_of (de_call h_is_less hr rfl (da_cons (dh_var 3) (da_cons (dh_var 5) da_nil))))) (de_var 5) (de_var 3))) (dss_cons (ds_set 8 nd (de_if (dt_truth (dh_of (de_call h_is_less hr rfl (da_cons (dh_var 6) (da_cons (dh_var 4) da_nil))))) (de_var 6) (de_var 4))) (dss_one (ds_if (dt_not (dt_truth (dh_of (de_call h_is_less hr rfl (da_cons (dh_var 8) (da_cons (dh_var 7) da_nil)))))) (dss_one (ds_if (dt_w (dw_and (dt_cmp op_gt o2_gt (dh_of (de_bi call_len on_len rfl T.len_ boot_len (da_cons (dh_var 2) da_nil))) (dh_of (de_int)) (nomark _)) (dw_and1 (dt_cmp (op_eqA (hu64 hr)) o2_eq (dh_of (de_ix ix_seq o2_idx (dh_of (de_ix ix_seq o2_idx (dh_var 2) (dh_of (de_un un_neg o1_neg (dh_of (de_int)))) (fun _ _ => rfl))) (dh_of (de_int)) (fun _ _ => rfl))) (dh_var 7) (nomark _))))) (dss_one (ds_asg (de_tup (da_cons (dh_of (de_ix ix_seq o2_idx (dh_of (de_ix ix_seq o2_idx (dh_var 2) (dh_of (de_un un_neg o1_neg (dh_of (de_int)))) (fun _ _ => rfl))) (dh_of (de_int)) (fun _ _ => rfl))) (da_cons (dh_of (de_var 8)) da_nil))) (dg_ix 2 (dh_of (de_un un_neg o1_neg (dh_of (de_int))))))) (dss_one (ds_expr (de_mut 2 PySem.F.slot_list_append PySem.F.type_list_append mt_append mo_app (da_cons (dh_of (de_fz (de_tup (da_cons (dh_of (de_var 7)) (da_cons (dh_of (de_var 8)) da_nil))))) da_nil)))))) (dss_nil)))))))) (dss_one (ds_ret (de_mov 2))))
noncomputable def d_law_digits : Ev → Option Out := bCons (bAsg (eLst (aNil)) (gNm 3)) (bCons (bFor (iRg2 (aCons (hV 1) (aCons (hV 2) aNil))) (gNm 4) (bCons (bAsg (eCall 2 F_law_cell (aCons (hV 0) (aCons (hV 4) aNil))) (gNm 5)) (bCons (bIf (tB' (e2 gLt (hV 5) (hE (eC (.int 0))))) (bAsg (e2 gSubt (hE (eC (.int 1))) (hE (e2 gMul (hE (eC (.int 2))) (hV 5)))) (gNm 5)) (bNil)) (bIf (tB' (e2 gGe (hV 5) (hE (e2 gPow (hE (eC (.int 10))) (hE (eC (.int 18))))))) (bFor (iRg1 (aCons (hE (eC (.int 60))) aNil)) (gNm 6) (bIf (tB' (e2 gGt (hV 5) (hE (eC (.int 0))))) (bCons (bExp (eMut 3 gApp (aCons (hE (e2 gMod (hE (eN gInt (aCons (hV 5) aNil))) (hE (eC (.int 1000))))) aNil))) (bAsg (e2 gDiv (hV 5) (hE (eC (.int 1000)))) (gNm 5))) (bNil))) (bCons (bAsg (e2 gMod (hE (eN gInt (aCons (hE (e2 gAdd (hE (e2 gAdd (hE (e2 gMul (hV 5) (hE (eC (.int 48271))))) (hE (e2 gMul (hV 4) (hE (eC (.int 69621))))))) (hE (eC (.int 11))))) aNil))) (hE (eC (.int 2147483647)))) (gNm 7)) (bFor (iRg1 (aCons (hE (eC (.int 12))) aNil)) (gNm 6) (bCons (bAsg (e2 gMod (hE (eN gInt (aCons (hE (e2 gAdd (hE (e2 gAdd (hE (e2 gMul (hV 7) (hE (eC (.int 16807))))) (hE (e2 gMul (hE (eC (.int 7))) (hV 6))))) (hE (eC (.int 1))))) aNil))) (hE (eC (.int 2147483647)))) (gNm 7)) (bExp (eMut 3 gApp (aCons (hE (e2 gMod (hE (eN gInt (aCons (hE (e2 gDiv (hV 7) (hE (eC (.int 997))))) aNil))) (hE (eC (.int 1000))))) aNil)))))))))) (bRet (eM 3)))
noncomputable def F_law_digits : List D → Option (D × List D) := fnD [true, true, true] 8 d_law_digits
theorem w_law_digits (T : Top K mg) (h_law_cell : FOk P w K mg base 1 "_law_cell" ["script", "k"] F_law_cell) : FOk P w K mg base 2 "_law_digits" ["script", "first", "last"] F_law_digits := by
  obtain ⟨f, fd, FF, fb, fm⟩ := T.f_law_digits
  have nd := sc_law_digits.nd
  exact def_ok FF sc_law_digits fb fm [0, 1, 2] [true, true, true] 8 d_law_digits rfl rfl (by decide) (by decide) fun cdv A outer s H E hr => dss_cons (ds_set 3 nd (de_lst (da_nil))) (dss_cons (ds_for [0, 1, 2] rfl (di_range2 rfl T.range_ (da_cons (dh_var 1) (da_cons (dh_var 2) da_nil))) (dg_name 4 nd) (dss_cons (ds_set 5 nd (de_call h_law_cell hr rfl (da_cons (dh_var 0) (da_cons (dh_var 4) da_nil)))) (dss_cons (ds_if (dt_cmp op_lt o2_lt (dh_var 5) (dh_of (de_int)) (nomark _)) (dss_one (ds_set 5 nd (de_op op_sub o2_sub (dh_of (de_int)) (dh_of (de_op op_mulA o2_mul (dh_of (de_int)) (dh_var 5)))))) (dss_nil)) (dss_one (ds_if (dt_cmp op_ge o2_ge (dh_var 5) (dh_of (de_op op_pow o2_pow (dh_of (de_int)) (dh_of (de_int)))) (nomark _)) (dss_one (ds_for [0, 1, 2] rfl (di_range1 rfl T.range_ (da_cons (dh_of (de_int)) da_nil)) (dg_name 6 nd) (dss_one (ds_if (dt_cmp op_gt o2_gt (dh_var 5) (dh_of (de_int)) (nomark _)) (dss_cons (ds_expr (de_mut 3 PySem.F.slot_list_append PySem.F.type_list_append mt_append mo_app (da_cons (dh_of (de_op op_mod o2_mod (dh_of (de_ty call_intA on_int rfl T.int_ boot_int (da_cons (dh_var 5) da_nil))) (dh_of (de_int)))) da_nil))) (dss_one (ds_set 5 nd (de_op op_fdivX o2_div (dh_var 5) (dh_of (de_int)))))) (dss_nil))))) (dss_cons (ds_set 7 nd (de_op op_mod o2_mod (dh_of (de_ty call_intA on_int rfl T.int_ boot_int (da_cons (dh_of (de_op op_addA o2_add (dh_of (de_op op_addA o2_add (dh_of (de_op op_mulA o2_mul (dh_var 5) (dh_of (de_int)))) (dh_of (de_op op_mulA o2_mul (dh_var 4) (dh_of (de_int)))))) (dh_of (de_int)))) da_nil))) (dh_of (de_int)))) (dss_one (ds_for [0, 1, 2] rfl (di_range1 rfl T.range_ (da_cons (dh_of (de_int)) da_nil)) (dg_name 6 nd) (dss_cons (ds_set 7 nd (de_op op_mod o2_mod (dh_of (de_ty call_intA on_int rfl T.int_ boot_int (da_cons (dh_of (de_op op_addA o2_add (dh_of (de_op op_addA o2_add (dh_of (de_op op_mulA o2_mul (dh_var 7) (dh_of (de_int)))) (dh_of (de_op op_mulA o2_mul (dh_of (de_int)) (dh_var 6))))) (dh_of (de_int)))) da_nil))) (dh_of (de_int)))) (dss_one (ds_expr (de_mut 3 PySem.F.slot_list_append PySem.F.type_list_append mt_append mo_app (da_cons (dh_of (de_op op_mod o2_mod (dh_of (de_ty call_intA on_int rfl T.int_ boot_int (da_cons (dh_of (de_op op_fdivX o2_div (dh_var 7) (dh_of (de_int)))) da_nil))) (dh_of (de_int)))) da_nil))))))))))))) (dss_one (ds_ret (de_mov 3))))
noncomputable def d_law_pick : Ev → Option Out := bRet (e2 gIdx (hV 1) (hE (e2 gMod (hE (eN gInt (aCons (hE (eCall 2 F_law_draw (aCons (hV 0) (aCons (hE (eC (.int 1000))) aNil)))) aNil))) (hE (eN gLen (aCons (hV 1) aNil))))))
noncomputable def F_law_pick : List D → Option (D × List D) := fnD [true, true] 2 d_law_pick
theorem w_law_pick (T : Top K mg) (h_law_draw : FOk P w K mg base 1 "_law_draw" ["box", "many"] F_law_draw) : FOk P w K mg base 2 "_law_pick" ["box", "lot"] F_law_pick := by
  obtain ⟨f, fd, FF, fb, fm⟩ := T.f_law_pick
  have nd := sc_law_pick.nd
  exact def_ok FF sc_law_pick fb fm [0, 1] [true, true] 2 d_law_pick rfl rfl (by decide) (by decide) fun cdv A outer s H E hr => dss_one (ds_ret (de_ix ix_seq o2_idx (dh_var 1) (dh_of (de_op op_mod o2_mod (dh_of (de_ty call_intA on_int rfl T.int_ boot_int (da_cons (dh_of (de_call h_law_draw hr rfl (da_cons (dh_var 0) (da_cons (dh_of (de_int)) da_nil)))) da_nil))) (dh_of (de_bi call_len on_len rfl T.len_ boot_len (da_cons (dh_var 1) da_nil))))) (fun _ _ => rfl)))
noncomputable def d_law_value : Ev → Option Out := bCons (bFor (iRg2 (aCons (hE (eC (.int 1))) (aCons (hE (eN gLen (aCons (hV 0) aNil))) aNil))) (gNm 2) (bIf (tNo (tT (hE (eCall 2 F_law_less (aCons (hE (eFz (eTup (aCons (hE (e2 gIdx (hE (e2 gIdx (hV 0) (hV 2))) (hE (eC (.int 0))))) (aCons (hE (eC (.int 1))) aNil))))) (aCons (hV 1) aNil)))))) (bCons (bPar 3 4 (aCons (hE (e2 gSubt (hE (e2 gIdx (hE (e2 gIdx (hV 0) (hV 2))) (hE (eC (.int 0))))) (hE (e2 gIdx (hE (e2 gIdx (hV 0) (hE (e2 gSubt (hV 2) (hE (eC (.int 1))))))) (hE (eC (.int 0))))))) (aCons (hE (e2 gSubt (hE (e2 gIdx (hE (e2 gIdx (hV 0) (hV 2))) (hE (eC (.int 1))))) (hE (e2 gIdx (hE (e2 gIdx (hV 0) (hE (e2 gSubt (hV 2) (hE (eC (.int 1))))))) (hE (eC (.int 1))))))) aNil))) (bCons (bAsg (e2 gAdd (hE (e2 gMul (hE (e2 gMul (hE (e2 gIdx (hE (e2 gIdx (hV 0) (hE (e2 gSubt (hV 2) (hE (eC (.int 1))))))) (hE (eC (.int 1))))) (hV 3))) (hE (e2 gIdx (hV 1) (hE (eC (.int 1))))))) (hE (e2 gMul (hE (e2 gSubt (hE (e2 gIdx (hV 1) (hE (eC (.int 0))))) (hE (e2 gMul (hE (e2 gIdx (hE (e2 gIdx (hV 0) (hE (e2 gSubt (hV 2) (hE (eC (.int 1))))))) (hE (eC (.int 0))))) (hE (e2 gIdx (hV 1) (hE (eC (.int 1))))))))) (hV 4)))) (gNm 5)) (bRet (eTup (aCons (hE (eFz (eM 5))) (aCons (hE (e2 gMul (hV 3) (hE (e2 gIdx (hV 1) (hE (eC (.int 1))))))) aNil)))))) (bNil))) (bRet (eC .non))
noncomputable def F_law_value : List D → Option (D × List D) := fnD [true, true] 6 d_law_value
theorem w_law_value (T : Top K mg) (h_law_less : FOk P w K mg base 1 "_law_less" ["one", "far"] F_law_less) : FOk P w K mg base 2 "_law_value" ["curve", "year"] F_law_value := by
  obtain ⟨f, fd, FF, fb, fm⟩ := T.f_law_value
  have nd := sc_law_value.nd
  exact def_ok FF sc_law_value fb fm [0, 1] [true, true] 6 d_law_value rfl rfl (by decide) (by decide) fun cdv A outer s H E hr => dss_cons (ds_for [0, 1] rfl (di_range2 rfl T.range_ (da_cons (dh_of (de_int)) (da_cons (dh_of (de_bi call_len on_len rfl T.len_ boot_len (da_cons (dh_var 0) da_nil))) da_nil))) (dg_name 2 nd) (dss_one (ds_if (dt_not (dt_truth (dh_of (de_call h_law_less hr rfl (da_cons (dh_of (de_fz (de_tup (da_cons (dh_of (de_ix ix_seq o2_idx (dh_of (de_ix ix_seq o2_idx (dh_var 0) (dh_var 2) (fun _ _ => rfl))) (dh_of (de_int)) (fun _ _ => rfl))) (da_cons (dh_of (de_int)) da_nil))))) (da_cons (dh_var 1) da_nil)))))) (dss_cons (ds_par 3 4 rfl nd (da_cons (dh_of (de_op op_sub o2_sub (dh_of (de_ix ix_seq o2_idx (dh_of (de_ix ix_seq o2_idx (dh_var 0) (dh_var 2) (fun _ _ => rfl))) (dh_of (de_int)) (fun _ _ => rfl))) (dh_of (de_ix ix_seq o2_idx (dh_of (de_ix ix_seq o2_idx (dh_var 0) (dh_of (de_op op_sub o2_sub (dh_var 2) (dh_of (de_int)))) (fun _ _ => rfl))) (dh_of (de_int)) (fun _ _ => rfl))))) (da_cons (dh_of (de_op op_sub o2_sub (dh_of (de_ix ix_seq o2_idx (dh_of (de_ix ix_seq o2_idx (dh_var 0) (dh_var 2) (fun _ _ => rfl))) (dh_of (de_int)) (fun _ _ => rfl))) (dh_of (de_ix ix_seq o2_idx (dh_of (de_ix ix_seq o2_idx (dh_var 0) (dh_of (de_op op_sub o2_sub (dh_var 2) (dh_of (de_int)))) (fun _ _ => rfl))) (dh_of (de_int)) (fun _ _ => rfl))))) da_nil))) (dss_cons (ds_set 5 nd (de_op op_addA o2_add (dh_of (de_op op_mulA o2_mul (dh_of (de_op op_mulA o2_mul (dh_of (de_ix ix_seq o2_idx (dh_of (de_ix ix_seq o2_idx (dh_var 0) (dh_of (de_op op_sub o2_sub (dh_var 2) (dh_of (de_int)))) (fun _ _ => rfl))) (dh_of (de_int)) (fun _ _ => rfl))) (dh_var 3))) (dh_of (de_ix ix_seq o2_idx (dh_var 1) (dh_of (de_int)) (fun _ _ => rfl))))) (dh_of (de_op op_mulA o2_mul (dh_of (de_op op_sub o2_sub (dh_of (de_ix ix_seq o2_idx (dh_var 1) (dh_of (de_int)) (fun _ _ => rfl))) (dh_of (de_op op_mulA o2_mul (dh_of (de_ix ix_seq o2_idx (dh_of (de_ix ix_seq o2_idx (dh_var 0) (dh_of (de_op op_sub o2_sub (dh_var 2) (dh_of (de_int)))) (fun _ _ => rfl))) (dh_of (de_int)) (fun _ _ => rfl))) (dh_of (de_ix ix_seq o2_idx (dh_var 1) (dh_of (de_int)) (fun _ _ => rfl))))))) (dh_var 4))))) (dss_one (ds_ret (de_tup (da_cons (dh_of (de_fz (de_mov 5))) (da_cons (dh_of (de_op op_mulA o2_mul (dh_var 3) (dh_of (de_ix ix_seq o2_idx (dh_var 1) (dh_of (de_int)) (fun _ _ => rfl))))) da_nil))))))) (dss_nil)))) (dss_one (ds_ret (de_non)))
noncomputable def d_law_cuts : Ev → Option Out := bCons (bAsg (eLc [3] (iSq (hV 0)) (gNm 3) (tAll) (eFz (eTup (aCons (hE (e2 gIdx (hV 3) (hE (eC (.int 0))))) (aCons (hE (eC (.int 1))) aNil))))) (gNm 2)) (bCons (bFor (iRg2 (aCons (hE (eC (.int 1))) (aCons (hE (eN gLen (aCons (hV 0) aNil))) aNil))) (gNm 4) (bCons (bPar 5 6 (aCons (hE (e2 gSubt (hE (e2 gIdx (hE (e2 gIdx (hV 0) (hV 4))) (hE (eC (.int 0))))) (hE (e2 gIdx (hE (e2 gIdx (hV 0) (hE (e2 gSubt (hV 4) (hE (eC (.int 1))))))) (hE (eC (.int 0))))))) (aCons (hE (e2 gSubt (hE (e2 gIdx (hE (e2 gIdx (hV 0) (hV 4))) (hE (eC (.int 1))))) (hE (e2 gIdx (hE (e2 gIdx (hV 0) (hE (e2 gSubt (hV 4) (hE (eC (.int 1))))))) (hE (eC (.int 1))))))) aNil))) (bFor (iSq (hV 1)) (gNm 7) (bIf (tB' (e2 gNe (hV 6) (hE (eC (.int 0))))) (bCons (bAsg (e2 gAdd (hE (e2 gMul (hE (e2 gMul (hE (e2 gIdx (hE (e2 gIdx (hV 0) (hE (e2 gSubt (hV 4) (hE (eC (.int 1))))))) (hE (eC (.int 0))))) (hE (e2 gIdx (hV 7) (hE (eC (.int 1))))))) (hV 6))) (hE (e2 gMul (hE (e2 gSubt (hE (e2 gIdx (hV 7) (hE (eC (.int 0))))) (hE (e2 gMul (hE (e2 gIdx (hE (e2 gIdx (hV 0) (hE (e2 gSubt (hV 4) (hE (eC (.int 1))))))) (hE (eC (.int 1))))) (hE (e2 gIdx (hV 7) (hE (eC (.int 1))))))))) (hV 5)))) (gNm 8)) (bCons (bAsg (eCall 2 F_law_low (aCons (hV 8) (aCons (hE (e2 gMul (hE (e2 gIdx (hV 7) (hE (eC (.int 1))))) (hV 6))) aNil))) (gNm 9)) (bIf (tAn (tNo (tT (hE (eCall 2 F_law_less (aCons (hV 9) (aCons (hE (eFz (eTup (aCons (hE (e2 gIdx (hE (e2 gIdx (hV 0) (hE (e2 gSubt (hV 4) (hE (eC (.int 1))))))) (hE (eC (.int 0))))) (aCons (hE (eC (.int 1))) aNil))))) aNil)))))) (tNo (tT (hE (eCall 2 F_law_less (aCons (hE (eFz (eTup (aCons (hE (e2 gIdx (hE (e2 gIdx (hV 0) (hV 4))) (hE (eC (.int 0))))) (aCons (hE (eC (.int 1))) aNil))))) (aCons (hV 9) aNil))))))) (bCons (bAsg (eN gLen (aCons (hE (eLc [11] (iSq (hV 2)) (gNm 11) (tT (hE (eCall 2 F_law_less (aCons (hV 11) (aCons (hV 9) aNil))))) (eV 11))) aNil)) (gNm 10)) (bIf (tB' (e2 (gIn true) (hV 9) (hV 2))) (bAsg (e2 gAdd (hE (e2 gAdd (hE (eSl (hV 2) (pN) (pS (hV 10)))) (hE (eLst (aCons (hE (eV 9)) aNil))))) (hE (eSl (hV 2) (pS (hV 10)) (pN)))) (gNm 2)) (bNil))) (bNil)))) (bNil))))) (bRet (eM 2)))
noncomputable def F_law_cuts : List D → Option (D × List D) := fnD [true, true] 12 d_law_cuts
theorem w_law_cuts (T : Top K mg) (h_law_low : FOk P w K mg base 1 "_law_low" ["top", "bottom"] F_law_low) (h_law_less : FOk P w K mg base 1 "_law_less" ["one", "far"] F_law_less) : FOk P w K mg base 2 "_law_cuts" ["curve", "levels"] F_law_cuts := by
  obtain ⟨f, fd, FF, fb, fm⟩ := T.f_law_cuts
  have nd := sc_law_cuts.nd
  exact def_ok FF sc_law_cuts fb fm [0, 1] [true, true] 12 d_law_cuts rfl rfl (by decide) (by decide) fun cdv A outer s H E hr => dss_cons (ds_setLc 2 (own := [("point", 3)]) [0, 1, 2, 3, 4, 5, 6, 7, 8, 9, 10, 11] [0, 1, 2, 4, 5, 6, 7, 8, 9, 10, 11] 12 rfl nd rfl (di_any (dh_var 0) (hsl_var (by decide))) (blk_ok (by kernel_rfl)) (fun _ _ _ _ _ => dg_name 3 nd) (fun _ _ _ _ _ => dts_nil) (fun _ _ _ _ _ => de_fz (de_tup (da_cons (dh_of (de_ix ix_seq o2_idx (dh_var 3) (dh_of (de_int)) (fun _ _ => rfl))) (da_cons (dh_of (de_int)) da_nil))))) (dss_cons (ds_for [0, 1] rfl (di_range2 rfl T.range_ (da_cons (dh_of (de_int)) (da_cons (dh_of (de_bi call_len on_len rfl T.len_ boot_len (da_cons (dh_var 0) da_nil))) da_nil))) (dg_name 4 nd) (dss_cons (ds_par 5 6 rfl nd (da_cons (dh_of (de_op op_sub o2_sub (dh_of (de_ix ix_seq o2_idx (dh_of (de_ix ix_seq o2_idx (dh_var 0) (dh_var 4) (fun _ _ => rfl))) (dh_of (de_int)) (fun _ _ => rfl))) (dh_of (de_ix ix_seq o2_idx (dh_of (de_ix ix_seq o2_idx (dh_var 0) (dh_of (de_op op_sub o2_sub (dh_var 4) (dh_of (de_int)))) (fun _ _ => rfl))) (dh_of (de_int)) (fun _ _ => rfl))))) (da_cons (dh_of (de_op op_sub o2_sub (dh_of (de_ix ix_seq o2_idx (dh_of (de_ix ix_seq o2_idx (dh_var 0) (dh_var 4) (fun _ _ => rfl))) (dh_of (de_int)) (fun _ _ => rfl))) (dh_of (de_ix ix_seq o2_idx (dh_of (de_ix ix_seq o2_idx (dh_var 0) (dh_of (de_op op_sub o2_sub (dh_var 4) (dh_of (de_int)))) (fun _ _ => rfl))) (dh_of (de_int)) (fun _ _ => rfl))))) da_nil))) (dss_one (ds_for [0, 1] rfl (di_any (dh_var 1) (hsl_var (by decide))) (dg_name 7 nd) (dss_one (ds_if (dt_cmp (op_neA (hu64 hr)) o2_ne (dh_var 6) (dh_of (de_int)) (nomark _)) (dss_cons (ds_set 8 nd (de_op op_addA o2_add (dh_of (de_op op_mulA o2_mul (dh_of (de_op op_mulA o2_mul (dh_of (de_ix ix_seq o2_idx (dh_of (de_ix ix_seq o2_idx (dh_var 0) (dh_of (de_op op_sub o2_sub (dh_var 4) (dh_of (de_int)))) (fun _ _ => rfl))) (dh_of (de_int)) (fun _ _ => rfl))) (dh_of (de_ix ix_seq o2_idx (dh_var 7) (dh_of (de_int)) (fun _ _ => rfl))))) (dh_var 6))) (dh_of (de_op op_mulA o2_mul (dh_of (de_op op_sub o2_sub (dh_of (de_ix ix_seq o2_idx (dh_var 7) (dh_of (de_int)) (fun _ _ => rfl))) (dh_of (de_op op_mulA o2_mul (dh_of (de_ix ix_seq o2_idx (dh_of (de_ix ix_seq o2_idx (dh_var 0) (dh_of (de_op op_sub o2_sub (dh_var 4) (dh_of (de_int)))) (fun _ _ => rfl))) (dh_of (de_int)) (fun _ _ => rfl))) (dh_of (de_ix ix_seq o2_idx (dh_var 7) (dh_of (de_int)) (fun _ _ => rfl))))))) (dh_var 5))))) (dss_cons (ds_set 9 nd (de_call h_law_low hr rfl (da_cons (dh_var 8) (da_cons (dh_of (de_op op_mulA o2_mul (dh_of (de_ix ix_seq o2_idx (dh_var 7) (dh_of (de_int)) (fun _ _ => rfl))) (dh_var 6))) da_nil)))) (dss_one (ds_if (dt_w (dw_and (dt_not (dt_truth (dh_of (de_call h_law_less hr rfl (da_cons (dh_var 9) (da_cons (dh_of (de_fz (de_tup (da_cons (dh_of (de_ix ix_seq o2_idx (dh_of (de_ix ix_seq o2_idx (dh_var 0) (dh_of (de_op op_sub o2_sub (dh_var 4) (dh_of (de_int)))) (fun _ _ => rfl))) (dh_of (de_int)) (fun _ _ => rfl))) (da_cons (dh_of (de_int)) da_nil))))) da_nil)))))) (dw_and1 (dt_not (dt_truth (dh_of (de_call h_law_less hr rfl (da_cons (dh_of (de_fz (de_tup (da_cons (dh_of (de_ix ix_seq o2_idx (dh_of (de_ix ix_seq o2_idx (dh_var 0) (dh_var 4) (fun _ _ => rfl))) (dh_of (de_int)) (fun _ _ => rfl))) (da_cons (dh_of (de_int)) da_nil))))) (da_cons (dh_var 9) da_nil))))))))) (dss_cons (ds_set 10 nd (de_bi call_len on_len rfl T.len_ boot_len (da_cons (dh_of (de_lc (own := [("far", 11)]) [0, 1, 2, 3, 4, 5, 6, 7, 8, 9, 10, 11] [0, 1, 2, 3, 4, 5, 6, 7, 8, 9, 10] 12 rfl nd rfl (di_any (dh_var 2) (hsl_var (by decide))) (blk_ok (by kernel_rfl)) (fun _ _ _ _ _ => dg_name 11 nd) (fun _ _ _ _ _ => dts_one (dt_truth (dh_of (de_call h_law_less hr rfl (da_cons (dh_var 11) (da_cons (dh_var 9) da_nil)))))) (fun _ _ _ _ _ => de_var 11))) da_nil))) (dss_one (ds_if (dt_cmp (op_notInA (hu65 hr)) o2_notIn (dh_var 9) (dh_var 2) rfl) (dss_one (ds_set 2 nd (de_op op_addA o2_add (dh_of (de_op op_addA o2_add (dh_of (de_sl (dh_var 2) (dp_none) (dp_some (dh_var 10)))) (dh_of (de_lst (da_cons (dh_of (de_var 9)) da_nil))))) (dh_of (de_sl (dh_var 2) (dp_some (dh_var 10)) (dp_none)))))) (dss_nil)))) (dss_nil))))) (dss_nil))))))) (dss_one (ds_ret (de_mov 2))))
noncomputable def d_law_in : Ev → Option Out := bCons (bFor (iSq (hV 1)) (gTp 2 (gsCons (gNm 2) (gsCons (gNm 3) gsNil))) (bIf (tOr' (tT (hE (eCall 2 F_law_less (aCons (hV 0) (aCons (hV 2) aNil))))) (tT (hE (eCall 2 F_law_less (aCons (hV 3) (aCons (hV 0) aNil)))))) (bRet (eC (.bl false))) (bNil))) (bRet (eC (.bl true)))
noncomputable def F_law_in : List D → Option (D × List D) := fnD [true, true] 4 d_law_in
theorem w_law_in (T : Top K mg) (h_law_less : FOk P w K mg base 1 "_law_less" ["one", "far"] F_law_less) : FOk P w K mg base 2 "_law_in" ["value", "bounds"] F_law_in := by
  obtain ⟨f, fd, FF, fb, fm⟩ := T.f_law_in
  have nd := sc_law_in.nd
  exact def_ok FF sc_law_in fb fm [0, 1] [true, true] 4 d_law_in rfl rfl (by decide) (by decide) fun cdv A outer s H E hr => dss_cons (ds_for [0, 1] rfl (di_any (dh_var 1) (hsl_var (by decide))) (dg_tup rfl (dgs_cons (dg_name 2 nd) (dgs_cons (dg_name 3 nd) dgs_nil))) (dss_one (ds_if (dt_w (dw_or (dt_truth (dh_of (de_call h_law_less hr rfl (da_cons (dh_var 0) (da_cons (dh_var 2) da_nil))))) (dw_or1 (dt_truth (dh_of (de_call h_law_less hr rfl (da_cons (dh_var 3) (da_cons (dh_var 0) da_nil)))))))) (dss_one (ds_ret (de_bl))) (dss_nil)))) (dss_one (ds_ret (de_bl)))
noncomputable def d_law_told : Ev → Option Out := bRet (eLc [1] (iSq (hV 0)) (gNm 1) (tAll) (eFz (eTup (aCons (hE (eFz (eCall 2 F_law_low (aCons (hE (e2 gIdx (hV 1) (hE (eC (.int 0))))) (aCons (hE (eC (.int 4))) aNil))))) (aCons (hE (eFz (eCall 2 F_law_low (aCons (hE (e2 gIdx (hV 1) (hE (eC (.int 1))))) (aCons (hE (eC (.int 4))) aNil))))) aNil)))))
noncomputable def F_law_told : List D → Option (D × List D) := fnD [true] 2 d_law_told
theorem w_law_told (T : Top K mg) (h_law_low : FOk P w K mg base 1 "_law_low" ["top", "bottom"] F_law_low) : FOk P w K mg base 2 "_law_told" ["lot"] F_law_told := by
  obtain ⟨f, fd, FF, fb, fm⟩ := T.f_law_told
  have nd := sc_law_told.nd
  exact def_ok FF sc_law_told fb fm [0] [true] 2 d_law_told rfl rfl (by decide) (by decide) fun cdv A outer s H E hr => dss_one (ds_ret (de_lc (own := [("pair", 1)]) [0, 1] [0] 2 rfl nd rfl (di_any (dh_var 0) (hsl_var (by decide))) (blk_ok (by kernel_rfl)) (fun _ _ _ _ _ => dg_name 1 nd) (fun _ _ _ _ _ => dts_nil) (fun _ _ _ _ _ => de_fz (de_tup (da_cons (dh_of (de_fz (de_call h_law_low hr rfl (da_cons (dh_of (de_ix ix_seq o2_idx (dh_var 1) (dh_of (de_int)) (fun _ _ => rfl))) (da_cons (dh_of (de_int)) da_nil))))) (da_cons (dh_of (de_fz (de_call h_law_low hr rfl (da_cons (dh_of (de_ix ix_seq o2_idx (dh_var 1) (dh_of (de_int)) (fun _ _ => rfl))) (da_cons (dh_of (de_int)) da_nil))))) da_nil))))))
noncomputable def d_law_both : Ev → Option Out := bCons (bPar 2 3 (aCons (hE (eLst (aNil))) (aCons (hE (eC .non)) aNil))) (bCons (bIf (tOr' (tB' (e2 gEq (hV 0) (hE (eLst (aNil))))) (tB' (e2 gEq (hV 1) (hE (eLst (aNil)))))) (bRet (eLst (aNil))) (bNil)) (bCons (bPar 4 5 (aCons (hE (e2 gMul (hE (eC (.int 2))) (hE (e2 gIdx (hE (e2 gIdx (hV 0) (hE (eC (.int 0))))) (hE (eC (.int 0))))))) (aCons (hE (e2 gMul (hE (eC (.int 2))) (hE (e2 gIdx (hE (e2 gIdx (hV 0) (hE (e1 gNeg (hE (eC (.int 1))))))) (hE (eC (.int 1))))))) aNil))) (bCons (bFor (iRg2 (aCons (hV 4) (aCons (hE (e2 gAdd (hV 5) (hE (eC (.int 1))))) aNil))) (gNm 6) (bIf (tAn (tT (hE (eCall 2 F_law_in_lot (aCons (hV 0) (aCons (hV 6) aNil))))) (tT (hE (eCall 2 F_law_in_lot (aCons (hV 1) (aCons (hV 6) aNil)))))) (bCons (bIf (tB' (e2 (gIsB false) (hV 3) (hE (eC .non)))) (bAsg (eV 6) (gNm 3)) (bNil)) (bIf (tOr' (tNo (tT (hE (eCall 2 F_law_in_lot (aCons (hV 0) (aCons (hE (e2 gAdd (hV 6) (hE (eC (.int 1))))) aNil)))))) (tNo (tT (hE (eCall 2 F_law_in_lot (aCons (hV 1) (aCons (hE (e2 gAdd (hV 6) (hE (eC (.int 1))))) aNil))))))) (bCons (bExp (eMut 2 gApp (aCons (hE (eFz (eTup (aCons (hE (eFz (eCall 2 F_law_low (aCons (hV 3) (aCons (hE (eC (.int 8))) aNil))))) (aCons (hE (eFz (eCall 2 F_law_low (aCons (hV 6) (aCons (hE (eC (.int 8))) aNil))))) aNil))))) aNil))) (bAsg (eC .non) (gNm 3))) (bNil))) (bNil))) (bRet (eM 2)))))
noncomputable def F_law_both : List D → Option (D × List D) := fnD [true, true] 7 d_law_both
theorem w_law_both (T : Top K mg) (h_law_low : FOk P w K mg base 1 "_law_low" ["top", "bottom"] F_law_low) (h_law_in_lot : FOk P w K mg base 1 "_law_in_lot" ["lot", "at"] F_law_in_lot) : FOk P w K mg base 2 "_law_both" ["one", "far"] F_law_both := by
  obtain ⟨f, fd, FF, fb, fm⟩ := T.f_law_both
  have nd := sc_law_both.nd
  exact def_ok FF sc_law_both fb fm [0, 1] [true, true] 7 d_law_both rfl rfl (by decide) (by decide) fun cdv A outer s H E hr => dss_cons (ds_par 2 3 rfl nd (da_cons (dh_of (de_lst (da_nil))) (da_cons (dh_of (de_non)) da_nil))) (dss_cons (ds_if (dt_w (dw_or (dt_cmp (op_eqA (hu64 hr)) o2_eq (dh_var 0) (dh_of (de_lst (da_nil))) (nomark _)) (dw_or1 (dt_cmp (op_eqA (hu64 hr)) o2_eq (dh_var 1) (dh_of (de_lst (da_nil))) (nomark _))))) (dss_one (ds_ret (de_lst (da_nil)))) (dss_nil)) (dss_cons (ds_par 4 5 rfl nd (da_cons (dh_of (de_op op_mulA o2_mul (dh_of (de_int)) (dh_of (de_ix ix_seq o2_idx (dh_of (de_ix ix_seq o2_idx (dh_var 0) (dh_of (de_int)) (fun _ _ => rfl))) (dh_of (de_int)) (fun _ _ => rfl))))) (da_cons (dh_of (de_op op_mulA o2_mul (dh_of (de_int)) (dh_of (de_ix ix_seq o2_idx (dh_of (de_ix ix_seq o2_idx (dh_var 0) (dh_of (de_un un_neg o1_neg (dh_of (de_int)))) (fun _ _ => rfl))) (dh_of (de_int)) (fun _ _ => rfl))))) da_nil))) (dss_cons (ds_for [0, 1] rfl (di_range2 rfl T.range_ (da_cons (dh_var 4) (da_cons (dh_of (de_op op_addA o2_add (dh_var 5) (dh_of (de_int)))) da_nil))) (dg_name 6 nd) (dss_one (ds_if (dt_w (dw_and (dt_truth (dh_of (de_call h_law_in_lot hr rfl (da_cons (dh_var 0) (da_cons (dh_var 6) da_nil))))) (dw_and1 (dt_truth (dh_of (de_call h_law_in_lot hr rfl (da_cons (dh_var 1) (da_cons (dh_var 6) da_nil)))))))) (dss_cons (ds_if (dt_cmp op_isA o2_is (dh_var 3) (dh_of (de_non)) (nomark _)) (dss_one (ds_set 3 nd (de_var 6))) (dss_nil)) (dss_one (ds_if (dt_w (dw_or (dt_not (dt_truth (dh_of (de_call h_law_in_lot hr rfl (da_cons (dh_var 0) (da_cons (dh_of (de_op op_addA o2_add (dh_var 6) (dh_of (de_int)))) da_nil)))))) (dw_or1 (dt_not (dt_truth (dh_of (de_call h_law_in_lot hr rfl (da_cons (dh_var 1) (da_cons (dh_of (de_op op_addA o2_add (dh_var 6) (dh_of (de_int)))) da_nil))))))))) (dss_cons (ds_expr (de_mut 2 PySem.F.slot_list_append PySem.F.type_list_append mt_append mo_app (da_cons (dh_of (de_fz (de_tup (da_cons (dh_of (de_fz (de_call h_law_low hr rfl (da_cons (dh_var 3) (da_cons (dh_of (de_int)) da_nil))))) (da_cons (dh_of (de_fz (de_call h_law_low hr rfl (da_cons (dh_var 6) (da_cons (dh_of (de_int)) da_nil))))) da_nil))))) da_nil))) (dss_one (ds_set 3 nd (de_non)))) (dss_nil)))) (dss_nil)))) (dss_one (ds_ret (de_mov 2))))))
noncomputable def d_law_middle : Ev → Option Out := bCons (bAsg (eN gSum (aCons (hE (eLc [2] (iSq (hV 0)) (gNm 2) (tAll) (e2 gSubt (hE (e2 gIdx (hV 2) (hE (eC (.int 1))))) (hE (e2 gIdx (hV 2) (hE (eC (.int 0)))))))) aNil)) (gNm 1)) (bCons (bFor (iRg2 (aCons (hE (e2 gMul (hE (eC (.int 2))) (hE (e2 gIdx (hE (e2 gIdx (hV 0) (hE (eC (.int 0))))) (hE (eC (.int 0))))))) (aCons (hE (e2 gAdd (hE (e2 gMul (hE (eC (.int 2))) (hE (e2 gIdx (hE (e2 gIdx (hV 0) (hE (e1 gNeg (hE (eC (.int 1))))))) (hE (eC (.int 1))))))) (hE (eC (.int 1))))) aNil))) (gNm 3) (bIf (tB' (e2 gGe (hE (eN gSum (aCons (hE (eLc [2] (iSq (hV 0)) (gNm 2) (tAll) (eN gMax2 (aCons (hE (eC (.int 0))) (aCons (hE (e2 gSubt (hE (eN gMin2 (aCons (hE (e2 gMul (hE (eC (.int 2))) (hE (e2 gIdx (hV 2) (hE (eC (.int 1))))))) (aCons (hV 3) aNil)))) (hE (e2 gMul (hE (eC (.int 2))) (hE (e2 gIdx (hV 2) (hE (eC (.int 0))))))))) aNil))))) aNil))) (hV 1))) (bRet (eCall 2 F_law_low (aCons (hV 3) (aCons (hE (eC (.int 8))) aNil)))) (bNil))) (bRet (eC .non)))
noncomputable def F_law_middle : List D → Option (D × List D) := fnD [true] 4 d_law_middle
theorem w_law_middle (T : Top K mg) (h_law_low : FOk P w K mg base 1 "_law_low" ["top", "bottom"] F_law_low) : FOk P w K mg base 2 "_law_middle" ["lot"] F_law_middle := by
  obtain ⟨f, fd, FF, fb, fm⟩ := T.f_law_middle
  have nd := sc_law_middle.nd
  exact def_ok FF sc_law_middle fb fm [0] [true] 4 d_law_middle rfl rfl (by decide) (by decide) fun cdv A outer s H E hr => dss_cons (ds_set 1 nd (de_bi (cr_sum rfl) on_sum rfl T.sum_ boot_sum (da_cons (dh_of (de_lc (own := [("pair", 2)]) [0, 1, 2, 3] [0, 1, 3] 4 rfl nd rfl (di_any (dh_var 0) (hsl_var (by decide))) (blk_ok (by kernel_rfl)) (fun _ _ _ _ _ => dg_name 2 nd) (fun _ _ _ _ _ => dts_nil) (fun _ _ _ _ _ => de_op op_sub o2_sub (dh_of (de_ix ix_seq o2_idx (dh_var 2) (dh_of (de_int)) (fun _ _ => rfl))) (dh_of (de_ix ix_seq o2_idx (dh_var 2) (dh_of (de_int)) (fun _ _ => rfl)))))) da_nil))) (dss_cons (ds_for [0] rfl (di_range2 rfl T.range_ (da_cons (dh_of (de_op op_mulA o2_mul (dh_of (de_int)) (dh_of (de_ix ix_seq o2_idx (dh_of (de_ix ix_seq o2_idx (dh_var 0) (dh_of (de_int)) (fun _ _ => rfl))) (dh_of (de_int)) (fun _ _ => rfl))))) (da_cons (dh_of (de_op op_addA o2_add (dh_of (de_op op_mulA o2_mul (dh_of (de_int)) (dh_of (de_ix ix_seq o2_idx (dh_of (de_ix ix_seq o2_idx (dh_var 0) (dh_of (de_un un_neg o1_neg (dh_of (de_int)))) (fun _ _ => rfl))) (dh_of (de_int)) (fun _ _ => rfl))))) (dh_of (de_int)))) da_nil))) (dg_name 3 nd) (dss_one (ds_if (dt_cmp op_ge o2_ge (dh_of (de_bi (cr_sum rfl) on_sum rfl T.sum_ boot_sum (da_cons (dh_of (de_lc (own := [("pair", 2)]) [0, 1, 2, 3] [0, 1, 3] 4 rfl nd rfl (di_any (dh_var 0) (hsl_var (by decide))) (blk_ok (by kernel_rfl)) (fun _ _ _ _ _ => dg_name 2 nd) (fun _ _ _ _ _ => dts_nil) (fun _ _ _ _ _ => de_bi (call_max2 rfl) on_int2 rfl T.max_ boot_max (da_cons (dh_of (de_int)) (da_cons (dh_of (de_op op_sub o2_sub (dh_of (de_bi (call_min2 rfl) on_int2 rfl T.min_ boot_min (da_cons (dh_of (de_op op_mulA o2_mul (dh_of (de_int)) (dh_of (de_ix ix_seq o2_idx (dh_var 2) (dh_of (de_int)) (fun _ _ => rfl))))) (da_cons (dh_var 3) da_nil)))) (dh_of (de_op op_mulA o2_mul (dh_of (de_int)) (dh_of (de_ix ix_seq o2_idx (dh_var 2) (dh_of (de_int)) (fun _ _ => rfl))))))) da_nil))))) da_nil))) (dh_var 1) (nomark _)) (dss_one (ds_ret (de_call h_law_low hr rfl (da_cons (dh_var 3) (da_cons (dh_of (de_int)) da_nil))))) (dss_nil)))) (dss_one (ds_ret (de_non))))
noncomputable def d_years_of : Ev → Option Out := bCons (bAsg (eLst (aNil)) (gNm 2)) (bCons (bFor (iZp (aCons (hV 0) (aCons (hE (eSl (hV 0) (pS (hE (eC (.int 1)))) (pN))) aNil))) (gTp 2 (gsCons (gTp 2 (gsCons (gNm 3) (gsCons (gNm 4) gsNil))) (gsCons (gTp 2 (gsCons (gNm 5) (gsCons (gNm 6) gsNil))) gsNil))) (bCons (bAsg (eC .non) (gNm 7)) (bCons (bIf (tB' (e2 gEq (hV 4) (hV 6))) (bIf (tB' (e2 gEq (hV 1) (hE (eCall 1 F_whole (aCons (hV 4) aNil))))) (bAsg (eTup (aCons (hE (eFz (eCall 1 F_whole (aCons (hV 3) aNil)))) (aCons (hE (eFz (eCall 1 F_whole (aCons (hV 5) aNil)))) aNil))) (gNm 7)) (bNil)) (bCons (bAsg (eCall 2 F_over (aCons (hE (eFz (eCall 2 F_minus (aCons (hV 1) (aCons (hE (eFz (eCall 1 F_whole (aCons (hV 4) aNil)))) aNil))))) (aCons (hE (eFz (eCall 1 F_whole (aCons (hE (e2 gSubt (hV 6) (hV 4))) aNil)))) aNil))) (gNm 8)) (bIf (tAn (tB' (e2 gGe (hE (e2 gIdx (hV 8) (hE (eC (.int 0))))) (hE (eC (.int 0))))) (tNo (tT (hE (eCall 2 F_is_less (aCons (hE (eFz (eTup (aCons (hE (eC (.int 1))) (aCons (hE (eC (.int 1))) aNil))))) (aCons (hV 8) aNil))))))) (bCons (bAsg (eCall 2 F_plus (aCons (hE (eFz (eCall 1 F_whole (aCons (hV 3) aNil)))) (aCons (hE (eFz (eCall 2 F_times (aCons (hV 8) (aCons (hE (eFz (eCall 1 F_whole (aCons (hE (e2 gSubt (hV 5) (hV 3))) aNil)))) aNil))))) aNil))) (gNm 9)) (bAsg (eTup (aCons (hE (eV 9)) (aCons (hE (eV 9)) aNil))) (gNm 7))) (bNil)))) (bIf (tB' (e2 (gIsB true) (hV 7) (hE (eC .non)))) (bIf (tAn (tB' (e2 gGt (hE (eN gLen (aCons (hV 2) aNil))) (hE (eC (.int 0))))) (tB' (e2 gEq (hE (e2 gIdx (hE (e2 gIdx (hV 2) (hE (e1 gNeg (hE (eC (.int 1))))))) (hE (eC (.int 1))))) (hE (e2 gIdx (hV 7) (hE (eC (.int 0)))))))) (bAsg (eTup (aCons (hE (e2 gIdx (hE (e2 gIdx (hV 2) (hE (e1 gNeg (hE (eC (.int 1))))))) (hE (eC (.int 0))))) (aCons (hE (e2 gIdx (hV 7) (hE (eC (.int 1))))) aNil))) (gIx 2 (hE (e1 gNeg (hE (eC (.int 1))))))) (bExp (eMut 2 gApp (aCons (hE (eV 7)) aNil)))) (bNil))))) (bRet (eM 2)))
noncomputable def F_years_of : List D → Option (D × List D) := fnD [true, true] 10 d_years_of
theorem w_years_of (T : Top K mg) (h_plus : FOk P w K mg base 2 "plus" ["one", "other"] F_plus) (h_minus : FOk P w K mg base 2 "minus" ["one", "other"] F_minus) (h_times : FOk P w K mg base 2 "times" ["one", "other"] F_times) (h_over : FOk P w K mg base 2 "over" ["one", "other"] F_over) (h_is_less : FOk P w K mg base 2 "is_less" ["one", "other"] F_is_less) (h_whole : FOk P w K mg base 2 "whole" ["number"] F_whole) : FOk P w K mg base 3 "years_of" ["curve", "value"] F_years_of := by
  obtain ⟨f, fd, FF, fb, fm⟩ := T.f_years_of
  have nd := sc_years_of.nd
  exact def_ok FF sc_years_of fb fm [0, 1] [true, true] 10 d_years_of rfl rfl (by decide) (by decide) fun cdv A outer s H E hr => dss_cons (ds_set 2 nd (de_lst (da_nil))) (dss_cons (ds_for [0, 1] rfl (di_zip rfl T.zip_ (da_cons (dh_var 0) (da_cons (dh_of (de_sl (dh_var 0) (dp_some (dh_of (de_int))) (dp_none))) da_nil)) (hsls_var (by decide) (hsls_of (hsls_nil)))) (dg_tup rfl (dgs_cons (dg_tup rfl (dgs_cons (dg_name 3 nd) (dgs_cons (dg_name 4 nd) dgs_nil))) (dgs_cons (dg_tup rfl (dgs_cons (dg_name 5 nd) (dgs_cons (dg_name 6 nd) dgs_nil))) dgs_nil))) (dss_cons (ds_set 7 nd (de_non)) (dss_cons (ds_if (dt_cmp (op_eqA (hu64 hr)) o2_eq (dh_var 4) (dh_var 6) (nomark _)) (dss_one (ds_if (dt_cmp (op_eqA (hu64 hr)) o2_eq (dh_var 1) (dh_of (de_call h_whole hr rfl (da_cons (dh_var 4) da_nil))) (nomark _)) (dss_one (ds_set 7 nd (de_tup (da_cons (dh_of (de_fz (de_call h_whole hr rfl (da_cons (dh_var 3) da_nil)))) (da_cons (dh_of (de_fz (de_call h_whole hr rfl (da_cons (dh_var 5) da_nil)))) da_nil))))) (dss_nil))) (dss_cons (ds_set 8 nd (de_call h_over hr rfl (da_cons (dh_of (de_fz (de_call h_minus hr rfl (da_cons (dh_var 1) (da_cons (dh_of (de_fz (de_call h_whole hr rfl (da_cons (dh_var 4) da_nil)))) da_nil))))) (da_cons (dh_of (de_fz (de_call h_whole hr rfl (da_cons (dh_of (de_op op_sub o2_sub (dh_var 6) (dh_var 4))) da_nil)))) da_nil)))) (dss_one (ds_if (dt_w (dw_and (dt_cmp op_ge o2_ge (dh_of (de_ix ix_seq o2_idx (dh_var 8) (dh_of (de_int)) (fun _ _ => rfl))) (dh_of (de_int)) (nomark _)) (dw_and1 (dt_not (dt_truth (dh_of (de_call h_is_less hr rfl (da_cons (dh_of (de_fz (de_tup (da_cons (dh_of (de_int)) (da_cons (dh_of (de_int)) da_nil))))) (da_cons (dh_var 8) da_nil))))))))) (dss_cons (ds_set 9 nd (de_call h_plus hr rfl (da_cons (dh_of (de_fz (de_call h_whole hr rfl (da_cons (dh_var 3) da_nil)))) (da_cons (dh_of (de_fz (de_call h_times hr rfl (da_cons (dh_var 8) (da_cons (dh_of (de_fz (de_call h_whole hr rfl (da_cons (dh_of (de_op op_sub o2_sub (dh_var 5) (dh_var 3))) da_nil)))) da_nil))))) da_nil)))) (dss_one (ds_set 7 nd (de_tup (da_cons (dh_of (de_var 9)) (da_cons (dh_of (de_var 9)) da_nil)))))) (dss_nil))))) (dss_one (ds_if (dt_cmp op_isNotA o2_isNot (dh_var 7) (dh_of (de_non)) (nomark _)) (dss_one (ds_if (dt_w (dw_and (dt_cmp op_gt o2_gt (dh_of (de_bi call_len on_len rfl T.len_ boot_len (da_cons (dh_var 2) da_nil))) (dh_of (de_int)) (nomark _)) (dw_and1 (dt_cmp (op_eqA (hu64 hr)) o2_eq (dh_of (de_ix ix_seq o2_idx (dh_of (de_ix ix_seq o2_idx (dh_var 2) (dh_of (de_un un_neg o1_neg (dh_of (de_int)))) (fun _ _ => rfl))) (dh_of (de_int)) (fun _ _ => rfl))) (dh_of (de_ix ix_seq o2_idx (dh_var 7) (dh_of (de_int)) (fun _ _ => rfl))) (nomark _))))) (dss_one (ds_asg (de_tup (da_cons (dh_of (de_ix ix_seq o2_idx (dh_of (de_ix ix_seq o2_idx (dh_var 2) (dh_of (de_un un_neg o1_neg (dh_of (de_int)))) (fun _ _ => rfl))) (dh_of (de_int)) (fun _ _ => rfl))) (da_cons (dh_of (de_ix ix_seq o2_idx (dh_var 7) (dh_of (de_int)) (fun _ _ => rfl))) da_nil))) (dg_ix 2 (dh_of (de_un un_neg o1_neg (dh_of (de_int))))))) (dss_one (ds_expr (de_mut 2 PySem.F.slot_list_append PySem.F.type_list_append mt_append mo_app (da_cons (dh_of (de_var 7)) da_nil)))))) (dss_nil)))))) (dss_one (ds_ret (de_mov 2))))
noncomputable def d_piece_between : Ev → Option Out := bCons (bIf (tB' (e2 gEq (hV 1) (hV 3))) (bCons (bAsg (eAn (eNo (eCall 2 F_is_less (aCons (hE (eFz (eCall 1 F_whole (aCons (hV 1) aNil)))) (aCons (hV 4) aNil)))) (eNo (eCall 2 F_is_less (aCons (hV 5) (aCons (hE (eFz (eCall 1 F_whole (aCons (hV 1) aNil)))) aNil))))) (gNm 6)) (bRet (eIf (tT (hV 6)) (eTup (aCons (hE (eFz (eCall 1 F_whole (aCons (hV 0) aNil)))) (aCons (hE (eFz (eCall 1 F_whole (aCons (hV 2) aNil)))) aNil))) (eC .non)))) (bNil)) (bCons (bAsg (eCall 2 F_over (aCons (hE (eFz (eCall 2 F_minus (aCons (hV 4) (aCons (hE (eFz (eCall 1 F_whole (aCons (hV 1) aNil)))) aNil))))) (aCons (hE (eFz (eCall 1 F_whole (aCons (hE (e2 gSubt (hV 3) (hV 1))) aNil)))) aNil))) (gNm 7)) (bCons (bAsg (eCall 2 F_over (aCons (hE (eFz (eCall 2 F_minus (aCons (hV 5) (aCons (hE (eFz (eCall 1 F_whole (aCons (hV 1) aNil)))) aNil))))) (aCons (hE (eFz (eCall 1 F_whole (aCons (hE (e2 gSubt (hV 3) (hV 1))) aNil)))) aNil))) (gNm 8)) (bCons (bIf (tT (hE (eCall 2 F_is_less (aCons (hV 8) (aCons (hV 7) aNil))))) (bPar 7 8 (aCons (hE (eV 8)) (aCons (hE (eV 7)) aNil))) (bNil)) (bCons (bAsg (eIf (tB' (e2 gGt (hE (e2 gIdx (hV 7) (hE (eC (.int 0))))) (hE (eC (.int 0))))) (eV 7) (eTup (aCons (hE (eC (.int 0))) (aCons (hE (eC (.int 1))) aNil)))) (gNm 7)) (bCons (bAsg (eIf (tT (hE (eCall 2 F_is_less (aCons (hV 8) (aCons (hE (eFz (eTup (aCons (hE (eC (.int 1))) (aCons (hE (eC (.int 1))) aNil))))) aNil))))) (eV 8) (eTup (aCons (hE (eC (.int 1))) (aCons (hE (eC (.int 1))) aNil)))) (gNm 8)) (bCons (bIf (tT (hE (eCall 2 F_is_less (aCons (hV 8) (aCons (hV 7) aNil))))) (bRet (eC .non)) (bNil)) (bCons (bAsg (eCall 1 F_whole (aCons (hE (e2 gSubt (hV 2) (hV 0))) aNil)) (gNm 9)) (bRet (eTup (aCons (hE (eFz (eCall 2 F_plus (aCons (hE (eFz (eCall 1 F_whole (aCons (hV 0) aNil)))) (aCons (hE (eFz (eCall 2 F_times (aCons (hV 7) (aCons (hV 9) aNil))))) aNil))))) (aCons (hE (eFz (eCall 2 F_plus (aCons (hE (eFz (eCall 1 F_whole (aCons (hV 0) aNil)))) (aCons (hE (eFz (eCall 2 F_times (aCons (hV 8) (aCons (hV 9) aNil))))) aNil))))) aNil)))))))))))
noncomputable def F_piece_between : List D → Option (D × List D) := fnD [true, true, true, true, true, true] 10 d_piece_between
theorem w_piece_between (T : Top K mg) (h_plus : FOk P w K mg base 2 "plus" ["one", "other"] F_plus) (h_minus : FOk P w K mg base 2 "minus" ["one", "other"] F_minus) (h_times : FOk P w K mg base 2 "times" ["one", "other"] F_times) (h_over : FOk P w K mg base 2 "over" ["one", "other"] F_over) (h_is_less : FOk P w K mg base 2 "is_less" ["one", "other"] F_is_less) (h_whole : FOk P w K mg base 2 "whole" ["number"] F_whole) : FOk P w K mg base 3 "piece_between" ["one", "low", "other", "high", "least", "most"] F_piece_between := by
  obtain ⟨f, fd, FF, fb, fm⟩ := T.f_piece_between
  have nd := sc_piece_between.nd
  exact def_ok FF sc_piece_between fb fm [0, 1, 2, 3, 4, 5] [true, true, true, true, true, true] 10 d_piece_between rfl rfl (by decide) (by decide) fun cdv A outer s H E hr => dss_cons (ds_if (dt_cmp (op_eqA (hu64 hr)) o2_eq (dh_var 1) (dh_var 3) (nomark _)) (dss_cons (ds_set 6 nd (de_and (de_not (de_call h_is_less hr rfl (da_cons (dh_of (de_fz (de_call h_whole hr rfl (da_cons (dh_var 1) da_nil)))) (da_cons (dh_var 4) da_nil)))) (de_one (de_not (de_call h_is_less hr rfl (da_cons (dh_var 5) (da_cons (dh_of (de_fz (de_call h_whole hr rfl (da_cons (dh_var 1) da_nil)))) da_nil))))))) (dss_one (ds_ret (de_if (dt_truth (dh_var 6)) (de_tup (da_cons (dh_of (de_fz (de_call h_whole hr rfl (da_cons (dh_var 0) da_nil)))) (da_cons (dh_of (de_fz (de_call h_whole hr rfl (da_cons (dh_var 2) da_nil)))) da_nil))) (de_non))))) (dss_nil)) (dss_cons (ds_set 7 nd (de_call h_over hr rfl (da_cons (dh_of (de_fz (de_call h_minus hr rfl (da_cons (dh_var 4) (da_cons (dh_of (de_fz (de_call h_whole hr rfl (da_cons (dh_var 1) da_nil)))) da_nil))))) (da_cons (dh_of (de_fz (de_call h_whole hr rfl (da_cons (dh_of (de_op op_sub o2_sub (dh_var 3) (dh_var 1))) da_nil)))) da_nil)))) (dss_cons (ds_set 8 nd (de_call h_over hr rfl (da_cons (dh_of (de_fz (de_call h_minus hr rfl (da_cons (dh_var 5) (da_cons (dh_of (de_fz (de_call h_whole hr rfl (da_cons (dh_var 1) da_nil)))) da_nil))))) (da_cons (dh_of (de_fz (de_call h_whole hr rfl (da_cons (dh_of (de_op op_sub o2_sub (dh_var 3) (dh_var 1))) da_nil)))) da_nil)))) (dss_cons (ds_if (dt_truth (dh_of (de_call h_is_less hr rfl (da_cons (dh_var 8) (da_cons (dh_var 7) da_nil))))) (dss_one (ds_par 7 8 rfl nd (da_cons (dh_of (de_var 8)) (da_cons (dh_of (de_var 7)) da_nil)))) (dss_nil)) (dss_cons (ds_set 7 nd (de_if (dt_cmp op_gt o2_gt (dh_of (de_ix ix_seq o2_idx (dh_var 7) (dh_of (de_int)) (fun _ _ => rfl))) (dh_of (de_int)) (nomark _)) (de_var 7) (de_tup (da_cons (dh_of (de_int)) (da_cons (dh_of (de_int)) da_nil))))) (dss_cons (ds_set 8 nd (de_if (dt_truth (dh_of (de_call h_is_less hr rfl (da_cons (dh_var 8) (da_cons (dh_of (de_fz (de_tup (da_cons (dh_of (de_int)) (da_cons (dh_of (de_int)) da_nil))))) da_nil))))) (de_var 8) (de_tup (da_cons (dh_of (de_int)) (da_cons (dh_of (de_int)) da_nil))))) (dss_cons (ds_if (dt_truth (dh_of (de_call h_is_less hr rfl (da_cons (dh_var 8) (da_cons (dh_var 7) da_nil))))) (dss_one (ds_ret (de_non))) (dss_nil)) (dss_cons (ds_set 9 nd (de_call h_whole hr rfl (da_cons (dh_of (de_op op_sub o2_sub (dh_var 2) (dh_var 0))) da_nil))) (dss_one (ds_ret (de_tup (da_cons (dh_of (de_fz (de_call h_plus hr rfl (da_cons (dh_of (de_fz (de_call h_whole hr rfl (da_cons (dh_var 0) da_nil)))) (da_cons (dh_of (de_fz (de_call h_times hr rfl (da_cons (dh_var 7) (da_cons (dh_var 9) da_nil))))) da_nil))))) (da_cons (dh_of (de_fz (de_call h_plus hr rfl (da_cons (dh_of (de_fz (de_call h_whole hr rfl (da_cons (dh_var 0) da_nil)))) (da_cons (dh_of (de_fz (de_call h_times hr rfl (da_cons (dh_var 8) (da_cons (dh_var 9) da_nil))))) da_nil))))) da_nil))))))))))))
noncomputable def d_length_of : Ev → Option Out := bCons (bAsg (eTup (aCons (hE (eC (.int 0))) (aCons (hE (eC (.int 1))) aNil))) (gNm 1)) (bCons (bFor (iSq (hV 0)) (gTp 2 (gsCons (gNm 2) (gsCons (gNm 3) gsNil))) (bAsg (eCall 2 F_plus (aCons (hV 1) (aCons (hE (eFz (eCall 2 F_minus (aCons (hV 3) (aCons (hV 2) aNil))))) aNil))) (gNm 1))) (bRet (eM 1)))
noncomputable def F_length_of : List D → Option (D × List D) := fnD [true] 4 d_length_of
theorem w_length_of (T : Top K mg) (h_plus : FOk P w K mg base 2 "plus" ["one", "other"] F_plus) (h_minus : FOk P w K mg base 2 "minus" ["one", "other"] F_minus) : FOk P w K mg base 3 "length_of" ["stretches"] F_length_of := by
  obtain ⟨f, fd, FF, fb, fm⟩ := T.f_length_of
  have nd := sc_length_of.nd
  exact def_ok FF sc_length_of fb fm [0] [true] 4 d_length_of rfl rfl (by decide) (by decide) fun cdv A outer s H E hr => dss_cons (ds_set 1 nd (de_tup (da_cons (dh_of (de_int)) (da_cons (dh_of (de_int)) da_nil)))) (dss_cons (ds_for [0] rfl (di_any (dh_var 0) (hsl_var (by decide))) (dg_tup rfl (dgs_cons (dg_name 2 nd) (dgs_cons (dg_name 3 nd) dgs_nil))) (dss_one (ds_set 1 nd (de_call h_plus hr rfl (da_cons (dh_var 1) (da_cons (dh_of (de_fz (de_call h_minus hr rfl (da_cons (dh_var 3) (da_cons (dh_var 2) da_nil))))) da_nil)))))) (dss_one (ds_ret (de_mov 1))))
noncomputable def d_law_curve : Ev → Option Out := bCons (bPar 1 2 (aCons (hE (eCall 2 F_law_pick (aCons (hV 0) (aCons (hE (eLst (aCons (hE (eC (.int 2))) (aCons (hE (eC (.int 4))) (aCons (hE (eC (.int 25))) aNil))))) aNil)))) (aCons (hE (eCall 2 F_law_pick (aCons (hV 0) (aCons (hE (eLst (aCons (hE (eC (.int 1))) (aCons (hE (eC (.int 3))) (aCons (hE (eC (.int 20))) aNil))))) aNil)))) aNil))) (bCons (bPar 3 4 (aCons (hE (eLst (aNil))) (aCons (hE (e2 gSubt (hE (eCall 2 F_law_draw (aCons (hV 0) (aCons (hE (eC (.int 200))) aNil)))) (hE (eC (.int 100))))) aNil))) (bCons (bFor (iRg1 (aCons (hE (e2 gAdd (hE (eC (.int 2))) (hE (eCall 2 F_law_draw (aCons (hV 0) (aCons (hE (eC (.int 6))) aNil)))))) aNil)) (gNm 5) (bCons (bAsg (eCall 2 F_law_draw (aCons (hV 0) (aCons (hV 1) aNil))) (gNm 6)) (bCons (bIf (tAn (tB' (e2 gNe (hV 3) (hE (eLst (aNil))))) (tB' (e2 gEq (hE (eCall 2 F_law_draw (aCons (hV 0) (aCons (hE (eC (.int 5))) aNil)))) (hE (eC (.int 0)))))) (bAsg (e2 gIdx (hE (e2 gIdx (hV 3) (hE (e1 gNeg (hE (eC (.int 1))))))) (hE (eC (.int 1)))) (gNm 6)) (bNil)) (bCons (bExp (eMut 3 gApp (aCons (hE (eFz (eTup (aCons (hE (eV 4)) (aCons (hE (eV 6)) aNil))))) aNil))) (bAsg (e2 gAdd (hE (e2 gAdd (hV 4) (hE (eC (.int 1))))) (hE (eCall 2 F_law_draw (aCons (hV 0) (aCons (hV 2) aNil))))) (gNm 4)))))) (bRet (eM 3))))
noncomputable def F_law_curve : List D → Option (D × List D) := fnD [true] 7 d_law_curve
theorem w_law_curve (T : Top K mg) (h_law_draw : FOk P w K mg base 2 "_law_draw" ["box", "many"] F_law_draw) (h_law_pick : FOk P w K mg base 2 "_law_pick" ["box", "lot"] F_law_pick) : FOk P w K mg base 3 "_law_curve" ["box"] F_law_curve := by
  obtain ⟨f, fd, FF, fb, fm⟩ := T.f_law_curve
  have nd := sc_law_curve.nd
  exact def_ok FF sc_law_curve fb fm [0] [true] 7 d_law_curve rfl rfl (by decide) (by decide) fun cdv A outer s H E hr => dss_cons (ds_par 1 2 rfl nd (da_cons (dh_of (de_call h_law_pick hr rfl (da_cons (dh_var 0) (da_cons (dh_of (de_lst (da_cons (dh_of (de_int)) (da_cons (dh_of (de_int)) (da_cons (dh_of (de_int)) da_nil))))) da_nil)))) (da_cons (dh_of (de_call h_law_pick hr rfl (da_cons (dh_var 0) (da_cons (dh_of (de_lst (da_cons (dh_of (de_int)) (da_cons (dh_of (de_int)) (da_cons (dh_of (de_int)) da_nil))))) da_nil)))) da_nil))) (dss_cons (ds_par 3 4 rfl nd (da_cons (dh_of (de_lst (da_nil))) (da_cons (dh_of (de_op op_sub o2_sub (dh_of (de_call h_law_draw hr rfl (da_cons (dh_var 0) (da_cons (dh_of (de_int)) da_nil)))) (dh_of (de_int)))) da_nil))) (dss_cons (ds_for [0] rfl (di_range1 rfl T.range_ (da_cons (dh_of (de_op op_addA o2_add (dh_of (de_int)) (dh_of (de_call h_law_draw hr rfl (da_cons (dh_var 0) (da_cons (dh_of (de_int)) da_nil)))))) da_nil)) (dg_name 5 nd) (dss_cons (ds_set 6 nd (de_call h_law_draw hr rfl (da_cons (dh_var 0) (da_cons (dh_var 1) da_nil)))) (dss_cons (ds_if (dt_w (dw_and (dt_cmp (op_neA (hu64 hr)) o2_ne (dh_var 3) (dh_of (de_lst (da_nil))) (nomark _)) (dw_and1 (dt_cmp (op_eqA (hu64 hr)) o2_eq (dh_of (de_call h_law_draw hr rfl (da_cons (dh_var 0) (da_cons (dh_of (de_int)) da_nil)))) (dh_of (de_int)) (nomark _))))) (dss_one (ds_set 6 nd (de_ix ix_seq o2_idx (dh_of (de_ix ix_seq o2_idx (dh_var 3) (dh_of (de_un un_neg o1_neg (dh_of (de_int)))) (fun _ _ => rfl))) (dh_of (de_int)) (fun _ _ => rfl)))) (dss_nil)) (dss_cons (ds_expr (de_mut 3 PySem.F.slot_list_append PySem.F.type_list_append mt_append mo_app (da_cons (dh_of (de_fz (de_tup (da_cons (dh_of (de_var 4)) (da_cons (dh_of (de_var 6)) da_nil))))) da_nil))) (dss_one (ds_set 4 nd (de_op op_addA o2_add (dh_of (de_op op_addA o2_add (dh_var 4) (dh_of (de_int)))) (dh_of (de_call h_law_draw hr rfl (da_cons (dh_var 0) (da_cons (dh_var 2) da_nil))))))))))) (dss_one (ds_ret (de_mov 3)))))
noncomputable def d_law_stretches : Ev → Option Out := bCons (bAsg (eLst (aNil)) (gNm 2)) (bCons (bFor (iSq (hV 1)) (gTp 2 (gsCons (gNm 3) (gsCons (gNm 4) gsNil))) (bAsg (e2 gAdd (hV 2) (hE (eLst (aCons (hE (eV 3)) (aCons (hE (eV 4)) aNil))))) (gNm 2))) (bCons (bAsg (eCall 2 F_law_cuts (aCons (hV 0) (aCons (hV 2) aNil))) (gNm 5)) (bCons (bPar 6 7 (aCons (hE (eLst (aNil))) (aCons (hE (eC .non)) aNil))) (bCons (bFor (iRg1 (aCons (hE (eN gLen (aCons (hV 5) aNil))) aNil)) (gNm 8) (bIf (tT (hE (eCall 2 F_law_in (aCons (hE (eFz (eCall 2 F_law_value (aCons (hV 0) (aCons (hE (e2 gIdx (hV 5) (hV 8))) aNil))))) (aCons (hV 1) aNil))))) (bCons (bIf (tB' (e2 (gIsB false) (hV 7) (hE (eC .non)))) (bAsg (e2 gIdx (hV 5) (hV 8)) (gNm 7)) (bNil)) (bCons (bAsg (eC (.bl false)) (gNm 9)) (bCons (bIf (tB' (e2 gLt (hE (e2 gAdd (hV 8) (hE (eC (.int 1))))) (hE (eN gLen (aCons (hV 5) aNil))))) (bCons (bAsg (eTup (aCons (hE (e2 gAdd (hE (e2 gMul (hE (e2 gIdx (hE (e2 gIdx (hV 5) (hV 8))) (hE (eC (.int 0))))) (hE (e2 gIdx (hE (e2 gIdx (hV 5) (hE (e2 gAdd (hV 8) (hE (eC (.int 1))))))) (hE (eC (.int 1))))))) (hE (e2 gMul (hE (e2 gIdx (hE (e2 gIdx (hV 5) (hE (e2 gAdd (hV 8) (hE (eC (.int 1))))))) (hE (eC (.int 0))))) (hE (e2 gIdx (hE (e2 gIdx (hV 5) (hV 8))) (hE (eC (.int 1))))))))) (aCons (hE (e2 gMul (hE (e2 gMul (hE (eC (.int 2))) (hE (e2 gIdx (hE (e2 gIdx (hV 5) (hV 8))) (hE (eC (.int 1))))))) (hE (e2 gIdx (hE (e2 gIdx (hV 5) (hE (e2 gAdd (hV 8) (hE (eC (.int 1))))))) (hE (eC (.int 1))))))) aNil))) (gNm 10)) (bAsg (eCall 2 F_law_in (aCons (hE (eFz (eCall 2 F_law_value (aCons (hV 0) (aCons (hV 10) aNil))))) (aCons (hV 1) aNil))) (gNm 9))) (bNil)) (bIf (tNo (tT (hV 9))) (bCons (bExp (eMut 6 gApp (aCons (hE (eFz (eTup (aCons (hE (eV 7)) (aCons (hE (e2 gIdx (hV 5) (hV 8))) aNil))))) aNil))) (bAsg (eC .non) (gNm 7))) (bNil))))) (bNil))) (bRet (eM 6))))))
noncomputable def F_law_stretches : List D → Option (D × List D) := fnD [true, true] 11 d_law_stretches
theorem w_law_stretches (T : Top K mg) (h_law_value : FOk P w K mg base 2 "_law_value" ["curve", "year"] F_law_value) (h_law_cuts : FOk P w K mg base 2 "_law_cuts" ["curve", "levels"] F_law_cuts) (h_law_in : FOk P w K mg base 2 "_law_in" ["value", "bounds"] F_law_in) : FOk P w K mg base 3 "_law_stretches" ["curve", "bounds"] F_law_stretches := by
  obtain ⟨f, fd, FF, fb, fm⟩ := T.f_law_stretches
  have nd := sc_law_stretches.nd
  exact def_ok FF sc_law_stretches fb fm [0, 1] [true, true] 11 d_law_stretches rfl rfl (by decide) (by decide) fun cdv A outer s H E hr => dss_cons (ds_set 2 nd (de_lst (da_nil))) (dss_cons (ds_for [0, 1] rfl (di_any (dh_var 1) (hsl_var (by decide))) (dg_tup rfl (dgs_cons (dg_name 3 nd) (dgs_cons (dg_name 4 nd) dgs_nil))) (dss_one (ds_set 2 nd (de_op op_addA o2_add (dh_var 2) (dh_of (de_lst (da_cons (dh_of (de_var 3)) (da_cons (dh_of (de_var 4)) da_nil)))))))) (dss_cons (ds_set 5 nd (de_call h_law_cuts hr rfl (da_cons (dh_var 0) (da_cons (dh_var 2) da_nil)))) (dss_cons (ds_par 6 7 rfl nd (da_cons (dh_of (de_lst (da_nil))) (da_cons (dh_of (de_non)) da_nil))) (dss_cons (ds_for [0, 1] rfl (di_range1 rfl T.range_ (da_cons (dh_of (de_bi call_len on_len rfl T.len_ boot_len (da_cons (dh_var 5) da_nil))) da_nil)) (dg_name 8 nd) (dss_one (ds_if (dt_truth (dh_of (de_call h_law_in hr rfl (da_cons (dh_of (de_fz (de_call h_law_value hr rfl (da_cons (dh_var 0) (da_cons (dh_of (de_ix ix_seq o2_idx (dh_var 5) (dh_var 8) (fun _ _ => rfl))) da_nil))))) (da_cons (dh_var 1) da_nil))))) (dss_cons (ds_if (dt_cmp op_isA o2_is (dh_var 7) (dh_of (de_non)) (nomark _)) (dss_one (ds_set 7 nd (de_ix ix_seq o2_idx (dh_var 5) (dh_var 8) (fun _ _ => rfl)))) (dss_nil)) (dss_cons (ds_set 9 nd (de_bl)) (dss_cons (ds_if (dt_cmp op_lt o2_lt (dh_of (de_op op_addA o2_add (dh_var 8) (dh_of (de_int)))) (dh_of (de_bi call_len on_len rfl T.len_ boot_len (da_cons (dh_var 5) da_nil))) (nomark _)) (dss_cons (ds_set 10 nd (de_tup (da_cons (dh_of (de_op op_addA o2_add (dh_of (de_op op_mulA o2_mul (dh_of (de_ix ix_seq o2_idx (dh_of (de_ix ix_seq o2_idx (dh_var 5) (dh_var 8) (fun _ _ => rfl))) (dh_of (de_int)) (fun _ _ => rfl))) (dh_of (de_ix ix_seq o2_idx (dh_of (de_ix ix_seq o2_idx (dh_var 5) (dh_of (de_op op_addA o2_add (dh_var 8) (dh_of (de_int)))) (fun _ _ => rfl))) (dh_of (de_int)) (fun _ _ => rfl))))) (dh_of (de_op op_mulA o2_mul (dh_of (de_ix ix_seq o2_idx (dh_of (de_ix ix_seq o2_idx (dh_var 5) (dh_of (de_op op_addA o2_add (dh_var 8) (dh_of (de_int)))) (fun _ _ => rfl))) (dh_of (de_int)) (fun _ _ => rfl))) (dh_of (de_ix ix_seq o2_idx (dh_of (de_ix ix_seq o2_idx (dh_var 5) (dh_var 8) (fun _ _ => rfl))) (dh_of (de_int)) (fun _ _ => rfl))))))) (da_cons (dh_of (de_op op_mulA o2_mul (dh_of (de_op op_mulA o2_mul (dh_of (de_int)) (dh_of (de_ix ix_seq o2_idx (dh_of (de_ix ix_seq o2_idx (dh_var 5) (dh_var 8) (fun _ _ => rfl))) (dh_of (de_int)) (fun _ _ => rfl))))) (dh_of (de_ix ix_seq o2_idx (dh_of (de_ix ix_seq o2_idx (dh_var 5) (dh_of (de_op op_addA o2_add (dh_var 8) (dh_of (de_int)))) (fun _ _ => rfl))) (dh_of (de_int)) (fun _ _ => rfl))))) da_nil)))) (dss_one (ds_set 9 nd (de_call h_law_in hr rfl (da_cons (dh_of (de_fz (de_call h_law_value hr rfl (da_cons (dh_var 0) (da_cons (dh_var 10) da_nil))))) (da_cons (dh_var 1) da_nil)))))) (dss_nil)) (dss_one (ds_if (dt_not (dt_truth (dh_var 9))) (dss_cons (ds_expr (de_mut 6 PySem.F.slot_list_append PySem.F.type_list_append mt_append mo_app (da_cons (dh_of (de_fz (de_tup (da_cons (dh_of (de_var 7)) (da_cons (dh_of (de_ix ix_seq o2_idx (dh_var 5) (dh_var 8) (fun _ _ => rfl))) da_nil))))) da_nil))) (dss_one (ds_set 7 nd (de_non)))) (dss_nil)))))) (dss_nil)))) (dss_one (ds_ret (de_mov 6)))))))
noncomputable def d_law_drawn : Ev → Option Out := bCons (bAsg (eTup (aCons (hE (e2 gSubt (hE (eCall 2 F_law_draw (aCons (hV 0) (aCons (hE (eC (.int 9))) aNil)))) (hE (eC (.int 4))))) (aCons (hE (eLst (aNil))) aNil))) (gTp 2 (gsCons (gNm 2) (gsCons (gNm 3) gsNil)))) (bCons (bFor (iRg1 (aCons (hE (eCall 2 F_law_draw (aCons (hV 0) (aCons (hE (eC (.int 6))) aNil)))) aNil)) (gNm 4) (bCons (bAsg (e2 gAdd (hV 2) (hE (eCall 2 F_law_pick (aCons (hV 0) (aCons (hE (eFz (eLst (aCons (hE (eC (.int 0))) (aCons (hE (eC (.int 1))) (aCons (hE (eC (.int 2))) (aCons (hE (eC (.int 5))) (aCons (hE (eC (.int 9))) aNil)))))))) aNil))))) (gNm 5)) (bCons (bIf (tAn (tB' (e2 gEq (hE (eCall 2 F_law_draw (aCons (hV 0) (aCons (hE (eC (.int 2))) aNil)))) (hE (eC (.int 0))))) (tB' (e2 gNe (hE (eLc [6] (iSq (hV 1)) (gNm 6) (tB' (e2 gGe (hV 6) (hV 2))) (eV 6))) (hE (eLst (aNil)))))) (bAsg (eN gMinL (aCons (hE (eLc [6] (iSq (hV 1)) (gNm 6) (tB' (e2 gGe (hV 6) (hV 2))) (eV 6))) aNil)) (gNm 5)) (bNil)) (bCons (bExp (eMut 3 gApp (aCons (hE (eFz (eTup (aCons (hE (eV 2)) (aCons (hE (eV 5)) aNil))))) aNil))) (bCons (bAsg (e2 gAdd (hE (e2 gAdd (hV 5) (hE (eC (.int 1))))) (hE (eCall 2 F_law_pick (aCons (hV 0) (aCons (hE (eFz (eLst (aCons (hE (eC (.int 0))) (aCons (hE (eC (.int 0))) (aCons (hE (eC (.int 1))) (aCons (hE (eC (.int 4))) aNil))))))) aNil))))) (gNm 2)) (bIf (tAn (tB' (e2 gEq (hE (eCall 2 F_law_draw (aCons (hV 0) (aCons (hE (eC (.int 3))) aNil)))) (hE (eC (.int 0))))) (tB' (e2 gNe (hE (eLc [6] (iSq (hV 1)) (gNm 6) (tB' (e2 gGt (hV 6) (hV 5))) (eV 6))) (hE (eLst (aNil)))))) (bAsg (eN gMinL (aCons (hE (eLc [6] (iSq (hV 1)) (gNm 6) (tB' (e2 gGt (hV 6) (hV 5))) (eV 6))) aNil)) (gNm 2)) (bNil))))))) (bRet (eM 3)))
noncomputable def F_law_drawn : List D → Option (D × List D) := fnD [true, true] 7 d_law_drawn
theorem w_law_drawn (T : Top K mg) (h_law_draw : FOk P w K mg base 2 "_law_draw" ["box", "many"] F_law_draw) (h_law_pick : FOk P w K mg base 2 "_law_pick" ["box", "lot"] F_law_pick) : FOk P w K mg base 3 "_law_drawn" ["box", "ends"] F_law_drawn := by
  obtain ⟨f, fd, FF, fb, fm⟩ := T.f_law_drawn
  have nd := sc_law_drawn.nd
  exact def_ok FF sc_law_drawn fb fm [0, 1] [true, true] 7 d_law_drawn rfl rfl (by decide) (by decide) fun cdv A outer s H E hr => dss_cons (ds_asg (de_tup (da_cons (dh_of (de_op op_sub o2_sub (dh_of (de_call h_law_draw hr rfl (da_cons (dh_var 0) (da_cons (dh_of (de_int)) da_nil)))) (dh_of (de_int)))) (da_cons (dh_of (de_lst (da_nil))) da_nil))) (dg_tup rfl (dgs_cons (dg_name 2 nd) (dgs_cons (dg_name 3 nd) dgs_nil)))) (dss_cons (ds_for [0, 1] rfl (di_range1 rfl T.range_ (da_cons (dh_of (de_call h_law_draw hr rfl (da_cons (dh_var 0) (da_cons (dh_of (de_int)) da_nil)))) da_nil)) (dg_name 4 nd) (dss_cons (ds_set 5 nd (de_op op_addA o2_add (dh_var 2) (dh_of (de_call h_law_pick hr rfl (da_cons (dh_var 0) (da_cons (dh_of (de_fz (de_lst (da_cons (dh_of (de_int)) (da_cons (dh_of (de_int)) (da_cons (dh_of (de_int)) (da_cons (dh_of (de_int)) (da_cons (dh_of (de_int)) da_nil)))))))) da_nil)))))) (dss_cons (ds_if (dt_w (dw_and (dt_cmp (op_eqA (hu64 hr)) o2_eq (dh_of (de_call h_law_draw hr rfl (da_cons (dh_var 0) (da_cons (dh_of (de_int)) da_nil)))) (dh_of (de_int)) (nomark _)) (dw_and1 (dt_cmp (op_neA (hu64 hr)) o2_ne (dh_of (de_lc (own := [("far", 6)]) [0, 1, 2, 3, 4, 5, 6] [0, 1, 2, 3, 4, 5] 7 rfl nd rfl (di_any (dh_var 1) (hsl_var (by decide))) (blk_ok (by kernel_rfl)) (fun _ _ _ _ _ => dg_name 6 nd) (fun _ _ _ _ _ => dts_one (dt_cmp op_ge o2_ge (dh_var 6) (dh_var 2) (nomark _))) (fun _ _ _ _ _ => de_var 6))) (dh_of (de_lst (da_nil))) (nomark _))))) (dss_one (ds_set 5 nd (de_bi (cr_min rfl) on_minL rfl T.min_ boot_min (da_cons (dh_of (de_lc (own := [("far", 6)]) [0, 1, 2, 3, 4, 5, 6] [0, 1, 2, 3, 4, 5] 7 rfl nd rfl (di_any (dh_var 1) (hsl_var (by decide))) (blk_ok (by kernel_rfl)) (fun _ _ _ _ _ => dg_name 6 nd) (fun _ _ _ _ _ => dts_one (dt_cmp op_ge o2_ge (dh_var 6) (dh_var 2) (nomark _))) (fun _ _ _ _ _ => de_var 6))) da_nil)))) (dss_nil)) (dss_cons (ds_expr (de_mut 3 PySem.F.slot_list_append PySem.F.type_list_append mt_append mo_app (da_cons (dh_of (de_fz (de_tup (da_cons (dh_of (de_var 2)) (da_cons (dh_of (de_var 5)) da_nil))))) da_nil))) (dss_cons (ds_set 2 nd (de_op op_addA o2_add (dh_of (de_op op_addA o2_add (dh_var 5) (dh_of (de_int)))) (dh_of (de_call h_law_pick hr rfl (da_cons (dh_var 0) (da_cons (dh_of (de_fz (de_lst (da_cons (dh_of (de_int)) (da_cons (dh_of (de_int)) (da_cons (dh_of (de_int)) (da_cons (dh_of (de_int)) da_nil))))))) da_nil)))))) (dss_one (ds_if (dt_w (dw_and (dt_cmp (op_eqA (hu64 hr)) o2_eq (dh_of (de_call h_law_draw hr rfl (da_cons (dh_var 0) (da_cons (dh_of (de_int)) da_nil)))) (dh_of (de_int)) (nomark _)) (dw_and1 (dt_cmp (op_neA (hu64 hr)) o2_ne (dh_of (de_lc (own := [("far", 6)]) [0, 1, 2, 3, 4, 5, 6] [0, 1, 2, 3, 4, 5] 7 rfl nd rfl (di_any (dh_var 1) (hsl_var (by decide))) (blk_ok (by kernel_rfl)) (fun _ _ _ _ _ => dg_name 6 nd) (fun _ _ _ _ _ => dts_one (dt_cmp op_gt o2_gt (dh_var 6) (dh_var 5) (nomark _))) (fun _ _ _ _ _ => de_var 6))) (dh_of (de_lst (da_nil))) (nomark _))))) (dss_one (ds_set 2 nd (de_bi (cr_min rfl) on_minL rfl T.min_ boot_min (da_cons (dh_of (de_lc (own := [("far", 6)]) [0, 1, 2, 3, 4, 5, 6] [0, 1, 2, 3, 4, 5] 7 rfl nd rfl (di_any (dh_var 1) (hsl_var (by decide))) (blk_ok (by kernel_rfl)) (fun _ _ _ _ _ => dg_name 6 nd) (fun _ _ _ _ _ => dts_one (dt_cmp op_gt o2_gt (dh_var 6) (dh_var 5) (nomark _))) (fun _ _ _ _ _ => de_var 6))) da_nil)))) (dss_nil)))))))) (dss_one (ds_ret (de_mov 3))))
noncomputable def d_years_between : Ev → Option Out := bCons (bAsg (eLst (aNil)) (gNm 3)) (bCons (bFor (iZp (aCons (hV 0) (aCons (hE (eSl (hV 0) (pS (hE (eC (.int 1)))) (pN))) aNil))) (gTp 2 (gsCons (gTp 2 (gsCons (gNm 4) (gsCons (gNm 5) gsNil))) (gsCons (gTp 2 (gsCons (gNm 6) (gsCons (gNm 7) gsNil))) gsNil))) (bCons (bAsg (eCall 6 F_piece_between (aCons (hV 4) (aCons (hV 5) (aCons (hV 6) (aCons (hV 7) (aCons (hV 1) (aCons (hV 2) aNil))))))) (gNm 8)) (bIf (tB' (e2 (gIsB true) (hV 8) (hE (eC .non)))) (bIf (tAn (tB' (e2 gGt (hE (eN gLen (aCons (hV 3) aNil))) (hE (eC (.int 0))))) (tB' (e2 gEq (hE (e2 gIdx (hE (e2 gIdx (hV 3) (hE (e1 gNeg (hE (eC (.int 1))))))) (hE (eC (.int 1))))) (hE (e2 gIdx (hV 8) (hE (eC (.int 0)))))))) (bAsg (eTup (aCons (hE (e2 gIdx (hE (e2 gIdx (hV 3) (hE (e1 gNeg (hE (eC (.int 1))))))) (hE (eC (.int 0))))) (aCons (hE (e2 gIdx (hV 8) (hE (eC (.int 1))))) aNil))) (gIx 3 (hE (e1 gNeg (hE (eC (.int 1))))))) (bExp (eMut 3 gApp (aCons (hE (eV 8)) aNil)))) (bNil)))) (bRet (eM 3)))
noncomputable def F_years_between : List D → Option (D × List D) := fnD [true, true, true] 9 d_years_between
theorem w_years_between (T : Top K mg) (h_piece_between : FOk P w K mg base 3 "piece_between" ["one", "low", "other", "high", "least", "most"] F_piece_between) : FOk P w K mg base 4 "years_between" ["curve", "least", "most"] F_years_between := by
  obtain ⟨f, fd, FF, fb, fm⟩ := T.f_years_between
  have nd := sc_years_between.nd
  exact def_ok FF sc_years_between fb fm [0, 1, 2] [true, true, true] 9 d_years_between rfl rfl (by decide) (by decide) fun cdv A outer s H E hr => dss_cons (ds_set 3 nd (de_lst (da_nil))) (dss_cons (ds_for [0, 1, 2] rfl (di_zip rfl T.zip_ (da_cons (dh_var 0) (da_cons (dh_of (de_sl (dh_var 0) (dp_some (dh_of (de_int))) (dp_none))) da_nil)) (hsls_var (by decide) (hsls_of (hsls_nil)))) (dg_tup rfl (dgs_cons (dg_tup rfl (dgs_cons (dg_name 4 nd) (dgs_cons (dg_name 5 nd) dgs_nil))) (dgs_cons (dg_tup rfl (dgs_cons (dg_name 6 nd) (dgs_cons (dg_name 7 nd) dgs_nil))) dgs_nil))) (dss_cons (ds_set 8 nd (de_call h_piece_between hr rfl (da_cons (dh_var 4) (da_cons (dh_var 5) (da_cons (dh_var 6) (da_cons (dh_var 7) (da_cons (dh_var 1) (da_cons (dh_var 2) da_nil)))))))) (dss_one (ds_if (dt_cmp op_isNotA o2_isNot (dh_var 8) (dh_of (de_non)) (nomark _)) (dss_one (ds_if (dt_w (dw_and (dt_cmp op_gt o2_gt (dh_of (de_bi call_len on_len rfl T.len_ boot_len (da_cons (dh_var 3) da_nil))) (dh_of (de_int)) (nomark _)) (dw_and1 (dt_cmp (op_eqA (hu64 hr)) o2_eq (dh_of (de_ix ix_seq o2_idx (dh_of (de_ix ix_seq o2_idx (dh_var 3) (dh_of (de_un un_neg o1_neg (dh_of (de_int)))) (fun _ _ => rfl))) (dh_of (de_int)) (fun _ _ => rfl))) (dh_of (de_ix ix_seq o2_idx (dh_var 8) (dh_of (de_int)) (fun _ _ => rfl))) (nomark _))))) (dss_one (ds_asg (de_tup (da_cons (dh_of (de_ix ix_seq o2_idx (dh_of (de_ix ix_seq o2_idx (dh_var 3) (dh_of (de_un un_neg o1_neg (dh_of (de_int)))) (fun _ _ => rfl))) (dh_of (de_int)) (fun _ _ => rfl))) (da_cons (dh_of (de_ix ix_seq o2_idx (dh_var 8) (dh_of (de_int)) (fun _ _ => rfl))) da_nil))) (dg_ix 3 (dh_of (de_un un_neg o1_neg (dh_of (de_int))))))) (dss_one (ds_expr (de_mut 3 PySem.F.slot_list_append PySem.F.type_list_append mt_append mo_app (da_cons (dh_of (de_var 8)) da_nil)))))) (dss_nil))))) (dss_one (ds_ret (de_mov 3))))
noncomputable def d_worst_value : Ev → Option Out := bCons (bAsg (eLc [2, 3] (iSq (hV 0)) (gTp 2 (gsCons (gNm 2) (gsCons (gNm 3) gsNil))) (tAll) (eV 3)) (gNm 1)) (bCons (bAsg (eC .non) (gNm 4)) (bCons (bFor (iRg2 (aCons (hE (eN gMinL (aCons (hV 1) aNil))) (aCons (hE (e2 gAdd (hE (eN gMaxL (aCons (hV 1) aNil))) (hE (eC (.int 1))))) aNil))) (gNm 3) (bCons (bAsg (eN gLen (aCons (hE (eCall 2 F_years_of (aCons (hV 0) (aCons (hE (eFz (eCall 1 F_whole (aCons (hV 3) aNil)))) aNil)))) aNil)) (gNm 5)) (bIf (tOr' (tB' (e2 (gIsB false) (hV 4) (hE (eC .non)))) (tB' (e2 gGt (hV 5) (hE (e2 gIdx (hV 4) (hE (eC (.int 0)))))))) (bAsg (eTup (aCons (hE (eV 5)) (aCons (hE (eV 3)) aNil))) (gNm 4)) (bNil)))) (bRet (e2 gIdx (hV 4) (hE (eC (.int 1)))))))
noncomputable def F_worst_value : List D → Option (D × List D) := fnD [true] 6 d_worst_value
theorem w_worst_value (T : Top K mg) (h_whole : FOk P w K mg base 3 "whole" ["number"] F_whole) (h_years_of : FOk P w K mg base 3 "years_of" ["curve", "value"] F_years_of) : FOk P w K mg base 4 "worst_value" ["curve"] F_worst_value := by
  obtain ⟨f, fd, FF, fb, fm⟩ := T.f_worst_value
  have nd := sc_worst_value.nd
  exact def_ok FF sc_worst_value fb fm [0] [true] 6 d_worst_value rfl rfl (by decide) (by decide) fun cdv A outer s H E hr => dss_cons (ds_setLc 1 (own := [("year", 2), ("value", 3)]) [0, 1, 2, 3, 4, 5] [0, 1, 4, 5] 6 rfl nd rfl (di_any (dh_var 0) (hsl_var (by decide))) (blk_ok (by kernel_rfl)) (fun _ _ _ _ _ => dg_tup rfl (dgs_cons (dg_name 2 nd) (dgs_cons (dg_name 3 nd) dgs_nil))) (fun _ _ _ _ _ => dts_nil) (fun _ _ _ _ _ => de_var 3)) (dss_cons (ds_set 4 nd (de_non)) (dss_cons (ds_for [0] rfl (di_range2 rfl T.range_ (da_cons (dh_of (de_bi (cr_min rfl) on_minL rfl T.min_ boot_min (da_cons (dh_var 1) da_nil))) (da_cons (dh_of (de_op op_addA o2_add (dh_of (de_bi (cr_max rfl) on_maxL rfl T.max_ boot_max (da_cons (dh_var 1) da_nil))) (dh_of (de_int)))) da_nil))) (dg_name 3 nd) (dss_cons (ds_set 5 nd (de_bi call_len on_len rfl T.len_ boot_len (da_cons (dh_of (de_call h_years_of hr rfl (da_cons (dh_var 0) (da_cons (dh_of (de_fz (de_call h_whole hr rfl (da_cons (dh_var 3) da_nil)))) da_nil)))) da_nil))) (dss_one (ds_if (dt_w (dw_or (dt_cmp op_isA o2_is (dh_var 4) (dh_of (de_non)) (nomark _)) (dw_or1 (dt_cmp op_gt o2_gt (dh_var 5) (dh_of (de_ix ix_seq o2_idx (dh_var 4) (dh_of (de_int)) (fun _ _ => rfl))) (nomark _))))) (dss_one (ds_set 4 nd (de_tup (da_cons (dh_of (de_var 5)) (da_cons (dh_of (de_var 3)) da_nil))))) (dss_nil))))) (dss_one (ds_ret (de_ix ix_seq o2_idx (dh_var 4) (dh_of (de_int)) (fun _ _ => rfl))))))
noncomputable def d_middle_year : Ev → Option Out := bCons (bAsg (eCall 2 F_times (aCons (hE (eFz (eCall 1 F_length_of (aCons (hV 0) aNil)))) (aCons (hE (eFz (eCall 2 F_fraction (aCons (hE (eC (.int 1))) (aCons (hE (eC (.int 2))) aNil))))) aNil))) (gNm 1)) (bCons (bFor (iSq (hV 0)) (gTp 2 (gsCons (gNm 2) (gsCons (gNm 3) gsNil))) (bCons (bAsg (eCall 2 F_minus (aCons (hV 3) (aCons (hV 2) aNil))) (gNm 4)) (bCons (bIf (tNo (tT (hE (eCall 2 F_is_less (aCons (hV 4) (aCons (hV 1) aNil)))))) (bRet (eCall 2 F_plus (aCons (hV 2) (aCons (hV 1) aNil)))) (bNil)) (bAsg (eCall 2 F_minus (aCons (hV 1) (aCons (hV 4) aNil))) (gNm 1))))) (bRet (e2 gIdx (hE (e2 gIdx (hV 0) (hE (e1 gNeg (hE (eC (.int 1))))))) (hE (eC (.int 1))))))
noncomputable def F_middle_year : List D → Option (D × List D) := fnD [true] 5 d_middle_year
theorem w_middle_year (T : Top K mg) (h_fraction : FOk P w K mg base 3 "fraction" ["top", "bottom"] F_fraction) (h_plus : FOk P w K mg base 3 "plus" ["one", "other"] F_plus) (h_minus : FOk P w K mg base 3 "minus" ["one", "other"] F_minus) (h_times : FOk P w K mg base 3 "times" ["one", "other"] F_times) (h_is_less : FOk P w K mg base 3 "is_less" ["one", "other"] F_is_less) (h_length_of : FOk P w K mg base 3 "length_of" ["stretches"] F_length_of) : FOk P w K mg base 4 "middle_year" ["stretches"] F_middle_year := by
  obtain ⟨f, fd, FF, fb, fm⟩ := T.f_middle_year
  have nd := sc_middle_year.nd
  exact def_ok FF sc_middle_year fb fm [0] [true] 5 d_middle_year rfl rfl (by decide) (by decide) fun cdv A outer s H E hr => dss_cons (ds_set 1 nd (de_call h_times hr rfl (da_cons (dh_of (de_fz (de_call h_length_of hr rfl (da_cons (dh_var 0) da_nil)))) (da_cons (dh_of (de_fz (de_call h_fraction hr rfl (da_cons (dh_of (de_int)) (da_cons (dh_of (de_int)) da_nil))))) da_nil)))) (dss_cons (ds_for [0] rfl (di_any (dh_var 0) (hsl_var (by decide))) (dg_tup rfl (dgs_cons (dg_name 2 nd) (dgs_cons (dg_name 3 nd) dgs_nil))) (dss_cons (ds_set 4 nd (de_call h_minus hr rfl (da_cons (dh_var 3) (da_cons (dh_var 2) da_nil)))) (dss_cons (ds_if (dt_not (dt_truth (dh_of (de_call h_is_less hr rfl (da_cons (dh_var 4) (da_cons (dh_var 1) da_nil)))))) (dss_one (ds_ret (de_call h_plus hr rfl (da_cons (dh_var 2) (da_cons (dh_var 1) da_nil))))) (dss_nil)) (dss_one (ds_set 1 nd (de_call h_minus hr rfl (da_cons (dh_var 1) (da_cons (dh_var 4) da_nil)))))))) (dss_one (ds_ret (de_ix ix_seq o2_idx (dh_of (de_ix ix_seq o2_idx (dh_var 0) (dh_of (de_un un_neg o1_neg (dh_of (de_int)))) (fun _ _ => rfl))) (dh_of (de_int)) (fun _ _ => rfl)))))
noncomputable def d_dated : Ev → Option Out := bCons (bAsg (eLst (aCons (hE (eFz (eTup (aCons (hE (eFz (eCall 1 F_whole (aCons (hE (e2 gIdx (hE (e2 gIdx (hV 0) (hE (eC (.int 0))))) (hE (eC (.int 0))))) aNil)))) (aCons (hE (eFz (eCall 1 F_whole (aCons (hE (e2 gIdx (hE (e2 gIdx (hV 0) (hE (e1 gNeg (hE (eC (.int 1))))))) (hE (eC (.int 0))))) aNil)))) aNil))))) aNil)) (gNm 2)) (bCons (bFor (iSq (hV 1)) (gTp 2 (gsCons (gNm 3) (gsCons (gNm 4) gsNil))) (bAsg (eCall 2 F_both (aCons (hV 2) (aCons (hE (eFz (eCall 3 F_years_between (aCons (hV 0) (aCons (hE (eFz (eCall 1 F_whole (aCons (hE (e2 gSubt (hV 3) (hV 4))) aNil)))) (aCons (hE (eFz (eCall 1 F_whole (aCons (hE (e2 gAdd (hV 3) (hV 4))) aNil)))) aNil)))))) aNil))) (gNm 2))) (bRet (eM 2)))
noncomputable def F_dated : List D → Option (D × List D) := fnD [true, true] 5 d_dated
theorem w_dated (T : Top K mg) (h_whole : FOk P w K mg base 4 "whole" ["number"] F_whole) (h_years_between : FOk P w K mg base 4 "years_between" ["curve", "least", "most"] F_years_between) (h_both : FOk P w K mg base 4 "both" ["one", "other"] F_both) : FOk P w K mg base 5 "dated" ["curve", "samples"] F_dated := by
  obtain ⟨f, fd, FF, fb, fm⟩ := T.f_dated
  have nd := sc_dated.nd
  exact def_ok FF sc_dated fb fm [0, 1] [true, true] 5 d_dated rfl rfl (by decide) (by decide) fun cdv A outer s H E hr => dss_cons (ds_set 2 nd (de_lst (da_cons (dh_of (de_fz (de_tup (da_cons (dh_of (de_fz (de_call h_whole hr rfl (da_cons (dh_of (de_ix ix_seq o2_idx (dh_of (de_ix ix_seq o2_idx (dh_var 0) (dh_of (de_int)) (fun _ _ => rfl))) (dh_of (de_int)) (fun _ _ => rfl))) da_nil)))) (da_cons (dh_of (de_fz (de_call h_whole hr rfl (da_cons (dh_of (de_ix ix_seq o2_idx (dh_of (de_ix ix_seq o2_idx (dh_var 0) (dh_of (de_un un_neg o1_neg (dh_of (de_int)))) (fun _ _ => rfl))) (dh_of (de_int)) (fun _ _ => rfl))) da_nil)))) da_nil))))) da_nil))) (dss_cons (ds_for [0, 1] rfl (di_any (dh_var 1) (hsl_var (by decide))) (dg_tup rfl (dgs_cons (dg_name 3 nd) (dgs_cons (dg_name 4 nd) dgs_nil))) (dss_one (ds_set 2 nd (de_call h_both hr rfl (da_cons (dh_var 2) (da_cons (dh_of (de_fz (de_call h_years_between hr rfl (da_cons (dh_var 0) (da_cons (dh_of (de_fz (de_call h_whole hr rfl (da_cons (dh_of (de_op op_sub o2_sub (dh_var 3) (dh_var 4))) da_nil)))) (da_cons (dh_of (de_fz (de_call h_whole hr rfl (da_cons (dh_of (de_op op_addA o2_add (dh_var 3) (dh_var 4))) da_nil)))) da_nil)))))) da_nil)))))) (dss_one (ds_ret (de_mov 2))))
noncomputable def d_law_same (F0 : List D → Option (D × List D)) : Ev → Option Out := bCons (bIf (tB' (e2 (gIsB false) (hV 1) (hE (eC .non)))) (bRet (e2 (gIsB false) (hV 0) (hE (eC .non)))) (bNil)) (bCons (bIf (tB' (e2 (gIsB false) (hV 1) (hE (eC (.bl true))))) (bRet (e2 (gIsB false) (hV 0) (hE (eC (.bl true))))) (bNil)) (bCons (bIf (tB' (e2 (gIsB false) (hV 1) (hE (eC (.bl false))))) (bRet (e2 (gIsB false) (hV 0) (hE (eC (.bl false))))) (bNil)) (bCons (bIf (tT (hE (eN gIsi (aCons (hV 1) (aCons (hE (eC (.ty "str"))) aNil))))) (bRet (eAn (eN gIsi (aCons (hV 0) (aCons (hE (eC (.ty "str"))) aNil))) (e2 gEq (hE (eN gRepr (aCons (hV 0) aNil))) (hE (eN gRepr (aCons (hV 1) aNil)))))) (bNil)) (bCons (bIf (tT (hE (eN gIsi (aCons (hV 1) (aCons (hE (eC (.ty "int"))) aNil))))) (bRet (eAn (eN gIsi (aCons (hV 0) (aCons (hE (eC (.ty "int"))) aNil))) (eAn (eNo (eN gIsi (aCons (hV 0) (aCons (hE (eC (.ty "bool"))) aNil)))) (e2 gEq (hE (eN gRepr (aCons (hV 0) aNil))) (hE (eN gRepr (aCons (hV 1) aNil))))))) (bNil)) (bCons (bIf (tOr' (tAn (tT (hE (eN gIsi (aCons (hV 1) (aCons (hE (eC (.ty "tuple"))) aNil))))) (tNo (tT (hE (eN gIsi (aCons (hV 0) (aCons (hE (eC (.ty "tuple"))) aNil))))))) (tAn (tT (hE (eN gIsi (aCons (hV 1) (aCons (hE (eC (.ty "list"))) aNil))))) (tNo (tT (hE (eN gIsi (aCons (hV 0) (aCons (hE (eC (.ty "list"))) aNil)))))))) (bRet (eC (.bl false))) (bNil)) (bCons (bIf (tB' (e2 gNe (hE (eN gLen (aCons (hV 0) aNil))) (hE (eN gLen (aCons (hV 1) aNil))))) (bRet (eC (.bl false))) (bNil)) (bCons (bFor (iRg1 (aCons (hE (eN gLen (aCons (hV 1) aNil))) aNil)) (gNm 2) (bIf (tNo (tT (hE (eCall 2 F0 (aCons (hE (e2 gIdx (hV 0) (hV 2))) (aCons (hE (e2 gIdx (hV 1) (hV 2))) aNil)))))) (bRet (eC (.bl false))) (bNil))) (bRet (eC (.bl true))))))))))
noncomputable def S_law_same (F0 : List D → Option (D × List D)) : List D → Option (D × List D) := fnD [true, true] 3 (d_law_same F0)
noncomputable def R_law_same : Nat → List D → Option (D × List D)
  | 0 => fun _ => none
  | n + 1 => S_law_same (R_law_same n)
noncomputable def F_law_same : List D → Option (D × List D) := R_law_same 8
theorem v_law_same {F0 : List D → Option (D × List D)} {k : Nat} (T : Top K mg) (h0 : FOk P w K mg base k "_law_same" ["told", "due"] F0) : FOk P w K mg base (k + 1) "_law_same" ["told", "due"] (S_law_same F0) := by
  obtain ⟨f, fd, FF, fb, fm⟩ := T.f_law_same
  have nd := sc_law_same.nd
  exact def_ok FF sc_law_same fb fm [0, 1] [true, true] 3 (d_law_same F0) rfl rfl (by decide) (by decide) fun cdv A outer s H E hr => dss_cons (ds_if (dt_cmp op_isA o2_is (dh_var 1) (dh_of (de_non)) (nomark _)) (dss_one (ds_ret (de_cmp op_isA o2_is (dh_var 0) (dh_of (de_non)) (nomark _)))) (dss_nil)) (dss_cons (ds_if (dt_cmp op_isA o2_is (dh_var 1) (dh_of (de_bl)) (nomark _)) (dss_one (ds_ret (de_cmp op_isA o2_is (dh_var 0) (dh_of (de_bl)) (nomark _)))) (dss_nil)) (dss_cons (ds_if (dt_cmp op_isA o2_is (dh_var 1) (dh_of (de_bl)) (nomark _)) (dss_one (ds_ret (de_cmp op_isA o2_is (dh_var 0) (dh_of (de_bl)) (nomark _)))) (dss_nil)) (dss_cons (ds_if (dt_truth (dh_of (de_bi call_isi on_isi rfl T.isinstance_ boot_isinstance (da_cons (dh_var 1) (da_cons (dh_of (de_tyn rfl T.str_ boot_str)) da_nil))))) (dss_one (ds_ret (de_and (de_bi call_isi on_isi rfl T.isinstance_ boot_isinstance (da_cons (dh_var 0) (da_cons (dh_of (de_tyn rfl T.str_ boot_str)) da_nil))) (de_one (de_cmp (op_eqA (hu64 hr)) o2_eq (dh_of (de_bi call_repr on_repr rfl T.repr_ boot_repr (da_cons (dh_var 0) da_nil))) (dh_of (de_bi call_repr on_repr rfl T.repr_ boot_repr (da_cons (dh_var 1) da_nil))) (nomark _)))))) (dss_nil)) (dss_cons (ds_if (dt_truth (dh_of (de_bi call_isi on_isi rfl T.isinstance_ boot_isinstance (da_cons (dh_var 1) (da_cons (dh_of (de_tyn rfl T.int_ boot_int)) da_nil))))) (dss_one (ds_ret (de_and (de_bi call_isi on_isi rfl T.isinstance_ boot_isinstance (da_cons (dh_var 0) (da_cons (dh_of (de_tyn rfl T.int_ boot_int)) da_nil))) (de_and (de_not (de_bi call_isi on_isi rfl T.isinstance_ boot_isinstance (da_cons (dh_var 0) (da_cons (dh_of (de_tyn rfl T.bool_ boot_bool)) da_nil)))) (de_one (de_cmp (op_eqA (hu64 hr)) o2_eq (dh_of (de_bi call_repr on_repr rfl T.repr_ boot_repr (da_cons (dh_var 0) da_nil))) (dh_of (de_bi call_repr on_repr rfl T.repr_ boot_repr (da_cons (dh_var 1) da_nil))) (nomark _))))))) (dss_nil)) (dss_cons (ds_if (dt_w (dw_or (dt_w (dw_and (dt_truth (dh_of (de_bi call_isi on_isi rfl T.isinstance_ boot_isinstance (da_cons (dh_var 1) (da_cons (dh_of (de_tyn rfl T.tuple_ boot_tuple)) da_nil))))) (dw_and1 (dt_not (dt_truth (dh_of (de_bi call_isi on_isi rfl T.isinstance_ boot_isinstance (da_cons (dh_var 0) (da_cons (dh_of (de_tyn rfl T.tuple_ boot_tuple)) da_nil))))))))) (dw_or1 (dt_w (dw_and (dt_truth (dh_of (de_bi call_isi on_isi rfl T.isinstance_ boot_isinstance (da_cons (dh_var 1) (da_cons (dh_of (de_tyn rfl T.list_ boot_list)) da_nil))))) (dw_and1 (dt_not (dt_truth (dh_of (de_bi call_isi on_isi rfl T.isinstance_ boot_isinstance (da_cons (dh_var 0) (da_cons (dh_of (de_tyn rfl T.list_ boot_list)) da_nil)))))))))))) (dss_one (ds_ret (de_bl))) (dss_nil)) (dss_cons (ds_if (dt_cmp (op_neA (hu64 hr)) o2_ne (dh_of (de_bi call_len on_len rfl T.len_ boot_len (da_cons (dh_var 0) da_nil))) (dh_of (de_bi call_len on_len rfl T.len_ boot_len (da_cons (dh_var 1) da_nil))) (nomark _)) (dss_one (ds_ret (de_bl))) (dss_nil)) (dss_cons (ds_for [0, 1] rfl (di_range1 rfl T.range_ (da_cons (dh_of (de_bi call_len on_len rfl T.len_ boot_len (da_cons (dh_var 1) da_nil))) da_nil)) (dg_name 2 nd) (dss_one (ds_if (dt_not (dt_truth (dh_of (de_call h0 hr rfl (da_cons (dh_of (de_ix ix_seq o2_idx (dh_var 0) (dh_var 2) (fun _ _ => rfl))) (da_cons (dh_of (de_ix ix_seq o2_idx (dh_var 1) (dh_var 2) (fun _ _ => rfl))) da_nil)))))) (dss_one (ds_ret (de_bl))) (dss_nil)))) (dss_one (ds_ret (de_bl))))))))))
theorem w_law_same (T : Top K mg) : FOk P w K mg base 8 "_law_same" ["told", "due"] F_law_same := by
  have h : ∀ n, FOk P w K mg base (0 + n) "_law_same" ["told", "due"] (R_law_same n) := fun n => by
    induction n with
    | zero =>
      obtain ⟨f, fd, FF, fb, fm⟩ := T.f_law_same
      exact FOk.void FF fb fm
    | succ n ih => exact v_law_same T ih
  exact h 8
noncomputable def d_law_spoil (F0 : List D → Option (D × List D)) : Ev → Option Out := bCons (bFor (iSq (hV 0)) (gNm 1) (bIf (tT (hE (eN gIsi (aCons (hV 1) (aCons (hE (eC (.ty "list"))) aNil))))) (bExp (eCall 1 F0 (aCons (hV 1) aNil))) (bNil))) (bIf (tT (hE (eN gIsi (aCons (hV 0) (aCons (hE (eC (.ty "list"))) aNil))))) (bExp (eMut 0 gApp (aCons (hE (eC .non)) aNil))) (bNil))
noncomputable def S_law_spoil (F0 : List D → Option (D × List D)) : List D → Option (D × List D) := fnD [true] 2 (d_law_spoil F0)
noncomputable def R_law_spoil : Nat → List D → Option (D × List D)
  | 0 => fun _ => none
  | n + 1 => S_law_spoil (R_law_spoil n)
noncomputable def F_law_spoil : List D → Option (D × List D) := R_law_spoil 8
theorem v_law_spoil {F0 : List D → Option (D × List D)} {k : Nat} (T : Top K mg) (h0 : FOk P w K mg base k "_law_spoil" ["told"] F0) : FOk P w K mg base (k + 1) "_law_spoil" ["told"] (S_law_spoil F0) := by
  obtain ⟨f, fd, FF, fb, fm⟩ := T.f_law_spoil
  have nd := sc_law_spoil.nd
  exact def_ok FF sc_law_spoil fb fm [0] [true] 2 (d_law_spoil F0) rfl rfl (by decide) (by decide) fun cdv A outer s H E hr => dss_cons (ds_for [0] rfl (di_any (dh_var 0) (hsl_var (by decide))) (dg_name 1 nd) (dss_one (ds_if (dt_truth (dh_of (de_bi call_isi on_isi rfl T.isinstance_ boot_isinstance (da_cons (dh_var 1) (da_cons (dh_of (de_tyn rfl T.list_ boot_list)) da_nil))))) (dss_one (ds_expr (de_call h0 hr rfl (da_cons (dh_var 1) da_nil)))) (dss_nil)))) (dss_one (ds_if (dt_truth (dh_of (de_bi call_isi on_isi rfl T.isinstance_ boot_isinstance (da_cons (dh_var 0) (da_cons (dh_of (de_tyn rfl T.list_ boot_list)) da_nil))))) (dss_one (ds_expr (de_mut 0 PySem.F.slot_list_append PySem.F.type_list_append mt_append mo_app (da_cons (dh_of (de_non)) da_nil)))) (dss_nil)))
theorem w_law_spoil (T : Top K mg) : FOk P w K mg base 8 "_law_spoil" ["told"] F_law_spoil := by
  have h : ∀ n, FOk P w K mg base (0 + n) "_law_spoil" ["told"] (R_law_spoil n) := fun n => by
    induction n with
    | zero =>
      obtain ⟨f, fd, FF, fb, fm⟩ := T.f_law_spoil
      exact FOk.void FF fb fm
    | succ n ih => exact v_law_spoil T ih
  exact h 8
noncomputable def d_law_twice : Ev → Option Out := bCons (bIf (tNo (tT (hE (eCall 2 F_law_same (aCons (hV 0) (aCons (hV 2) aNil)))))) (bRet (eC (.bl false))) (bNil)) (bCons (bExp (eCall 1 F_law_spoil (aCons (hV 0) aNil))) (bRet (eCall 2 F_law_same (aCons (hV 1) (aCons (hV 2) aNil)))))
noncomputable def F_law_twice : List D → Option (D × List D) := fnD [true, true, true] 3 d_law_twice
theorem w_law_twice (T : Top K mg) (h_law_same : FOk P w K mg base 8 "_law_same" ["told", "due"] F_law_same) (h_law_spoil : FOk P w K mg base 8 "_law_spoil" ["told"] F_law_spoil) : FOk P w K mg base 9 "_law_twice" ["told", "again", "due"] F_law_twice := by
  obtain ⟨f, fd, FF, fb, fm⟩ := T.f_law_twice
  have nd := sc_law_twice.nd
  exact def_ok FF sc_law_twice fb fm [0, 1, 2] [true, true, true] 3 d_law_twice rfl rfl (by decide) (by decide) fun cdv A outer s H E hr => dss_cons (ds_if (dt_not (dt_truth (dh_of (de_call h_law_same hr rfl (da_cons (dh_var 0) (da_cons (dh_var 2) da_nil)))))) (dss_one (ds_ret (de_bl))) (dss_nil)) (dss_cons (ds_expr (de_call h_law_spoil hr rfl (da_cons (dh_var 0) da_nil))) (dss_one (ds_ret (de_call h_law_same hr rfl (da_cons (dh_var 1) (da_cons (dh_var 2) da_nil))))))
noncomputable def d_law_samples_fit : Ev → Option Out := bCons (bAsg (eCall 1 F_law_curve (aCons (hV 0) aNil)) (gNm 1)) (bCons (bAsg (eN gList (aCons (hV 1) aNil)) (gNm 2)) (bCons (bAsg (e2 gIdx (hE (eCall 2 F_law_pick (aCons (hV 0) (aCons (hV 1) aNil)))) (hE (eC (.int 1)))) (gNm 3)) (bCons (bAsg (eLst (aNil)) (gNm 4)) (bCons (bFor (iRg1 (aCons (hE (eCall 2 F_law_draw (aCons (hV 0) (aCons (hE (eC (.int 4))) aNil)))) aNil)) (gNm 5) (bCons (bAsg (eCall 2 F_law_pick (aCons (hV 0) (aCons (hE (eFz (eLst (aCons (hE (eC (.int 0))) (aCons (hE (eC (.int 1))) (aCons (hE (eC (.int 2))) (aCons (hE (eC (.int 5))) aNil))))))) aNil))) (gNm 6)) (bCons (bAsg (e2 gSubt (hE (e2 gAdd (hV 3) (hE (eCall 2 F_law_draw (aCons (hV 0) (aCons (hE (e2 gAdd (hE (e2 gMul (hE (eC (.int 2))) (hV 6))) (hE (eC (.int 1))))) aNil)))))) (hV 6)) (gNm 7)) (bCons (bIf (tB' (e2 gEq (hE (eCall 2 F_law_draw (aCons (hV 0) (aCons (hE (eC (.int 6))) aNil)))) (hE (eC (.int 0))))) (bAsg (eCall 2 F_law_draw (aCons (hV 0) (aCons (hE (eC (.int 30))) aNil))) (gNm 7)) (bNil)) (bExp (eMut 4 gApp (aCons (hE (eFz (eTup (aCons (hE (eN gMax2 (aCons (hE (eC (.int 0))) (aCons (hV 7) aNil)))) (aCons (hE (eV 6)) aNil))))) aNil))))))) (bCons (bAsg (eLc [9] (iSq (hV 4)) (gNm 9) (tAll) (eFz (eTup (aCons (hE (eFz (eTup (aCons (hE (e2 gSubt (hE (e2 gIdx (hV 9) (hE (eC (.int 0))))) (hE (e2 gIdx (hV 9) (hE (eC (.int 1))))))) (aCons (hE (eC (.int 1))) aNil))))) (aCons (hE (eFz (eTup (aCons (hE (e2 gAdd (hE (e2 gIdx (hV 9) (hE (eC (.int 0))))) (hE (e2 gIdx (hV 9) (hE (eC (.int 1))))))) (aCons (hE (eC (.int 1))) aNil))))) aNil))))) (gNm 8)) (bCons (bAsg (eN gList (aCons (hV 4) aNil)) (gNm 10)) (bCons (bAsg (eCall 2 F_law_stretches (aCons (hV 1) (aCons (hV 8) aNil))) (gNm 11)) (bCons (bIf (tOr' (tNo (tT (hE (eCall 3 F_law_twice (aCons (hE (eCall 2 F_dated (aCons (hV 2) (aCons (hV 10) aNil)))) (aCons (hE (eFz (eCall 2 F_dated (aCons (hV 2) (aCons (hV 10) aNil))))) (aCons (hV 11) aNil))))))) (tB' (e2 gNe (hV 10) (hV 4)))) (bRet (eC (.bl false))) (bNil)) (bCons (bAsg (eLc [13] (iSq (hV 1)) (gNm 13) (tAll) (e2 gIdx (hV 13) (hE (eC (.int 1))))) (gNm 12)) (bCons (bAsg (eC .non) (gNm 14)) (bCons (bFor (iRg2 (aCons (hE (eN gMinL (aCons (hV 12) aNil))) (aCons (hE (e2 gAdd (hE (eN gMaxL (aCons (hV 12) aNil))) (hE (eC (.int 1))))) aNil))) (gNm 7) (bCons (bAsg (eC (.int 0)) (gNm 15)) (bCons (bFor (iRg1 (aCons (hE (eN gLen (aCons (hV 12) aNil))) aNil)) (gNm 16) (bIf (tB' (e2 gEq (hE (e2 gIdx (hV 12) (hV 16))) (hV 7))) (bAsg (e2 gAdd (hV 15) (hE (eN gInt (aCons (hE (eOr (e2 gEq (hV 16) (hE (eC (.int 0)))) (e2 gNe (hE (e2 gIdx (hV 12) (hE (e2 gSubt (hV 16) (hE (eC (.int 1))))))) (hV 7)))) aNil)))) (gNm 15)) (bIf (tAn (tB' (e2 gGt (hV 16) (hE (eC (.int 0))))) (tB' (e2 gLt (hE (e2 gMul (hE (e2 gSubt (hE (e2 gIdx (hV 12) (hV 16))) (hV 7))) (hE (e2 gSubt (hE (e2 gIdx (hV 12) (hE (e2 gSubt (hV 16) (hE (eC (.int 1))))))) (hV 7))))) (hE (eC (.int 0)))))) (bAsg (e2 gAdd (hV 15) (hE (eC (.int 1)))) (gNm 15)) (bNil)))) (bIf (tOr' (tB' (e2 (gIsB false) (hV 14) (hE (eC .non)))) (tB' (e2 gGt (hV 15) (hE (e2 gIdx (hV 14) (hE (eC (.int 0)))))))) (bAsg (eTup (aCons (hE (eV 15)) (aCons (hE (eV 7)) aNil))) (gNm 14)) (bNil))))) (bRet (eAn (eCall 2 F_law_same (aCons (hE (eFz (eCall 1 F_worst_value (aCons (hV 2) aNil)))) (aCons (hE (e2 gIdx (hV 14) (hE (eC (.int 1))))) aNil))) (e2 gEq (hV 2) (hV 1)))))))))))))))
noncomputable def F_law_samples_fit : List D → Option (D × List D) := fnD [true] 17 d_law_samples_fit
theorem w_law_samples_fit (T : Top K mg) (h_dated : FOk P w K mg base 9 "dated" ["curve", "samples"] F_dated) (h_worst_value : FOk P w K mg base 9 "worst_value" ["curve"] F_worst_value) (h_law_draw : FOk P w K mg base 9 "_law_draw" ["box", "many"] F_law_draw) (h_law_pick : FOk P w K mg base 9 "_law_pick" ["box", "lot"] F_law_pick) (h_law_same : FOk P w K mg base 9 "_law_same" ["told", "due"] F_law_same) (h_law_twice : FOk P w K mg base 9 "_law_twice" ["told", "again", "due"] F_law_twice) (h_law_curve : FOk P w K mg base 9 "_law_curve" ["box"] F_law_curve) (h_law_stretches : FOk P w K mg base 9 "_law_stretches" ["curve", "bounds"] F_law_stretches) : FOk P w K mg base 10 "_law_samples_fit" ["box"] F_law_samples_fit := by
  obtain ⟨f, fd, FF, fb, fm⟩ := T.f_law_samples_fit
  have nd := sc_law_samples_fit.nd
  exact def_ok FF sc_law_samples_fit fb fm [0] [true] 17 d_law_samples_fit rfl rfl (by decide) (by decide) fun cdv A outer s H E hr => dss_cons (ds_set 1 nd (de_call h_law_curve hr rfl (da_cons (dh_var 0) da_nil))) (dss_cons (ds_set 2 nd (de_ty call_list_of on_list rfl T.list_ boot_list (da_cons (dh_var 1) da_nil))) (dss_cons (ds_set 3 nd (de_ix ix_seq o2_idx (dh_of (de_call h_law_pick hr rfl (da_cons (dh_var 0) (da_cons (dh_var 1) da_nil)))) (dh_of (de_int)) (fun _ _ => rfl))) (dss_cons (ds_set 4 nd (de_lst (da_nil))) (dss_cons (ds_for [0] rfl (di_range1 rfl T.range_ (da_cons (dh_of (de_call h_law_draw hr rfl (da_cons (dh_var 0) (da_cons (dh_of (de_int)) da_nil)))) da_nil)) (dg_name 5 nd) (dss_cons (ds_set 6 nd (de_call h_law_pick hr rfl (da_cons (dh_var 0) (da_cons (dh_of (de_fz (de_lst (da_cons (dh_of (de_int)) (da_cons (dh_of (de_int)) (da_cons (dh_of (de_int)) (da_cons (dh_of (de_int)) da_nil))))))) da_nil)))) (dss_cons (ds_set 7 nd (de_op op_sub o2_sub (dh_of (de_op op_addA o2_add (dh_var 3) (dh_of (de_call h_law_draw hr rfl (da_cons (dh_var 0) (da_cons (dh_of (de_op op_addA o2_add (dh_of (de_op op_mulA o2_mul (dh_of (de_int)) (dh_var 6))) (dh_of (de_int)))) da_nil)))))) (dh_var 6))) (dss_cons (ds_if (dt_cmp (op_eqA (hu64 hr)) o2_eq (dh_of (de_call h_law_draw hr rfl (da_cons (dh_var 0) (da_cons (dh_of (de_int)) da_nil)))) (dh_of (de_int)) (nomark _)) (dss_one (ds_set 7 nd (de_call h_law_draw hr rfl (da_cons (dh_var 0) (da_cons (dh_of (de_int)) da_nil))))) (dss_nil)) (dss_one (ds_expr (de_mut 4 PySem.F.slot_list_append PySem.F.type_list_append mt_append mo_app (da_cons (dh_of (de_fz (de_tup (da_cons (dh_of (de_bi (call_max2 rfl) on_int2 rfl T.max_ boot_max (da_cons (dh_of (de_int)) (da_cons (dh_var 7) da_nil)))) (da_cons (dh_of (de_var 6)) da_nil))))) da_nil)))))))) (dss_cons (ds_setLc 8 (own := [("sample", 9)]) [0, 1, 2, 3, 4, 5, 6, 7, 8, 9, 10, 11, 12, 13, 14, 15, 16] [0, 1, 2, 3, 4, 5, 6, 7, 8, 10, 11, 12, 13, 14, 15, 16] 17 rfl nd rfl (di_any (dh_var 4) (hsl_var (by decide))) (blk_ok (by kernel_rfl)) (fun _ _ _ _ _ => dg_name 9 nd) (fun _ _ _ _ _ => dts_nil) (fun _ _ _ _ _ => de_fz (de_tup (da_cons (dh_of (de_fz (de_tup (da_cons (dh_of (de_op op_sub o2_sub (dh_of (de_ix ix_seq o2_idx (dh_var 9) (dh_of (de_int)) (fun _ _ => rfl))) (dh_of (de_ix ix_seq o2_idx (dh_var 9) (dh_of (de_int)) (fun _ _ => rfl))))) (da_cons (dh_of (de_int)) da_nil))))) (da_cons (dh_of (de_fz (de_tup (da_cons (dh_of (de_op op_addA o2_add (dh_of (de_ix ix_seq o2_idx (dh_var 9) (dh_of (de_int)) (fun _ _ => rfl))) (dh_of (de_ix ix_seq o2_idx (dh_var 9) (dh_of (de_int)) (fun _ _ => rfl))))) (da_cons (dh_of (de_int)) da_nil))))) da_nil))))) (dss_cons (ds_set 10 nd (de_ty call_list_of on_list rfl T.list_ boot_list (da_cons (dh_var 4) da_nil))) (dss_cons (ds_set 11 nd (de_call h_law_stretches hr rfl (da_cons (dh_var 1) (da_cons (dh_var 8) da_nil)))) (dss_cons (ds_if (dt_w (dw_or (dt_not (dt_truth (dh_of (de_call h_law_twice hr rfl (da_cons (dh_of (de_call h_dated hr rfl (da_cons (dh_var 2) (da_cons (dh_var 10) da_nil)))) (da_cons (dh_of (de_fz (de_call h_dated hr rfl (da_cons (dh_var 2) (da_cons (dh_var 10) da_nil))))) (da_cons (dh_var 11) da_nil))))))) (dw_or1 (dt_cmp (op_neA (hu64 hr)) o2_ne (dh_var 10) (dh_var 4) (nomark _))))) (dss_one (ds_ret (de_bl))) (dss_nil)) (dss_cons (ds_setLc 12 (own := [("point", 13)]) [0, 1, 2, 3, 4, 5, 6, 7, 8, 9, 10, 11, 12, 13, 14, 15, 16] [0, 1, 2, 3, 4, 5, 6, 7, 8, 9, 10, 11, 12, 14, 15, 16] 17 rfl nd rfl (di_any (dh_var 1) (hsl_var (by decide))) (blk_ok (by kernel_rfl)) (fun _ _ _ _ _ => dg_name 13 nd) (fun _ _ _ _ _ => dts_nil) (fun _ _ _ _ _ => de_ix ix_seq o2_idx (dh_var 13) (dh_of (de_int)) (fun _ _ => rfl))) (dss_cons (ds_set 14 nd (de_non)) (dss_cons (ds_for [0] rfl (di_range2 rfl T.range_ (da_cons (dh_of (de_bi (cr_min rfl) on_minL rfl T.min_ boot_min (da_cons (dh_var 12) da_nil))) (da_cons (dh_of (de_op op_addA o2_add (dh_of (de_bi (cr_max rfl) on_maxL rfl T.max_ boot_max (da_cons (dh_var 12) da_nil))) (dh_of (de_int)))) da_nil))) (dg_name 7 nd) (dss_cons (ds_set 15 nd (de_int)) (dss_cons (ds_for [0] rfl (di_range1 rfl T.range_ (da_cons (dh_of (de_bi call_len on_len rfl T.len_ boot_len (da_cons (dh_var 12) da_nil))) da_nil)) (dg_name 16 nd) (dss_one (ds_if (dt_cmp (op_eqA (hu64 hr)) o2_eq (dh_of (de_ix ix_seq o2_idx (dh_var 12) (dh_var 16) (fun _ _ => rfl))) (dh_var 7) (nomark _)) (dss_one (ds_set 15 nd (de_op op_addA o2_add (dh_var 15) (dh_of (de_ty call_intA on_int rfl T.int_ boot_int (da_cons (dh_of (de_or (de_cmp (op_eqA (hu64 hr)) o2_eq (dh_var 16) (dh_of (de_int)) (nomark _)) (de_one (de_cmp (op_neA (hu64 hr)) o2_ne (dh_of (de_ix ix_seq o2_idx (dh_var 12) (dh_of (de_op op_sub o2_sub (dh_var 16) (dh_of (de_int)))) (fun _ _ => rfl))) (dh_var 7) (nomark _))))) da_nil)))))) (dss_one (ds_if (dt_w (dw_and (dt_cmp op_gt o2_gt (dh_var 16) (dh_of (de_int)) (nomark _)) (dw_and1 (dt_cmp op_lt o2_lt (dh_of (de_op op_mulA o2_mul (dh_of (de_op op_sub o2_sub (dh_of (de_ix ix_seq o2_idx (dh_var 12) (dh_var 16) (fun _ _ => rfl))) (dh_var 7))) (dh_of (de_op op_sub o2_sub (dh_of (de_ix ix_seq o2_idx (dh_var 12) (dh_of (de_op op_sub o2_sub (dh_var 16) (dh_of (de_int)))) (fun _ _ => rfl))) (dh_var 7))))) (dh_of (de_int)) (nomark _))))) (dss_one (ds_set 15 nd (de_op op_addA o2_add (dh_var 15) (dh_of (de_int))))) (dss_nil)))))) (dss_one (ds_if (dt_w (dw_or (dt_cmp op_isA o2_is (dh_var 14) (dh_of (de_non)) (nomark _)) (dw_or1 (dt_cmp op_gt o2_gt (dh_var 15) (dh_of (de_ix ix_seq o2_idx (dh_var 14) (dh_of (de_int)) (fun _ _ => rfl))) (nomark _))))) (dss_one (ds_set 14 nd (de_tup (da_cons (dh_of (de_var 15)) (da_cons (dh_of (de_var 7)) da_nil))))) (dss_nil)))))) (dss_one (ds_ret (de_and (de_call h_law_same hr rfl (da_cons (dh_of (de_fz (de_call h_worst_value hr rfl (da_cons (dh_var 2) da_nil)))) (da_cons (dh_of (de_ix ix_seq o2_idx (dh_var 14) (dh_of (de_int)) (fun _ _ => rfl))) da_nil))) (de_one (de_cmp (op_eqA (hu64 hr)) o2_eq (dh_var 2) (dh_var 1) (nomark _)))))))))))))))))
noncomputable def d_law_lists_fit : Ev → Option Out := bCons (bAsg (eCall 2 F_law_drawn (aCons (hV 0) (aCons (hE (eFz (eLst (aNil)))) aNil))) (gNm 1)) (bCons (bAsg (eCall 2 F_law_drawn (aCons (hV 0) (aCons (hE (eFz (e2 gAdd (hE (eLc [3] (iSq (hV 1)) (gNm 3) (tAll) (e2 gIdx (hV 3) (hE (eC (.int 0)))))) (hE (eLc [3] (iSq (hV 1)) (gNm 3) (tAll) (e2 gIdx (hV 3) (hE (eC (.int 1))))))))) aNil))) (gNm 2)) (bCons (bPar 4 5 (aCons (hE (eCall 1 F_law_told (aCons (hV 1) aNil))) (aCons (hE (eCall 1 F_law_told (aCons (hV 2) aNil))) aNil))) (bCons (bIf (tNo (tT (hE (eCall 3 F_law_twice (aCons (hE (eCall 2 F_both (aCons (hV 4) (aCons (hV 5) aNil)))) (aCons (hE (eFz (eCall 2 F_both (aCons (hV 5) (aCons (hV 4) aNil))))) (aCons (hE (eFz (eCall 2 F_law_both (aCons (hV 1) (aCons (hV 2) aNil))))) aNil))))))) (bRet (eC (.bl false))) (bNil)) (bCons (bIf (tOr' (tB' (e2 gNe (hV 4) (hE (eCall 1 F_law_told (aCons (hV 1) aNil))))) (tB' (e2 gNe (hV 5) (hE (eCall 1 F_law_told (aCons (hV 2) aNil)))))) (bRet (eC (.bl false))) (bNil)) (bCons (bFor (iSq (hE (eLst (aCons (hE (eV 1)) (aCons (hE (eV 2)) aNil))))) (gNm 6) (bCons (bAsg (eCall 1 F_law_told (aCons (hV 6) aNil)) (gNm 7)) (bCons (bIf (tNo (tT (hE (eCall 2 F_law_same (aCons (hE (eFz (eCall 1 F_length_of (aCons (hV 7) aNil)))) (aCons (hE (eFz (eCall 2 F_law_low (aCons (hE (eN gSum (aCons (hE (eLc [3] (iSq (hV 6)) (gNm 3) (tAll) (e2 gSubt (hE (e2 gIdx (hV 3) (hE (eC (.int 1))))) (hE (e2 gIdx (hV 3) (hE (eC (.int 0)))))))) aNil))) (aCons (hE (eC (.int 4))) aNil))))) aNil)))))) (bRet (eC (.bl false))) (bNil)) (bIf (tOr' (tAn (tB' (e2 gNe (hV 6) (hE (eLst (aNil))))) (tNo (tT (hE (eCall 2 F_law_same (aCons (hE (eFz (eCall 1 F_middle_year (aCons (hV 7) aNil)))) (aCons (hE (eFz (eCall 1 F_law_middle (aCons (hV 6) aNil)))) aNil))))))) (tB' (e2 gNe (hV 7) (hE (eCall 1 F_law_told (aCons (hV 6) aNil)))))) (bRet (eC (.bl false))) (bNil))))) (bRet (eC (.bl true))))))))
noncomputable def F_law_lists_fit : List D → Option (D × List D) := fnD [true] 8 d_law_lists_fit
theorem w_law_lists_fit (T : Top K mg) (h_length_of : FOk P w K mg base 9 "length_of" ["stretches"] F_length_of) (h_both : FOk P w K mg base 9 "both" ["one", "other"] F_both) (h_middle_year : FOk P w K mg base 9 "middle_year" ["stretches"] F_middle_year) (h_law_same : FOk P w K mg base 9 "_law_same" ["told", "due"] F_law_same) (h_law_twice : FOk P w K mg base 9 "_law_twice" ["told", "again", "due"] F_law_twice) (h_law_low : FOk P w K mg base 9 "_law_low" ["top", "bottom"] F_law_low) (h_law_drawn : FOk P w K mg base 9 "_law_drawn" ["box", "ends"] F_law_drawn) (h_law_told : FOk P w K mg base 9 "_law_told" ["lot"] F_law_told) (h_law_both : FOk P w K mg base 9 "_law_both" ["one", "far"] F_law_both) (h_law_middle : FOk P w K mg base 9 "_law_middle" ["lot"] F_law_middle) : FOk P w K mg base 10 "_law_lists_fit" ["box"] F_law_lists_fit := by
  obtain ⟨f, fd, FF, fb, fm⟩ := T.f_law_lists_fit
  have nd := sc_law_lists_fit.nd
  exact def_ok FF sc_law_lists_fit fb fm [0] [true] 8 d_law_lists_fit rfl rfl (by decide) (by decide) fun cdv A outer s H E hr => dss_cons (ds_set 1 nd (de_call h_law_drawn hr rfl (da_cons (dh_var 0) (da_cons (dh_of (de_fz (de_lst (da_nil)))) da_nil)))) (dss_cons (ds_set 2 nd (de_call h_law_drawn hr rfl (da_cons (dh_var 0) (da_cons (dh_of (de_fz (de_op op_addA o2_add (dh_of (de_lc (own := [("pair", 3)]) [0, 1, 2, 3, 4, 5, 6, 7] [0, 1, 2, 4, 5, 6, 7] 8 rfl nd rfl (di_any (dh_var 1) (hsl_var (by decide))) (blk_ok (by kernel_rfl)) (fun _ _ _ _ _ => dg_name 3 nd) (fun _ _ _ _ _ => dts_nil) (fun _ _ _ _ _ => de_ix ix_seq o2_idx (dh_var 3) (dh_of (de_int)) (fun _ _ => rfl)))) (dh_of (de_lc (own := [("pair", 3)]) [0, 1, 2, 3, 4, 5, 6, 7] [0, 1, 2, 4, 5, 6, 7] 8 rfl nd rfl (di_any (dh_var 1) (hsl_var (by decide))) (blk_ok (by kernel_rfl)) (fun _ _ _ _ _ => dg_name 3 nd) (fun _ _ _ _ _ => dts_nil) (fun _ _ _ _ _ => de_ix ix_seq o2_idx (dh_var 3) (dh_of (de_int)) (fun _ _ => rfl))))))) da_nil)))) (dss_cons (ds_par 4 5 rfl nd (da_cons (dh_of (de_call h_law_told hr rfl (da_cons (dh_var 1) da_nil))) (da_cons (dh_of (de_call h_law_told hr rfl (da_cons (dh_var 2) da_nil))) da_nil))) (dss_cons (ds_if (dt_not (dt_truth (dh_of (de_call h_law_twice hr rfl (da_cons (dh_of (de_call h_both hr rfl (da_cons (dh_var 4) (da_cons (dh_var 5) da_nil)))) (da_cons (dh_of (de_fz (de_call h_both hr rfl (da_cons (dh_var 5) (da_cons (dh_var 4) da_nil))))) (da_cons (dh_of (de_fz (de_call h_law_both hr rfl (da_cons (dh_var 1) (da_cons (dh_var 2) da_nil))))) da_nil))))))) (dss_one (ds_ret (de_bl))) (dss_nil)) (dss_cons (ds_if (dt_w (dw_or (dt_cmp (op_neA (hu64 hr)) o2_ne (dh_var 4) (dh_of (de_call h_law_told hr rfl (da_cons (dh_var 1) da_nil))) (nomark _)) (dw_or1 (dt_cmp (op_neA (hu64 hr)) o2_ne (dh_var 5) (dh_of (de_call h_law_told hr rfl (da_cons (dh_var 2) da_nil))) (nomark _))))) (dss_one (ds_ret (de_bl))) (dss_nil)) (dss_cons (ds_for [0] rfl (di_any (dh_of (de_lst (da_cons (dh_of (de_var 1)) (da_cons (dh_of (de_var 2)) da_nil)))) hsl_of) (dg_name 6 nd) (dss_cons (ds_set 7 nd (de_call h_law_told hr rfl (da_cons (dh_var 6) da_nil))) (dss_cons (ds_if (dt_not (dt_truth (dh_of (de_call h_law_same hr rfl (da_cons (dh_of (de_fz (de_call h_length_of hr rfl (da_cons (dh_var 7) da_nil)))) (da_cons (dh_of (de_fz (de_call h_law_low hr rfl (da_cons (dh_of (de_bi (cr_sum rfl) on_sum rfl T.sum_ boot_sum (da_cons (dh_of (de_lc (own := [("pair", 3)]) [0, 1, 2, 3, 4, 5, 6, 7] [0, 1, 2, 4, 5, 6, 7] 8 rfl nd rfl (di_any (dh_var 6) (hsl_var (by decide))) (blk_ok (by kernel_rfl)) (fun _ _ _ _ _ => dg_name 3 nd) (fun _ _ _ _ _ => dts_nil) (fun _ _ _ _ _ => de_op op_sub o2_sub (dh_of (de_ix ix_seq o2_idx (dh_var 3) (dh_of (de_int)) (fun _ _ => rfl))) (dh_of (de_ix ix_seq o2_idx (dh_var 3) (dh_of (de_int)) (fun _ _ => rfl)))))) da_nil))) (da_cons (dh_of (de_int)) da_nil))))) da_nil)))))) (dss_one (ds_ret (de_bl))) (dss_nil)) (dss_one (ds_if (dt_w (dw_or (dt_w (dw_and (dt_cmp (op_neA (hu64 hr)) o2_ne (dh_var 6) (dh_of (de_lst (da_nil))) (nomark _)) (dw_and1 (dt_not (dt_truth (dh_of (de_call h_law_same hr rfl (da_cons (dh_of (de_fz (de_call h_middle_year hr rfl (da_cons (dh_var 7) da_nil)))) (da_cons (dh_of (de_fz (de_call h_law_middle hr rfl (da_cons (dh_var 6) da_nil)))) da_nil))))))))) (dw_or1 (dt_cmp (op_neA (hu64 hr)) o2_ne (dh_var 7) (dh_of (de_call h_law_told hr rfl (da_cons (dh_var 6) da_nil))) (nomark _))))) (dss_one (ds_ret (de_bl))) (dss_nil)))))) (dss_one (ds_ret (de_bl))))))))
noncomputable def d_law : Ev → Option Out := bCons (bAsg (eLst (aCons (hE (eFz (eCall 3 F_law_digits (aCons (hV 0) (aCons (hE (eC (.int 0))) (aCons (hE (eC (.int 24))) aNil)))))) (aCons (hE (eC (.int 0))) aNil))) (gNm 1)) (bCons (bFor (iRg1 (aCons (hE (eC (.int 2))) aNil)) (gNm 2) (bIf (tOr' (tNo (tT (hE (eCall 1 F_law_samples_fit (aCons (hV 1) aNil))))) (tNo (tT (hE (eCall 1 F_law_lists_fit (aCons (hV 1) aNil)))))) (bRet (eC (.bl false))) (bNil))) (bCons (bAsg (eCall 2 F_law_draw (aCons (hV 1) (aCons (hE (eC (.int 40))) aNil))) (gNm 3)) (bCons (bAsg (eLst (aCons (hE (eFz (eTup (aCons (hE (eFz (eTup (aCons (hE (eV 3)) (aCons (hE (eC (.int 1))) aNil))))) (aCons (hE (eFz (eTup (aCons (hE (eV 3)) (aCons (hE (eC (.int 1))) aNil))))) aNil))))) (aCons (hE (eFz (eTup (aCons (hE (eFz (eTup (aCons (hE (e2 gAdd (hV 3) (hE (eC (.int 1))))) (aCons (hE (eC (.int 1))) aNil))))) (aCons (hE (eFz (eTup (aCons (hE (e2 gAdd (hV 3) (hE (eC (.int 1))))) (aCons (hE (eC (.int 1))) aNil))))) aNil))))) aNil))) (gNm 4)) (bCons (bIf (tOr' (tNo (tT (hE (eCall 2 F_law_same (aCons (hE (eFz (eCall 1 F_middle_year (aCons (hV 4) aNil)))) (aCons (hE (eFz (eTup (aCons (hE (eV 3)) (aCons (hE (eC (.int 1))) aNil))))) aNil)))))) (tNo (tT (hE (eCall 2 F_law_same (aCons (hE (eFz (eCall 1 F_length_of (aCons (hE (eFz (eLst (aNil)))) aNil)))) (aCons (hE (eFz (eTup (aCons (hE (eC (.int 0))) (aCons (hE (eC (.int 1))) aNil))))) aNil))))))) (bRet (eC (.bl false))) (bNil)) (bRet (eCall 2 F_law_same (aCons (hE (eFz (eCall 1 F_middle_year (aCons (hE (eFz (eLst (aCons (hE (eFz (eTup (aCons (hE (eFz (eTup (aCons (hE (eV 3)) (aCons (hE (eC (.int 1))) aNil))))) (aCons (hE (eFz (eTup (aCons (hE (e2 gAdd (hV 3) (hE (eC (.int 2))))) (aCons (hE (eC (.int 1))) aNil))))) aNil))))) (aCons (hE (eFz (eTup (aCons (hE (eFz (eTup (aCons (hE (e2 gAdd (hV 3) (hE (eC (.int 5))))) (aCons (hE (eC (.int 1))) aNil))))) (aCons (hE (eFz (eTup (aCons (hE (e2 gAdd (hV 3) (hE (eC (.int 7))))) (aCons (hE (eC (.int 1))) aNil))))) aNil))))) aNil))))) aNil)))) (aCons (hE (eFz (eTup (aCons (hE (e2 gAdd (hV 3) (hE (eC (.int 2))))) (aCons (hE (eC (.int 1))) aNil))))) aNil))))))))
noncomputable def F_law : List D → Option (D × List D) := fnD [true] 5 d_law
theorem w_law (T : Top K mg) (h_length_of : FOk P w K mg base 10 "length_of" ["stretches"] F_length_of) (h_middle_year : FOk P w K mg base 10 "middle_year" ["stretches"] F_middle_year) (h_law_digits : FOk P w K mg base 10 "_law_digits" ["script", "first", "last"] F_law_digits) (h_law_draw : FOk P w K mg base 10 "_law_draw" ["box", "many"] F_law_draw) (h_law_same : FOk P w K mg base 10 "_law_same" ["told", "due"] F_law_same) (h_law_samples_fit : FOk P w K mg base 10 "_law_samples_fit" ["box"] F_law_samples_fit) (h_law_lists_fit : FOk P w K mg base 10 "_law_lists_fit" ["box"] F_law_lists_fit) : FOk P w K mg base 11 "law" ["script"] F_law := by
  obtain ⟨f, fd, FF, fb, fm⟩ := T.f_law
  have nd := sc_law.nd
  exact def_ok FF sc_law fb fm [0] [true] 5 d_law rfl rfl (by decide) (by decide) fun cdv A outer s H E hr => dss_cons (ds_set 1 nd (de_lst (da_cons (dh_of (de_fz (de_call h_law_digits hr rfl (da_cons (dh_var 0) (da_cons (dh_of (de_int)) (da_cons (dh_of (de_int)) da_nil)))))) (da_cons (dh_of (de_int)) da_nil)))) (dss_cons (ds_for [0] rfl (di_range1 rfl T.range_ (da_cons (dh_of (de_int)) da_nil)) (dg_name 2 nd) (dss_one (ds_if (dt_w (dw_or (dt_not (dt_truth (dh_of (de_call h_law_samples_fit hr rfl (da_cons (dh_var 1) da_nil))))) (dw_or1 (dt_not (dt_truth (dh_of (de_call h_law_lists_fit hr rfl (da_cons (dh_var 1) da_nil)))))))) (dss_one (ds_ret (de_bl))) (dss_nil)))) (dss_cons (ds_set 3 nd (de_call h_law_draw hr rfl (da_cons (dh_var 1) (da_cons (dh_of (de_int)) da_nil)))) (dss_cons (ds_set 4 nd (de_lst (da_cons (dh_of (de_fz (de_tup (da_cons (dh_of (de_fz (de_tup (da_cons (dh_of (de_var 3)) (da_cons (dh_of (de_int)) da_nil))))) (da_cons (dh_of (de_fz (de_tup (da_cons (dh_of (de_var 3)) (da_cons (dh_of (de_int)) da_nil))))) da_nil))))) (da_cons (dh_of (de_fz (de_tup (da_cons (dh_of (de_fz (de_tup (da_cons (dh_of (de_op op_addA o2_add (dh_var 3) (dh_of (de_int)))) (da_cons (dh_of (de_int)) da_nil))))) (da_cons (dh_of (de_fz (de_tup (da_cons (dh_of (de_op op_addA o2_add (dh_var 3) (dh_of (de_int)))) (da_cons (dh_of (de_int)) da_nil))))) da_nil))))) da_nil)))) (dss_cons (ds_if (dt_w (dw_or (dt_not (dt_truth (dh_of (de_call h_law_same hr rfl (da_cons (dh_of (de_fz (de_call h_middle_year hr rfl (da_cons (dh_var 4) da_nil)))) (da_cons (dh_of (de_fz (de_tup (da_cons (dh_of (de_var 3)) (da_cons (dh_of (de_int)) da_nil))))) da_nil)))))) (dw_or1 (dt_not (dt_truth (dh_of (de_call h_law_same hr rfl (da_cons (dh_of (de_fz (de_call h_length_of hr rfl (da_cons (dh_of (de_fz (de_lst (da_nil)))) da_nil)))) (da_cons (dh_of (de_fz (de_tup (da_cons (dh_of (de_int)) (da_cons (dh_of (de_int)) da_nil))))) da_nil))))))))) (dss_one (ds_ret (de_bl))) (dss_nil)) (dss_one (ds_ret (de_call h_law_same hr rfl (da_cons (dh_of (de_fz (de_call h_middle_year hr rfl (da_cons (dh_of (de_fz (de_lst (da_cons (dh_of (de_fz (de_tup (da_cons (dh_of (de_fz (de_tup (da_cons (dh_of (de_var 3)) (da_cons (dh_of (de_int)) da_nil))))) (da_cons (dh_of (de_fz (de_tup (da_cons (dh_of (de_op op_addA o2_add (dh_var 3) (dh_of (de_int)))) (da_cons (dh_of (de_int)) da_nil))))) da_nil))))) (da_cons (dh_of (de_fz (de_tup (da_cons (dh_of (de_fz (de_tup (da_cons (dh_of (de_op op_addA o2_add (dh_var 3) (dh_of (de_int)))) (da_cons (dh_of (de_int)) da_nil))))) (da_cons (dh_of (de_fz (de_tup (da_cons (dh_of (de_op op_addA o2_add (dh_var 3) (dh_of (de_int)))) (da_cons (dh_of (de_int)) da_nil))))) da_nil))))) da_nil))))) da_nil)))) (da_cons (dh_of (de_fz (de_tup (da_cons (dh_of (de_op op_addA o2_add (dh_var 3) (dh_of (de_int)))) (da_cons (dh_of (de_int)) da_nil))))) da_nil)))))))))
end
theorem all_ok {P : Program} {w : World} {K : Frg} {mg : Str → Option Value} {base : Heap} (T : Top K mg) : FOk P w K mg base 11 "law" ["script"] F_law := by
  have h_fraction := w_fraction (P := P) (w := w) (base := base) T
  have h_is_less := w_is_less (P := P) (w := w) (base := base) T
  have h_whole := w_whole (P := P) (w := w) (base := base) T
  have h_law_cell := w_law_cell (P := P) (w := w) (base := base) T
  have h_law_draw := w_law_draw (P := P) (w := w) (base := base) T
  have h_law_low := w_law_low (P := P) (w := w) (base := base) T
  have h_law_less := w_law_less (P := P) (w := w) (base := base) T
  have h_law_in_lot := w_law_in_lot (P := P) (w := w) (base := base) T
  have h_plus := w_plus (P := P) (w := w) (base := base) T (h_fraction.mono (by decide))
  have h_minus := w_minus (P := P) (w := w) (base := base) T (h_fraction.mono (by decide))
  have h_times := w_times (P := P) (w := w) (base := base) T (h_fraction.mono (by decide))
  have h_over := w_over (P := P) (w := w) (base := base) T (h_fraction.mono (by decide))
  have h_both := w_both (P := P) (w := w) (base := base) T (h_is_less.mono (by decide))
  have h_law_digits := w_law_digits (P := P) (w := w) (base := base) T (h_law_cell.mono (by decide))
  have h_law_pick := w_law_pick (P := P) (w := w) (base := base) T (h_law_draw.mono (by decide))
  have h_law_value := w_law_value (P := P) (w := w) (base := base) T (h_law_less.mono (by decide))
  have h_law_cuts := w_law_cuts (P := P) (w := w) (base := base) T (h_law_low.mono (by decide)) (h_law_less.mono (by decide))
  have h_law_in := w_law_in (P := P) (w := w) (base := base) T (h_law_less.mono (by decide))
  have h_law_told := w_law_told (P := P) (w := w) (base := base) T (h_law_low.mono (by decide))
  have h_law_both := w_law_both (P := P) (w := w) (base := base) T (h_law_low.mono (by decide)) (h_law_in_lot.mono (by decide))
  have h_law_middle := w_law_middle (P := P) (w := w) (base := base) T (h_law_low.mono (by decide))
  have h_years_of := w_years_of (P := P) (w := w) (base := base) T (h_plus.mono (by decide)) (h_minus.mono (by decide)) (h_times.mono (by decide)) (h_over.mono (by decide)) (h_is_less.mono (by decide)) (h_whole.mono (by decide))
  have h_piece_between := w_piece_between (P := P) (w := w) (base := base) T (h_plus.mono (by decide)) (h_minus.mono (by decide)) (h_times.mono (by decide)) (h_over.mono (by decide)) (h_is_less.mono (by decide)) (h_whole.mono (by decide))
  have h_length_of := w_length_of (P := P) (w := w) (base := base) T (h_plus.mono (by decide)) (h_minus.mono (by decide))
  have h_law_curve := w_law_curve (P := P) (w := w) (base := base) T (h_law_draw.mono (by decide)) (h_law_pick.mono (by decide))
  have h_law_stretches := w_law_stretches (P := P) (w := w) (base := base) T (h_law_value.mono (by decide)) (h_law_cuts.mono (by decide)) (h_law_in.mono (by decide))
  have h_law_drawn := w_law_drawn (P := P) (w := w) (base := base) T (h_law_draw.mono (by decide)) (h_law_pick.mono (by decide))
  have h_years_between := w_years_between (P := P) (w := w) (base := base) T (h_piece_between.mono (by decide))
  have h_worst_value := w_worst_value (P := P) (w := w) (base := base) T (h_whole.mono (by decide)) (h_years_of.mono (by decide))
  have h_middle_year := w_middle_year (P := P) (w := w) (base := base) T (h_fraction.mono (by decide)) (h_plus.mono (by decide)) (h_minus.mono (by decide)) (h_times.mono (by decide)) (h_is_less.mono (by decide)) (h_length_of.mono (by decide))
  have h_dated := w_dated (P := P) (w := w) (base := base) T (h_whole.mono (by decide)) (h_years_between.mono (by decide)) (h_both.mono (by decide))
  have h_law_same := w_law_same (P := P) (w := w) (base := base) T
  have h_law_spoil := w_law_spoil (P := P) (w := w) (base := base) T
  have h_law_twice := w_law_twice (P := P) (w := w) (base := base) T (h_law_same.mono (by decide)) (h_law_spoil.mono (by decide))
  have h_law_samples_fit := w_law_samples_fit (P := P) (w := w) (base := base) T (h_dated.mono (by decide)) (h_worst_value.mono (by decide)) (h_law_draw.mono (by decide)) (h_law_pick.mono (by decide)) (h_law_same.mono (by decide)) (h_law_twice.mono (by decide)) (h_law_curve.mono (by decide)) (h_law_stretches.mono (by decide))
  have h_law_lists_fit := w_law_lists_fit (P := P) (w := w) (base := base) T (h_length_of.mono (by decide)) (h_both.mono (by decide)) (h_middle_year.mono (by decide)) (h_law_same.mono (by decide)) (h_law_twice.mono (by decide)) (h_law_low.mono (by decide)) (h_law_drawn.mono (by decide)) (h_law_told.mono (by decide)) (h_law_both.mono (by decide)) (h_law_middle.mono (by decide))
  have h_law := w_law (P := P) (w := w) (base := base) T (h_length_of.mono (by decide)) (h_middle_year.mono (by decide)) (h_law_digits.mono (by decide)) (h_law_draw.mono (by decide)) (h_law_same.mono (by decide)) (h_law_samples_fit.mono (by decide)) (h_law_lists_fit.mono (by decide))
  exact h_law
theorem all_mk {l : PySem.W.OpenLaw} {w : World} {K : PySem.W.Frag} {h : Heap} {mg : Str → Option Value} {fa : Addr} (X : K.In h) (G : h.Ns mainGlobals mg) (hfa : mg "law" = some (.ref fa)) (hF : ∀ ns : List Int, ns.length ≤ 63 → ∃ bs, F_law [.cst (ns.map D.int)] = some (.bl true, bs))
    {f0 f1 f2 f3 f4 f5 f6 f7 f8 f9 f10 f11 f12 f13 f14 f15 f16 f17 f18 f19 f20 f21 f22 f23 f24 f25 f26 f27 f28 f29 f30 f31 f32 f33 f34 f35 f36 : Addr} {od0 an0 od1 an1 od2 an2 od3 an3 od4 an4 od5 an5 od6 an6 od7 an7 od8 an8 od9 an9 od10 an10 od11 an11 od12 an12 od13 an13 od14 an14 od15 an15 od16 an16 od17 an17 od18 an18 od19 an19 od20 an20 od21 an21 od22 an22 od23 an23 od24 an24 od25 an25 od26 an26 od27 an27 od28 an28 od29 an29 od30 an30 od31 an31 od32 an32 od33 an33 od34 an34 od35 an35 od36 an36 : Option Addr} {sl0 sl1 sl2 sl3 sl4 sl5 sl6 sl7 sl8 sl9 sl10 sl11 sl12 sl13 sl14 sl15 sl16 sl17 sl18 sl19 sl20 sl21 sl22 sl23 sl24 sl25 sl26 sl27 sl28 sl29 sl30 sl31 sl32 sl33 sl34 sl35 sl36 : Array (Option Value)} {oc0 kV0 dc0 pm0 cd0 ct0 oc1 kV1 dc1 pm1 cd1 ct1 oc2 kV2 dc2 pm2 cd2 ct2 oc3 kV3 dc3 pm3 cd3 ct3 oc4 kV4 dc4 pm4 cd4 ct4 oc5 kV5 dc5 pm5 cd5 ct5 oc6 kV6 dc6 pm6 cd6 ct6 oc7 kV7 dc7 pm7 cd7 ct7 oc8 kV8 dc8 pm8 cd8 ct8 oc9 kV9 dc9 pm9 cd9 ct9 oc10 kV10 dc10 pm10 cd10 ct10 oc11 kV11 dc11 pm11 cd11 ct11 oc12 kV12 dc12 pm12 cd12 ct12 oc13 kV13 dc13 pm13 cd13 ct13 oc14 kV14 dc14 pm14 cd14 ct14 oc15 kV15 dc15 pm15 cd15 ct15 oc16 kV16 dc16 pm16 cd16 ct16 oc17 kV17 dc17 pm17 cd17 ct17 oc18 kV18 dc18 pm18 cd18 ct18 oc19 kV19 dc19 pm19 cd19 ct19 oc20 kV20 dc20 pm20 cd20 ct20 oc21 kV21 dc21 pm21 cd21 ct21 oc22 kV22 dc22 pm22 cd22 ct22 oc23 kV23 dc23 pm23 cd23 ct23 oc24 kV24 dc24 pm24 cd24 ct24 oc25 kV25 dc25 pm25 cd25 ct25 oc26 kV26 dc26 pm26 cd26 ct26 oc27 kV27 dc27 pm27 cd27 ct27 oc28 kV28 dc28 pm28 cd28 ct28 oc29 kV29 dc29 pm29 cd29 ct29 oc30 kV30 dc30 pm30 cd30 ct30 oc31 kV31 dc31 pm31 cd31 ct31 oc32 kV32 dc32 pm32 cd32 ct32 oc33 kV33 dc33 pm33 cd33 ct33 oc34 kV34 dc34 pm34 cd34 ct34 oc35 kV35 dc35 pm35 cd35 ct35 oc36 kV36 dc36 pm36 cd36 ct36 : Value}
    (a0 : PySem.W.nsIn K mainGlobals "fraction" = some (some (.ref f0))) (l0 : K.lookup f0 = some ⟨oc0, od0, .func (PySem.W.fnOf "fraction" "fraction" (defArgs s_fraction) (defBody s_fraction) (defScope s_fraction) .none kV0 dc0 pm0 an0 cd0 ct0), sl0⟩) (c0 : PySem.W.codeIn K cd0 "fraction" = true) (k0 : PySem.W.keepIn K (.ref f0) = true)
    (a1 : PySem.W.nsIn K mainGlobals "plus" = some (some (.ref f1))) (l1 : K.lookup f1 = some ⟨oc1, od1, .func (PySem.W.fnOf "plus" "plus" (defArgs s_plus) (defBody s_plus) (defScope s_plus) .none kV1 dc1 pm1 an1 cd1 ct1), sl1⟩) (c1 : PySem.W.codeIn K cd1 "plus" = true) (k1 : PySem.W.keepIn K (.ref f1) = true)
    (a2 : PySem.W.nsIn K mainGlobals "minus" = some (some (.ref f2))) (l2 : K.lookup f2 = some ⟨oc2, od2, .func (PySem.W.fnOf "minus" "minus" (defArgs s_minus) (defBody s_minus) (defScope s_minus) .none kV2 dc2 pm2 an2 cd2 ct2), sl2⟩) (c2 : PySem.W.codeIn K cd2 "minus" = true) (k2 : PySem.W.keepIn K (.ref f2) = true)
    (a3 : PySem.W.nsIn K mainGlobals "times" = some (some (.ref f3))) (l3 : K.lookup f3 = some ⟨oc3, od3, .func (PySem.W.fnOf "times" "times" (defArgs s_times) (defBody s_times) (defScope s_times) .none kV3 dc3 pm3 an3 cd3 ct3), sl3⟩) (c3 : PySem.W.codeIn K cd3 "times" = true) (k3 : PySem.W.keepIn K (.ref f3) = true)
    (a4 : PySem.W.nsIn K mainGlobals "over" = some (some (.ref f4))) (l4 : K.lookup f4 = some ⟨oc4, od4, .func (PySem.W.fnOf "over" "over" (defArgs s_over) (defBody s_over) (defScope s_over) .none kV4 dc4 pm4 an4 cd4 ct4), sl4⟩) (c4 : PySem.W.codeIn K cd4 "over" = true) (k4 : PySem.W.keepIn K (.ref f4) = true)
    (a5 : PySem.W.nsIn K mainGlobals "is_less" = some (some (.ref f5))) (l5 : K.lookup f5 = some ⟨oc5, od5, .func (PySem.W.fnOf "is_less" "is_less" (defArgs s_is_less) (defBody s_is_less) (defScope s_is_less) .none kV5 dc5 pm5 an5 cd5 ct5), sl5⟩) (c5 : PySem.W.codeIn K cd5 "is_less" = true) (k5 : PySem.W.keepIn K (.ref f5) = true)
    (a6 : PySem.W.nsIn K mainGlobals "whole" = some (some (.ref f6))) (l6 : K.lookup f6 = some ⟨oc6, od6, .func (PySem.W.fnOf "whole" "whole" (defArgs s_whole) (defBody s_whole) (defScope s_whole) .none kV6 dc6 pm6 an6 cd6 ct6), sl6⟩) (c6 : PySem.W.codeIn K cd6 "whole" = true) (k6 : PySem.W.keepIn K (.ref f6) = true)
    (a7 : PySem.W.nsIn K mainGlobals "years_of" = some (some (.ref f7))) (l7 : K.lookup f7 = some ⟨oc7, od7, .func (PySem.W.fnOf "years_of" "years_of" (defArgs s_years_of) (defBody s_years_of) (defScope s_years_of) .none kV7 dc7 pm7 an7 cd7 ct7), sl7⟩) (c7 : PySem.W.codeIn K cd7 "years_of" = true) (k7 : PySem.W.keepIn K (.ref f7) = true)
    (a8 : PySem.W.nsIn K mainGlobals "years_between" = some (some (.ref f8))) (l8 : K.lookup f8 = some ⟨oc8, od8, .func (PySem.W.fnOf "years_between" "years_between" (defArgs s_years_between) (defBody s_years_between) (defScope s_years_between) .none kV8 dc8 pm8 an8 cd8 ct8), sl8⟩) (c8 : PySem.W.codeIn K cd8 "years_between" = true) (k8 : PySem.W.keepIn K (.ref f8) = true)
    (a9 : PySem.W.nsIn K mainGlobals "piece_between" = some (some (.ref f9))) (l9 : K.lookup f9 = some ⟨oc9, od9, .func (PySem.W.fnOf "piece_between" "piece_between" (defArgs s_piece_between) (defBody s_piece_between) (defScope s_piece_between) .none kV9 dc9 pm9 an9 cd9 ct9), sl9⟩) (c9 : PySem.W.codeIn K cd9 "piece_between" = true) (k9 : PySem.W.keepIn K (.ref f9) = true)
    (a10 : PySem.W.nsIn K mainGlobals "length_of" = some (some (.ref f10))) (l10 : K.lookup f10 = some ⟨oc10, od10, .func (PySem.W.fnOf "length_of" "length_of" (defArgs s_length_of) (defBody s_length_of) (defScope s_length_of) .none kV10 dc10 pm10 an10 cd10 ct10), sl10⟩) (c10 : PySem.W.codeIn K cd10 "length_of" = true) (k10 : PySem.W.keepIn K (.ref f10) = true)
    (a11 : PySem.W.nsIn K mainGlobals "both" = some (some (.ref f11))) (l11 : K.lookup f11 = some ⟨oc11, od11, .func (PySem.W.fnOf "both" "both" (defArgs s_both) (defBody s_both) (defScope s_both) .none kV11 dc11 pm11 an11 cd11 ct11), sl11⟩) (c11 : PySem.W.codeIn K cd11 "both" = true) (k11 : PySem.W.keepIn K (.ref f11) = true)
    (a12 : PySem.W.nsIn K mainGlobals "dated" = some (some (.ref f12))) (l12 : K.lookup f12 = some ⟨oc12, od12, .func (PySem.W.fnOf "dated" "dated" (defArgs s_dated) (defBody s_dated) (defScope s_dated) .none kV12 dc12 pm12 an12 cd12 ct12), sl12⟩) (c12 : PySem.W.codeIn K cd12 "dated" = true) (k12 : PySem.W.keepIn K (.ref f12) = true)
    (a13 : PySem.W.nsIn K mainGlobals "worst_value" = some (some (.ref f13))) (l13 : K.lookup f13 = some ⟨oc13, od13, .func (PySem.W.fnOf "worst_value" "worst_value" (defArgs s_worst_value) (defBody s_worst_value) (defScope s_worst_value) .none kV13 dc13 pm13 an13 cd13 ct13), sl13⟩) (c13 : PySem.W.codeIn K cd13 "worst_value" = true) (k13 : PySem.W.keepIn K (.ref f13) = true)
    (a14 : PySem.W.nsIn K mainGlobals "middle_year" = some (some (.ref f14))) (l14 : K.lookup f14 = some ⟨oc14, od14, .func (PySem.W.fnOf "middle_year" "middle_year" (defArgs s_middle_year) (defBody s_middle_year) (defScope s_middle_year) .none kV14 dc14 pm14 an14 cd14 ct14), sl14⟩) (c14 : PySem.W.codeIn K cd14 "middle_year" = true) (k14 : PySem.W.keepIn K (.ref f14) = true)
    (a15 : PySem.W.nsIn K mainGlobals "_law_cell" = some (some (.ref f15))) (l15 : K.lookup f15 = some ⟨oc15, od15, .func (PySem.W.fnOf "_law_cell" "_law_cell" (defArgs s_law_cell) (defBody s_law_cell) (defScope s_law_cell) .none kV15 dc15 pm15 an15 cd15 ct15), sl15⟩) (c15 : PySem.W.codeIn K cd15 "_law_cell" = true) (k15 : PySem.W.keepIn K (.ref f15) = true)
    (a16 : PySem.W.nsIn K mainGlobals "_law_digits" = some (some (.ref f16))) (l16 : K.lookup f16 = some ⟨oc16, od16, .func (PySem.W.fnOf "_law_digits" "_law_digits" (defArgs s_law_digits) (defBody s_law_digits) (defScope s_law_digits) .none kV16 dc16 pm16 an16 cd16 ct16), sl16⟩) (c16 : PySem.W.codeIn K cd16 "_law_digits" = true) (k16 : PySem.W.keepIn K (.ref f16) = true)
    (a17 : PySem.W.nsIn K mainGlobals "_law_draw" = some (some (.ref f17))) (l17 : K.lookup f17 = some ⟨oc17, od17, .func (PySem.W.fnOf "_law_draw" "_law_draw" (defArgs s_law_draw) (defBody s_law_draw) (defScope s_law_draw) .none kV17 dc17 pm17 an17 cd17 ct17), sl17⟩) (c17 : PySem.W.codeIn K cd17 "_law_draw" = true) (k17 : PySem.W.keepIn K (.ref f17) = true)
    (a18 : PySem.W.nsIn K mainGlobals "_law_pick" = some (some (.ref f18))) (l18 : K.lookup f18 = some ⟨oc18, od18, .func (PySem.W.fnOf "_law_pick" "_law_pick" (defArgs s_law_pick) (defBody s_law_pick) (defScope s_law_pick) .none kV18 dc18 pm18 an18 cd18 ct18), sl18⟩) (c18 : PySem.W.codeIn K cd18 "_law_pick" = true) (k18 : PySem.W.keepIn K (.ref f18) = true)
    (a19 : PySem.W.nsIn K mainGlobals "_law_same" = some (some (.ref f19))) (l19 : K.lookup f19 = some ⟨oc19, od19, .func (PySem.W.fnOf "_law_same" "_law_same" (defArgs s_law_same) (defBody s_law_same) (defScope s_law_same) .none kV19 dc19 pm19 an19 cd19 ct19), sl19⟩) (c19 : PySem.W.codeIn K cd19 "_law_same" = true) (k19 : PySem.W.keepIn K (.ref f19) = true)
    (a20 : PySem.W.nsIn K mainGlobals "_law_spoil" = some (some (.ref f20))) (l20 : K.lookup f20 = some ⟨oc20, od20, .func (PySem.W.fnOf "_law_spoil" "_law_spoil" (defArgs s_law_spoil) (defBody s_law_spoil) (defScope s_law_spoil) .none kV20 dc20 pm20 an20 cd20 ct20), sl20⟩) (c20 : PySem.W.codeIn K cd20 "_law_spoil" = true) (k20 : PySem.W.keepIn K (.ref f20) = true)
    (a21 : PySem.W.nsIn K mainGlobals "_law_twice" = some (some (.ref f21))) (l21 : K.lookup f21 = some ⟨oc21, od21, .func (PySem.W.fnOf "_law_twice" "_law_twice" (defArgs s_law_twice) (defBody s_law_twice) (defScope s_law_twice) .none kV21 dc21 pm21 an21 cd21 ct21), sl21⟩) (c21 : PySem.W.codeIn K cd21 "_law_twice" = true) (k21 : PySem.W.keepIn K (.ref f21) = true)
    (a22 : PySem.W.nsIn K mainGlobals "_law_low" = some (some (.ref f22))) (l22 : K.lookup f22 = some ⟨oc22, od22, .func (PySem.W.fnOf "_law_low" "_law_low" (defArgs s_law_low) (defBody s_law_low) (defScope s_law_low) .none kV22 dc22 pm22 an22 cd22 ct22), sl22⟩) (c22 : PySem.W.codeIn K cd22 "_law_low" = true) (k22 : PySem.W.keepIn K (.ref f22) = true)
    (a23 : PySem.W.nsIn K mainGlobals "_law_curve" = some (some (.ref f23))) (l23 : K.lookup f23 = some ⟨oc23, od23, .func (PySem.W.fnOf "_law_curve" "_law_curve" (defArgs s_law_curve) (defBody s_law_curve) (defScope s_law_curve) .none kV23 dc23 pm23 an23 cd23 ct23), sl23⟩) (c23 : PySem.W.codeIn K cd23 "_law_curve" = true) (k23 : PySem.W.keepIn K (.ref f23) = true)
    (a24 : PySem.W.nsIn K mainGlobals "_law_less" = some (some (.ref f24))) (l24 : K.lookup f24 = some ⟨oc24, od24, .func (PySem.W.fnOf "_law_less" "_law_less" (defArgs s_law_less) (defBody s_law_less) (defScope s_law_less) .none kV24 dc24 pm24 an24 cd24 ct24), sl24⟩) (c24 : PySem.W.codeIn K cd24 "_law_less" = true) (k24 : PySem.W.keepIn K (.ref f24) = true)
    (a25 : PySem.W.nsIn K mainGlobals "_law_value" = some (some (.ref f25))) (l25 : K.lookup f25 = some ⟨oc25, od25, .func (PySem.W.fnOf "_law_value" "_law_value" (defArgs s_law_value) (defBody s_law_value) (defScope s_law_value) .none kV25 dc25 pm25 an25 cd25 ct25), sl25⟩) (c25 : PySem.W.codeIn K cd25 "_law_value" = true) (k25 : PySem.W.keepIn K (.ref f25) = true)
    (a26 : PySem.W.nsIn K mainGlobals "_law_cuts" = some (some (.ref f26))) (l26 : K.lookup f26 = some ⟨oc26, od26, .func (PySem.W.fnOf "_law_cuts" "_law_cuts" (defArgs s_law_cuts) (defBody s_law_cuts) (defScope s_law_cuts) .none kV26 dc26 pm26 an26 cd26 ct26), sl26⟩) (c26 : PySem.W.codeIn K cd26 "_law_cuts" = true) (k26 : PySem.W.keepIn K (.ref f26) = true)
    (a27 : PySem.W.nsIn K mainGlobals "_law_stretches" = some (some (.ref f27))) (l27 : K.lookup f27 = some ⟨oc27, od27, .func (PySem.W.fnOf "_law_stretches" "_law_stretches" (defArgs s_law_stretches) (defBody s_law_stretches) (defScope s_law_stretches) .none kV27 dc27 pm27 an27 cd27 ct27), sl27⟩) (c27 : PySem.W.codeIn K cd27 "_law_stretches" = true) (k27 : PySem.W.keepIn K (.ref f27) = true)
    (a28 : PySem.W.nsIn K mainGlobals "_law_in" = some (some (.ref f28))) (l28 : K.lookup f28 = some ⟨oc28, od28, .func (PySem.W.fnOf "_law_in" "_law_in" (defArgs s_law_in) (defBody s_law_in) (defScope s_law_in) .none kV28 dc28 pm28 an28 cd28 ct28), sl28⟩) (c28 : PySem.W.codeIn K cd28 "_law_in" = true) (k28 : PySem.W.keepIn K (.ref f28) = true)
    (a29 : PySem.W.nsIn K mainGlobals "_law_samples_fit" = some (some (.ref f29))) (l29 : K.lookup f29 = some ⟨oc29, od29, .func (PySem.W.fnOf "_law_samples_fit" "_law_samples_fit" (defArgs s_law_samples_fit) (defBody s_law_samples_fit) (defScope s_law_samples_fit) .none kV29 dc29 pm29 an29 cd29 ct29), sl29⟩) (c29 : PySem.W.codeIn K cd29 "_law_samples_fit" = true) (k29 : PySem.W.keepIn K (.ref f29) = true)
    (a30 : PySem.W.nsIn K mainGlobals "_law_drawn" = some (some (.ref f30))) (l30 : K.lookup f30 = some ⟨oc30, od30, .func (PySem.W.fnOf "_law_drawn" "_law_drawn" (defArgs s_law_drawn) (defBody s_law_drawn) (defScope s_law_drawn) .none kV30 dc30 pm30 an30 cd30 ct30), sl30⟩) (c30 : PySem.W.codeIn K cd30 "_law_drawn" = true) (k30 : PySem.W.keepIn K (.ref f30) = true)
    (a31 : PySem.W.nsIn K mainGlobals "_law_told" = some (some (.ref f31))) (l31 : K.lookup f31 = some ⟨oc31, od31, .func (PySem.W.fnOf "_law_told" "_law_told" (defArgs s_law_told) (defBody s_law_told) (defScope s_law_told) .none kV31 dc31 pm31 an31 cd31 ct31), sl31⟩) (c31 : PySem.W.codeIn K cd31 "_law_told" = true) (k31 : PySem.W.keepIn K (.ref f31) = true)
    (a32 : PySem.W.nsIn K mainGlobals "_law_in_lot" = some (some (.ref f32))) (l32 : K.lookup f32 = some ⟨oc32, od32, .func (PySem.W.fnOf "_law_in_lot" "_law_in_lot" (defArgs s_law_in_lot) (defBody s_law_in_lot) (defScope s_law_in_lot) .none kV32 dc32 pm32 an32 cd32 ct32), sl32⟩) (c32 : PySem.W.codeIn K cd32 "_law_in_lot" = true) (k32 : PySem.W.keepIn K (.ref f32) = true)
    (a33 : PySem.W.nsIn K mainGlobals "_law_both" = some (some (.ref f33))) (l33 : K.lookup f33 = some ⟨oc33, od33, .func (PySem.W.fnOf "_law_both" "_law_both" (defArgs s_law_both) (defBody s_law_both) (defScope s_law_both) .none kV33 dc33 pm33 an33 cd33 ct33), sl33⟩) (c33 : PySem.W.codeIn K cd33 "_law_both" = true) (k33 : PySem.W.keepIn K (.ref f33) = true)
    (a34 : PySem.W.nsIn K mainGlobals "_law_middle" = some (some (.ref f34))) (l34 : K.lookup f34 = some ⟨oc34, od34, .func (PySem.W.fnOf "_law_middle" "_law_middle" (defArgs s_law_middle) (defBody s_law_middle) (defScope s_law_middle) .none kV34 dc34 pm34 an34 cd34 ct34), sl34⟩) (c34 : PySem.W.codeIn K cd34 "_law_middle" = true) (k34 : PySem.W.keepIn K (.ref f34) = true)
    (a35 : PySem.W.nsIn K mainGlobals "_law_lists_fit" = some (some (.ref f35))) (l35 : K.lookup f35 = some ⟨oc35, od35, .func (PySem.W.fnOf "_law_lists_fit" "_law_lists_fit" (defArgs s_law_lists_fit) (defBody s_law_lists_fit) (defScope s_law_lists_fit) .none kV35 dc35 pm35 an35 cd35 ct35), sl35⟩) (c35 : PySem.W.codeIn K cd35 "_law_lists_fit" = true) (k35 : PySem.W.keepIn K (.ref f35) = true)
    (a36 : PySem.W.nsIn K mainGlobals "law" = some (some (.ref f36))) (l36 : K.lookup f36 = some ⟨oc36, od36, .func (PySem.W.fnOf "law" "law" (defArgs s_law) (defBody s_law) (defScope s_law) .none kV36 dc36 pm36 an36 cd36 ct36), sl36⟩) (c36 : PySem.W.codeIn K cd36 "law" = true) (k36 : PySem.W.keepIn K (.ref f36) = true)
    (z_abs : PySem.W.nsIn K mainGlobals "abs" = some none)
    (z_bool : PySem.W.nsIn K mainGlobals "bool" = some none)
    (z_int : PySem.W.nsIn K mainGlobals "int" = some none)
    (z_isinstance : PySem.W.nsIn K mainGlobals "isinstance" = some none)
    (z_len : PySem.W.nsIn K mainGlobals "len" = some none)
    (z_list : PySem.W.nsIn K mainGlobals "list" = some none)
    (z_max : PySem.W.nsIn K mainGlobals "max" = some none)
    (z_min : PySem.W.nsIn K mainGlobals "min" = some none)
    (z_range : PySem.W.nsIn K mainGlobals "range" = some none)
    (z_repr : PySem.W.nsIn K mainGlobals "repr" = some none)
    (z_str : PySem.W.nsIn K mainGlobals "str" = some none)
    (z_sum : PySem.W.nsIn K mainGlobals "sum" = some none)
    (z_tuple : PySem.W.nsIn K mainGlobals "tuple" = some none)
    (z_zip : PySem.W.nsIn K mainGlobals "zip" = some none)
    (z_gcd : PySem.W.nsIn K mainGlobals "gcd" = some (some (.builtin "math.gcd")))
    : ∃ fd : FuncData, (∀ (s : Shared) (v : Value), BindsTo s fd ⟨[v], []⟩ [("script", v)]) ∧ ∀ base : Heap, K.In base → base.Ns mainGlobals mg → FnOk l.prog w K mg base CX0 11 fa fd ["script"] (spL K) := by
  have T : Top K mg := ⟨PySem.W.mg_none_of X G z_abs, PySem.W.mg_none_of X G z_bool, PySem.W.mg_none_of X G z_int, PySem.W.mg_none_of X G z_isinstance, PySem.W.mg_none_of X G z_len, PySem.W.mg_none_of X G z_list, PySem.W.mg_none_of X G z_max, PySem.W.mg_none_of X G z_min, PySem.W.mg_none_of X G z_range, PySem.W.mg_none_of X G z_repr, PySem.W.mg_none_of X G z_str, PySem.W.mg_none_of X G z_sum, PySem.W.mg_none_of X G z_tuple, PySem.W.mg_none_of X G z_zip, PySem.W.mg_of X G z_gcd, fn_top X G a0 l0 c0 k0 (fun _ _ _ _ _ _ us hl => match us, hl with | [_, _], _ => rfl), fn_top X G a1 l1 c1 k1 (fun _ _ _ _ _ _ us hl => match us, hl with | [_, _], _ => rfl), fn_top X G a2 l2 c2 k2 (fun _ _ _ _ _ _ us hl => match us, hl with | [_, _], _ => rfl), fn_top X G a3 l3 c3 k3 (fun _ _ _ _ _ _ us hl => match us, hl with | [_, _], _ => rfl), fn_top X G a4 l4 c4 k4 (fun _ _ _ _ _ _ us hl => match us, hl with | [_, _], _ => rfl), fn_top X G a5 l5 c5 k5 (fun _ _ _ _ _ _ us hl => match us, hl with | [_, _], _ => rfl), fn_top X G a6 l6 c6 k6 (fun _ _ _ _ _ _ us hl => match us, hl with | [_], _ => rfl), fn_top X G a7 l7 c7 k7 (fun _ _ _ _ _ _ us hl => match us, hl with | [_, _], _ => rfl), fn_top X G a8 l8 c8 k8 (fun _ _ _ _ _ _ us hl => match us, hl with | [_, _, _], _ => rfl), fn_top X G a9 l9 c9 k9 (fun _ _ _ _ _ _ us hl => match us, hl with | [_, _, _, _, _, _], _ => rfl), fn_top X G a10 l10 c10 k10 (fun _ _ _ _ _ _ us hl => match us, hl with | [_], _ => rfl), fn_top X G a11 l11 c11 k11 (fun _ _ _ _ _ _ us hl => match us, hl with | [_, _], _ => rfl), fn_top X G a12 l12 c12 k12 (fun _ _ _ _ _ _ us hl => match us, hl with | [_, _], _ => rfl), fn_top X G a13 l13 c13 k13 (fun _ _ _ _ _ _ us hl => match us, hl with | [_], _ => rfl), fn_top X G a14 l14 c14 k14 (fun _ _ _ _ _ _ us hl => match us, hl with | [_], _ => rfl), fn_top X G a15 l15 c15 k15 (fun _ _ _ _ _ _ us hl => match us, hl with | [_, _], _ => rfl), fn_top X G a16 l16 c16 k16 (fun _ _ _ _ _ _ us hl => match us, hl with | [_, _, _], _ => rfl), fn_top X G a17 l17 c17 k17 (fun _ _ _ _ _ _ us hl => match us, hl with | [_, _], _ => rfl), fn_top X G a18 l18 c18 k18 (fun _ _ _ _ _ _ us hl => match us, hl with | [_, _], _ => rfl), fn_top X G a19 l19 c19 k19 (fun _ _ _ _ _ _ us hl => match us, hl with | [_, _], _ => rfl), fn_top X G a20 l20 c20 k20 (fun _ _ _ _ _ _ us hl => match us, hl with | [_], _ => rfl), fn_top X G a21 l21 c21 k21 (fun _ _ _ _ _ _ us hl => match us, hl with | [_, _, _], _ => rfl), fn_top X G a22 l22 c22 k22 (fun _ _ _ _ _ _ us hl => match us, hl with | [_, _], _ => rfl), fn_top X G a23 l23 c23 k23 (fun _ _ _ _ _ _ us hl => match us, hl with | [_], _ => rfl), fn_top X G a24 l24 c24 k24 (fun _ _ _ _ _ _ us hl => match us, hl with | [_, _], _ => rfl), fn_top X G a25 l25 c25 k25 (fun _ _ _ _ _ _ us hl => match us, hl with | [_, _], _ => rfl), fn_top X G a26 l26 c26 k26 (fun _ _ _ _ _ _ us hl => match us, hl with | [_, _], _ => rfl), fn_top X G a27 l27 c27 k27 (fun _ _ _ _ _ _ us hl => match us, hl with | [_, _], _ => rfl), fn_top X G a28 l28 c28 k28 (fun _ _ _ _ _ _ us hl => match us, hl with | [_, _], _ => rfl), fn_top X G a29 l29 c29 k29 (fun _ _ _ _ _ _ us hl => match us, hl with | [_], _ => rfl), fn_top X G a30 l30 c30 k30 (fun _ _ _ _ _ _ us hl => match us, hl with | [_, _], _ => rfl), fn_top X G a31 l31 c31 k31 (fun _ _ _ _ _ _ us hl => match us, hl with | [_], _ => rfl), fn_top X G a32 l32 c32 k32 (fun _ _ _ _ _ _ us hl => match us, hl with | [_, _], _ => rfl), fn_top X G a33 l33 c33 k33 (fun _ _ _ _ _ _ us hl => match us, hl with | [_, _], _ => rfl), fn_top X G a34 l34 c34 k34 (fun _ _ _ _ _ _ us hl => match us, hl with | [_], _ => rfl), fn_top X G a35 l35 c35 k35 (fun _ _ _ _ _ _ us hl => match us, hl with | [_], _ => rfl), fn_top X G a36 l36 c36 k36 (fun _ _ _ _ _ _ us hl => match us, hl with | [_], _ => rfl)⟩
  have e := hfa.symm.trans (PySem.W.mg_of X G a36)
  cases e
  exact ⟨_, fun s v => .of_eq rfl, fun base _ _ => law_end (all_ok T) hF hfa l36⟩
end Lk18
end
section
set_option Elab.async false
set_option linter.all false
set_option maxHeartbeats 4000000
open PySem Mv
namespace Lk18
/-! lists of stretches -/
abbrev St := List (Rat × Rat)
def inL (L : St) (t : Rat) : Prop := ∃ e ∈ L, e.1 ≤ t ∧ t ≤ e.2
def Can (L : St) : Prop := (∀ e ∈ L, e.1 ≤ e.2) ∧ L.Pairwise fun e f => e.2 < f.1
theorem can_nil : Can [] := ⟨fun _ h => absurd h List.not_mem_nil, List.Pairwise.nil⟩
theorem can_cons {e : Rat × Rat} {L : St} : Can (e :: L) ↔ e.1 ≤ e.2 ∧ (∀ f ∈ L, e.2 < f.1) ∧ Can L := by
  unfold Can
  rw [List.pairwise_cons]
  constructor
  · rintro ⟨h1, h2, h3⟩
    exact ⟨h1 e List.mem_cons_self, h2, fun f hf => h1 f (List.mem_cons_of_mem _ hf), h3⟩
  · rintro ⟨h1, h2, h3, h4⟩
    refine ⟨fun f hf => ?_, h2, h4⟩
    rcases List.mem_cons.mp hf with rfl | hf
    · exact h1
    · exact h3 f hf
theorem mid_between {a b : Rat} (h : a < b) : ∃ m, a < m ∧ m < b := ⟨(a + b) / 2, by grind, by grind⟩
theorem uniq : ∀ {L M : St}, Can L → Can M → (∀ t, inL L t ↔ inL M t) → L = M
  | [], [], _, _, _ => rfl
  | [], (s, t) :: M, _, hM, h => by
    have h1 := (can_cons.mp hM).1
    have : inL [] s := (h s).mpr ⟨(s, t), List.mem_cons_self, by grind, h1⟩
    obtain ⟨e, he, _⟩ := this
    exact absurd he List.not_mem_nil
  | (s, t) :: L, [], hL, _, h => by
    have h1 := (can_cons.mp hL).1
    have : inL [] s := (h s).mp ⟨(s, t), List.mem_cons_self, by grind, h1⟩
    obtain ⟨e, he, _⟩ := this
    exact absurd he List.not_mem_nil
  | (s, t) :: L, (s', t') :: M, hL, hM, h => by
    obtain ⟨l1, l2, l3⟩ := can_cons.mp hL
    obtain ⟨m1, m2, m3⟩ := can_cons.mp hM
    have l1 : s ≤ t := l1
    have m1 : s' ≤ t' := m1
    have l2 : ∀ f ∈ L, t < f.1 := l2
    have m2 : ∀ f ∈ M, t' < f.1 := m2
    have low : ∀ {s t : Rat} {L : St}, s ≤ t → (∀ f ∈ L, t < f.1) → ∀ u, inL ((s, t) :: L) u → s ≤ u := by
      rintro s t L h1 h2 u ⟨e, he, k1, k2⟩
      rcases List.mem_cons.mp he with rfl | he
      · exact k1
      · have := h2 e he; grind
    have es : s = s' := by
      have a := low m1 m2 s ((h s).mp ⟨(s, t), List.mem_cons_self, by grind, l1⟩)
      have b := low l1 l2 s' ((h s').mpr ⟨(s', t'), List.mem_cons_self, by grind, m1⟩)
      grind
    subst es
    -- the end is the same
    have key : ∀ {t t' : Rat} {L M : St}, s ≤ t → (∀ f ∈ L, t < f.1) → (L.Pairwise fun e f => e.2 < f.1) → (∀ e ∈ L, e.1 ≤ e.2) → s ≤ t' → (∀ u, inL ((s, t') :: M) u → inL ((s, t) :: L) u) → t' ≤ t := by
      intro t t' L M h1 h2 hp he1 h3 h4
      by_cases c : t' ≤ t
      · exact c
      · exfalso
        have c : t < t' := by grind
        cases L with
        | nil =>
          obtain ⟨m, k1, k2⟩ := mid_between c
          obtain ⟨e, he, q1, q2⟩ := h4 m ⟨(s, t'), List.mem_cons_self, by grind, by grind⟩
          rcases List.mem_cons.mp he with rfl | he
          · grind
          · exact absurd he List.not_mem_nil
        | cons f L =>
          have hf := h2 f List.mem_cons_self
          have : ∃ m, t < m ∧ m < t' ∧ m < f.1 := by
            by_cases cf : f.1 ≤ t'
            · obtain ⟨m, k1, k2⟩ := mid_between hf
              exact ⟨m, k1, by grind, k2⟩
            · obtain ⟨m, k1, k2⟩ := mid_between c
              exact ⟨m, k1, k2, by grind⟩
          obtain ⟨m, k1, k2, k3⟩ := this
          obtain ⟨e, he, q1, q2⟩ := h4 m ⟨(s, t'), List.mem_cons_self, by grind, by grind⟩
          rcases List.mem_cons.mp he with rfl | he
          · grind
          · rcases List.mem_cons.mp he with rfl | he
            · grind
            · have r1 := (List.pairwise_cons.mp hp).1 e he
              have r2 := he1 f List.mem_cons_self
              grind
    have et : t = t' := by
      have a := key l1 l2 l3.2 l3.1 m1 fun u hu => (h u).mpr hu
      have b := key m1 m2 m3.2 m3.1 l1 fun u hu => (h u).mp hu
      grind
    subst et
    have : L = M := uniq l3 m3 fun u => by
      have hu := h u
      have side : ∀ {L : St}, (∀ f ∈ L, t < f.1) → (inL L u ↔ (inL ((s, t) :: L) u ∧ t < u)) := by
        intro L h2
        constructor
        · rintro ⟨e, he, k1, k2⟩
          have := h2 e he
          exact ⟨⟨e, List.mem_cons_of_mem _ he, k1, k2⟩, by grind⟩
        · rintro ⟨⟨e, he, k1, k2⟩, k3⟩
          rcases List.mem_cons.mp he with rfl | he
          · exfalso; have k2 : u ≤ t := k2; grind
          · exact ⟨e, he, k1, k2⟩
      rw [side l2, side m2, hu]
    rw [this]
/-- snoc -/
theorem can_snoc {L : St} {a b : Rat} (h : Can L) (hab : a ≤ b) (hl : ∀ e ∈ L, e.2 < a) : Can (L ++ [(a, b)]) := by
  refine ⟨fun e he => ?_, ?_⟩
  · rcases List.mem_append.mp he with he | he
    · exact h.1 e he
    · rw [List.mem_singleton.mp he]; exact hab
  · rw [List.pairwise_append]
    refine ⟨h.2, List.pairwise_singleton _ _, fun e he f hf => ?_⟩
    rw [List.mem_singleton.mp hf]
    exact hl e he
theorem inL_snoc {L : St} {a b u : Rat} : inL (L ++ [(a, b)]) u ↔ inL L u ∨ (a ≤ u ∧ u ≤ b) := by
  constructor
  · rintro ⟨e, he, k1, k2⟩
    rcases List.mem_append.mp he with he | he
    · exact .inl ⟨e, he, k1, k2⟩
    · rw [List.mem_singleton.mp he] at k1 k2; exact .inr ⟨k1, k2⟩
  · rintro (⟨e, he, k1, k2⟩ | ⟨k1, k2⟩)
    · exact ⟨e, List.mem_append_left _ he, k1, k2⟩
    · exact ⟨(a, b), List.mem_append_right _ (List.mem_singleton.mpr rfl), k1, k2⟩
/-- a piece put in: grown onto the last one, or behind it -/
def putIn (L : St) (a b : Rat) : St := match L.getLast? with
  | some e => if e.2 = a then L.dropLast ++ [(e.1, b)] else L ++ [(a, b)]
  | none => [(a, b)]
theorem put_ok {L : St} {a b x : Rat} (h : Can L) (hab : a ≤ b) (hx : x ≤ a) (hl : ∀ e ∈ L, e.2 ≤ x) : Can (putIn L a b) ∧ (∀ u, inL (putIn L a b) u ↔ inL L u ∨ (a ≤ u ∧ u ≤ b)) ∧ ∀ e ∈ putIn L a b, e.2 ≤ x ∨ e.2 = b := by
  unfold putIn
  cases hL : L.getLast? with
  | none =>
    rw [List.getLast?_eq_none_iff] at hL
    subst hL
    exact ⟨can_snoc can_nil hab (fun _ h => absurd h List.not_mem_nil), fun u => inL_snoc (L := []), fun e he => by rw [List.mem_singleton.mp he]; exact .inr rfl⟩
  | some e =>
    obtain ⟨s, t⟩ := e
    have hne : L ≠ [] := fun z => by rw [z] at hL; cases hL
    have hsp : L = L.dropLast ++ [(s, t)] := by
      rw [List.getLast?_eq_some_getLast hne] at hL
      have := List.dropLast_concat_getLast hne
      rw [Option.some.inj hL] at this
      exact this.symm
    generalize L.dropLast = R at *
    subst hsp
    have hst : s ≤ t := h.1 (s, t) (List.mem_append_right _ (List.mem_singleton.mpr rfl))
    have htx : t ≤ x := hl (s, t) (List.mem_append_right _ (List.mem_singleton.mpr rfl))
    have hp := List.pairwise_append.mp h.2
    have hR : Can R := ⟨fun e he => h.1 e (List.mem_append_left _ he), hp.1⟩
    have hRs : ∀ e ∈ R, e.2 < s := fun e he => hp.2.2 e he (s, t) (List.mem_singleton.mpr rfl)
    show Can (if t = a then _ else _) ∧ (∀ u, inL (if t = a then _ else _) u ↔ _) ∧ ∀ e ∈ (if t = a then _ else _), _
    by_cases c : t = a
    · subst c
      rw [if_pos rfl]
      refine ⟨can_snoc hR (by show s ≤ b; grind) hRs, fun u => ?_, fun e he => ?_⟩
      · show inL (R ++ [(s, b)]) u ↔ _
        rw [inL_snoc, inL_snoc]
        grind
      · rcases List.mem_append.mp he with he | he
        · exact .inl (hl e (List.mem_append_left _ he))
        · rw [List.mem_singleton.mp he]; exact .inr rfl
    · rw [if_neg c]
      refine ⟨can_snoc h hab fun e he => ?_, fun u => inL_snoc, fun e he => ?_⟩
      · rcases List.mem_append.mp he with he | he
        · have := hRs e he; grind
        · rw [List.mem_singleton.mp he]; show t < a; grind
      · rcases List.mem_append.mp he with he | he
        · exact .inl (hl e he)
        · rw [List.mem_singleton.mp he]; exact .inr rfl
/-! curves -/
abbrev Cu := List (Int × Int)
def xI (l : Cu) (i : Nat) : Int := (l.getD i (0, 0)).1
def vI (l : Cu) (i : Nat) : Int := (l.getD i (0, 0)).2
structure Curve (l : Cu) : Prop where
  n1 : 2 ≤ l.length
  n2 : l.length ≤ 7
  up : ∀ i, i + 1 < l.length → xI l i < xI l (i + 1)
  xb : ∀ i, i < l.length → -200 ≤ xI l i ∧ xI l i ≤ 400
  vb : ∀ i, i < l.length → -32768 ≤ vI l i ∧ vI l i ≤ 32768
theorem x_mono {l : Cu} (h : Curve l) : ∀ {i j : Nat}, i < j → j < l.length → xI l i < xI l j := by
  intro i j hij hj
  induction j with
  | zero => omega
  | succ j ih =>
    by_cases c : i = j
    · subst c; exact h.up i hj
    · have := ih (by omega) (by omega); have := h.up j hj; omega
def lin (l : Cu) (k : Nat) (t : Rat) : Rat := (vI l k : Rat) + (t - (xI l k : Rat)) / ((xI l (k + 1) - xI l k : Int) : Rat) * ((vI l (k + 1) - vI l k : Int) : Rat)
/-- t is on the piece from point k to point k + 1 -/
def On (l : Cu) (k : Nat) (t : Rat) : Prop := k + 1 < l.length ∧ (xI l k : Rat) ≤ t ∧ t ≤ (xI l (k + 1) : Rat)
theorem lin_left {l : Cu} {k : Nat} : lin l k (xI l k : Rat) = (vI l k : Rat) := by unfold lin; grind
theorem sz_ne {l : Cu} (h : Curve l) {k : Nat} (hk : k + 1 < l.length) : (0 : Rat) < ((xI l (k + 1) - xI l k : Int) : Rat) := Rat.intCast_pos.mpr (by have := h.up k hk; omega)
theorem lin_right {l : Cu} (h : Curve l) {k : Nat} (hk : k + 1 < l.length) : lin l k (xI l (k + 1) : Rat) = (vI l (k + 1) : Rat) := by
  have h1 := sz_ne h hk
  unfold lin
  rw [Rat.intCast_sub] at *
  rw [Rat.intCast_sub]
  generalize (xI l (k + 1) : Rat) = a at *
  generalize (xI l k : Rat) = b at *
  grind
theorem lin_same {l : Cu} (h : Curve l) {j k : Nat} {t : Rat} (hj : On l j t) (hk : On l k t) : lin l j t = lin l k t := by
  have key : ∀ {j k : Nat}, j < k → On l j t → On l k t → lin l j t = lin l k t := by
    intro j k hjk hj hk
    by_cases c : j + 1 = k
    · subst c
      have e : t = (xI l (j + 1) : Rat) := by have := hj.2.2; have := hk.2.1; grind
      rw [e, lin_right h hj.1, lin_left]
    · exfalso
      have h1 := x_mono h (show j + 1 < k by omega) (by have := hk.1; omega)
      have h2 : (xI l (j + 1) : Rat) < (xI l k : Rat) := Rat.intCast_lt_intCast.mpr h1
      have := hj.2.2
      have := hk.2.1
      grind
  rcases Nat.lt_trichotomy j k with c | c | c
  · exact key c hj hk
  · rw [c]
  · exact (key c hk hj).symm
def inS (l : Cu) (lo hi : Rat) (n : Nat) (t : Rat) : Prop := ∃ k, k < n ∧ On l k t ∧ lo ≤ lin l k t ∧ lin l k t ≤ hi
end Lk18
end
section
set_option Elab.async false
set_option linter.all false
set_option maxHeartbeats 4000000
open PySem Mv
namespace Lk18
theorem seg_of {l : Cu} (h : Curve l) {t : Rat} (h0 : (xI l 0 : Rat) ≤ t) : ∀ {m : Nat}, m < l.length → 1 ≤ m → t ≤ (xI l m : Rat) → ∃ k, k < m ∧ On l k t := by
  intro m
  induction m with
  | zero => intro _ h _; omega
  | succ m ih =>
    intro hm _ ht
    by_cases c : t ≤ (xI l m : Rat)
    · by_cases z : m = 0
      · subst z
        exact ⟨0, by omega, by omega, h0, ht⟩
      · obtain ⟨k, hk, ho⟩ := ih (by omega) (by omega) c
        exact ⟨k, by omega, ho⟩
    · exact ⟨m, by omega, hm, by grind, ht⟩
/-- slope -/
def slope (l : Cu) (k : Nat) : Rat := ((vI l (k + 1) - vI l k : Int) : Rat) / ((xI l (k + 1) - xI l k : Int) : Rat)
theorem lin_slope {l : Cu} {k : Nat} {t : Rat} : lin l k t = (vI l k : Rat) + (t - (xI l k : Rat)) * slope l k := by
  unfold lin slope; grind
/-- no crossing inside: the side is kept -/
theorem side_ge {l : Cu} {k : Nat} {c c' lv t1 t2 : Rat} (hn : ∀ t, c < t → t < c' → lin l k t ≠ lv ∨ slope l k = 0) (h1 : c < t1) (h2 : t1 < c') (h3 : c ≤ t2) (h4 : t2 ≤ c') (h : lv ≤ lin l k t1) : lv ≤ lin l k t2 := by
  by_cases hs : slope l k = 0
  · rw [lin_slope, hs] at h
    rw [lin_slope, hs]; grind
  · by_cases g : lv ≤ lin l k t2
    · exact g
    · exfalso
      have n1 := hn t1 h1 h2
      have e1 := lin_slope (l := l) (k := k) (t := t1)
      have e2 := lin_slope (l := l) (k := k) (t := t2)
      have hstar : lin l k ((xI l k : Rat) + (lv - (vI l k : Rat)) / slope l k) = lv := by rw [lin_slope]; grind
      have nn := hn ((xI l k : Rat) + (lv - (vI l k : Rat)) / slope l k)
      generalize hS : (xI l k : Rat) + (lv - (vI l k : Rat)) / slope l k = ts at *
      have es := lin_slope (l := l) (k := k) (t := ts)
      generalize slope l k = s at *
      generalize (xI l k : Rat) = X at *
      generalize (vI l k : Rat) = V at *
      generalize lin l k t1 = y1 at *
      generalize lin l k t2 = y2 at *
      generalize lin l k ts = ys at *
      have d1 : (t1 - ts) * s > 0 := by grind
      have d2 : (ts - t2) * s > 0 := by grind
      rcases (show s < 0 ∨ 0 < s by grind) with c1 | c1
      · have a1 : t1 < ts := by
          by_cases q : t1 < ts
          · exact q
          · exfalso
            have : 0 ≤ t1 - ts := by grind
            have := Rat.mul_nonneg this (show (0 : Rat) ≤ -s by grind)
            grind
        have a2 : ts < t2 := by
          by_cases q : ts < t2
          · exact q
          · exfalso
            have : 0 ≤ ts - t2 := by grind
            have := Rat.mul_nonneg this (show (0 : Rat) ≤ -s by grind)
            grind
        have := nn (by grind) (by grind)
        grind
      · have a1 : ts < t1 := by
          by_cases q : ts < t1
          · exact q
          · exfalso
            have : 0 ≤ ts - t1 := by grind
            have := Rat.mul_nonneg this (show (0 : Rat) ≤ s by grind)
            grind
        have a2 : t2 < ts := by
          by_cases q : t2 < ts
          · exact q
          · exfalso
            have : 0 ≤ t2 - ts := by grind
            have := Rat.mul_nonneg this (show (0 : Rat) ≤ s by grind)
            grind
        have := nn (by grind) (by grind)
        grind
theorem side_le {l : Cu} {k : Nat} {c c' lv t1 t2 : Rat} (hn : ∀ t, c < t → t < c' → lin l k t ≠ lv ∨ slope l k = 0) (h1 : c < t1) (h2 : t1 < c') (h3 : c ≤ t2) (h4 : t2 ≤ c') (h : lin l k t1 ≤ lv) : lin l k t2 ≤ lv := by
  by_cases hs : slope l k = 0
  · rw [lin_slope, hs] at h
    rw [lin_slope, hs]; grind
  · by_cases g : lin l k t2 ≤ lv
    · exact g
    · exfalso
      have n1 := hn t1 h1 h2
      have e1 := lin_slope (l := l) (k := k) (t := t1)
      have e2 := lin_slope (l := l) (k := k) (t := t2)
      have hstar : lin l k ((xI l k : Rat) + (lv - (vI l k : Rat)) / slope l k) = lv := by rw [lin_slope]; grind
      have nn := hn ((xI l k : Rat) + (lv - (vI l k : Rat)) / slope l k)
      generalize hS : (xI l k : Rat) + (lv - (vI l k : Rat)) / slope l k = ts at *
      have es := lin_slope (l := l) (k := k) (t := ts)
      generalize slope l k = s at *
      generalize (xI l k : Rat) = X at *
      generalize (vI l k : Rat) = V at *
      generalize lin l k t1 = y1 at *
      generalize lin l k t2 = y2 at *
      generalize lin l k ts = ys at *
      have d1 : (ts - t1) * s > 0 := by grind
      have d2 : (t2 - ts) * s > 0 := by grind
      rcases (show s < 0 ∨ 0 < s by grind) with c1 | c1
      · have a1 : ts < t1 := by
          by_cases q : ts < t1
          · exact q
          · exfalso
            have : 0 ≤ ts - t1 := by grind
            have := Rat.mul_nonneg this (show (0 : Rat) ≤ -s by grind)
            grind
        have a2 : t2 < ts := by
          by_cases q : t2 < ts
          · exact q
          · exfalso
            have : 0 ≤ t2 - ts := by grind
            have := Rat.mul_nonneg this (show (0 : Rat) ≤ -s by grind)
            grind
        have := nn (by grind) (by grind)
        grind
      · have a1 : t1 < ts := by
          by_cases q : t1 < ts
          · exact q
          · exfalso
            have : 0 ≤ t1 - ts := by grind
            have := Rat.mul_nonneg this (show (0 : Rat) ≤ s by grind)
            grind
        have a2 : ts < t2 := by
          by_cases q : ts < t2
          · exact q
          · exfalso
            have : 0 ≤ ts - t2 := by grind
            have := Rat.mul_nonneg this (show (0 : Rat) ≤ s by grind)
            grind
        have := nn (by grind) (by grind)
        grind
/-- what the cuts are -/
structure Cuts (l : Cu) (lo hi : Rat) (C : List Rat) : Prop where
  srt : C.Pairwise (· < ·)
  ins : ∀ c ∈ C, (xI l 0 : Rat) ≤ c ∧ c ≤ (xI l (l.length - 1) : Rat)
  pts : ∀ i, i < l.length → (xI l i : Rat) ∈ C
  lv : ∀ k t, On l k t → slope l k ≠ 0 → (lin l k t = lo ∨ lin l k t = hi) → t ∈ C
def InS (l : Cu) (lo hi t : Rat) : Prop := inS l lo hi (l.length - 1) t
/-- between neighbouring cuts -/
theorem between {l : Cu} {lo hi : Rat} {C : List Rat} (h : Curve l) (hC : Cuts l lo hi C) {c c' : Rat} (h1 : c ∈ C) (h2 : c' ∈ C) (hlt : c < c') (hno : ∀ u ∈ C, ¬ (c < u ∧ u < c')) {t1 t2 : Rat} (a1 : c < t1) (a2 : t1 < c') (b1 : c ≤ t2) (b2 : t2 ≤ c') (hin : InS l lo hi t1) : InS l lo hi t2 := by
  obtain ⟨k, hk, ho, p1, p2⟩ := hin
  have hkX : (xI l k : Rat) ≤ c := by
    by_cases g : (xI l k : Rat) ≤ c
    · exact g
    · exact absurd ⟨by grind, by have := ho.2.1; grind⟩ (hno _ (hC.pts k (by have := ho.1; omega)))
  have hkY : c' ≤ (xI l (k + 1) : Rat) := by
    by_cases g : c' ≤ (xI l (k + 1) : Rat)
    · exact g
    · exact absurd ⟨by have := ho.2.2; grind, by grind⟩ (hno _ (hC.pts (k + 1) ho.1))
  have hon : ∀ t, c ≤ t → t ≤ c' → On l k t := fun t q1 q2 => ⟨ho.1, by grind, by grind⟩
  have no : ∀ lv, lv = lo ∨ lv = hi → ∀ t, c < t → t < c' → lin l k t ≠ lv ∨ slope l k = 0 := by
    intro lv hlv t q1 q2
    by_cases hs : slope l k = 0
    · exact .inr hs
    · refine .inl fun z => hno t (hC.lv k t (hon t (by grind) (by grind)) hs ?_) ⟨q1, q2⟩
      rcases hlv with rfl | rfl
      · exact .inl z
      · exact .inr z
  exact ⟨k, hk, hon t2 b1 b2, side_ge (no lo (.inl rfl)) a1 a2 b1 b2 p1, side_le (no hi (.inr rfl)) a1 a2 b1 b2 p2⟩
theorem inS_rng {l : Cu} (h : Curve l) {lo hi t : Rat} (hin : InS l lo hi t) : (xI l 0 : Rat) ≤ t ∧ t ≤ (xI l (l.length - 1) : Rat) := by
  obtain ⟨k, hk, ho, _⟩ := hin
  have h1 : xI l 0 ≤ xI l k := by
    by_cases z : k = 0
    · rw [z]; omega
    · have := x_mono h (show 0 < k by omega) (by have := ho.1; omega); omega
  have h2 : xI l (k + 1) ≤ xI l (l.length - 1) := by
    by_cases z : k + 1 = l.length - 1
    · rw [z]; omega
    · have := x_mono h (show k + 1 < l.length - 1 by have := ho.1; omega) (by have := h.n1; omega); omega
  have h1 : (xI l 0 : Rat) ≤ (xI l k : Rat) := Rat.intCast_le_intCast.mpr h1
  have h2 : (xI l (k + 1) : Rat) ≤ (xI l (l.length - 1) : Rat) := Rat.intCast_le_intCast.mpr h2
  have := ho.2.1
  have := ho.2.2
  constructor <;> grind
end Lk18
end
section
set_option Elab.async false
set_option linter.all false
set_option maxHeartbeats 4000000
open PySem Mv
namespace Lk18
def cc (C : List Rat) (k : Nat) : Rat := C.getD k 0
theorem cc_at {C : List Rat} {k : Nat} (h : k < C.length) : C[k]? = some (cc C k) := by unfold cc; rw [List.getD_eq_getElem?_getD, List.getElem?_eq_getElem h]; rfl
theorem cc_mem {C : List Rat} {k : Nat} (h : k < C.length) : cc C k ∈ C := List.mem_of_getElem? (cc_at h)
theorem cc_lt {C : List Rat} (hs : C.Pairwise (· < ·)) {i j : Nat} (hij : i < j) (hj : j < C.length) : cc C i < cc C j := by
  have := List.pairwise_iff_getElem.mp hs i j (by omega) hj hij
  unfold cc
  rw [List.getD_eq_getElem?_getD, List.getD_eq_getElem?_getD, List.getElem?_eq_getElem (show i < C.length by omega), List.getElem?_eq_getElem hj]
  exact this
theorem cc_idx {C : List Rat} {u : Rat} (h : u ∈ C) : ∃ i, i < C.length ∧ cc C i = u := by
  obtain ⟨i, hi, e⟩ := List.getElem_of_mem h
  exact ⟨i, hi, by unfold cc; rw [List.getD_eq_getElem?_getD, List.getElem?_eq_getElem hi]; exact e⟩
theorem cc_no {C : List Rat} (hs : C.Pairwise (· < ·)) {k : Nat} (hk : k + 1 < C.length) : ∀ u ∈ C, ¬ (cc C k < u ∧ u < cc C (k + 1)) := by
  rintro u hu ⟨h1, h2⟩
  obtain ⟨i, hi, rfl⟩ := cc_idx hu
  rcases Nat.lt_trichotomy i k with c | c | c
  · have := cc_lt hs c (by omega); grind
  · subst c; grind
  · by_cases c2 : i = k + 1
    · subst c2; grind
    · have := cc_lt hs (show k + 1 < i by omega) hi; grind
section
variable {l : Cu} {lo hi : Rat} {C : List Rat} (h : Curve l) (hC : Cuts l lo hi C)
include h hC
theorem cc_last {k : Nat} (hk : k + 1 = C.length) : cc C k = (xI l (l.length - 1) : Rat) := by
  have h1 := (hC.ins _ (cc_mem (show k < C.length by omega))).2
  obtain ⟨i, hi, e⟩ := cc_idx (hC.pts (l.length - 1) (by have := h.n1; omega))
  by_cases c : i = k
  · subst c; exact e
  · have := cc_lt hC.srt (show i < k by omega) (by omega)
    rw [e] at this; grind
def bd (C : List Rat) (k : Nat) (u : Rat) : Prop := k < C.length → u < cc C k
def Inv (l : Cu) (lo hi : Rat) (C : List Rat) (k : Nat) (F : St) : Option Rat → Prop
  | none => Can F ∧ ∀ u, inL F u ↔ InS l lo hi u ∧ bd C k u
  | some b => Can F ∧ k < C.length ∧ InS l lo hi (cc C k) ∧ b < cc C k ∧ (∀ e ∈ F, e.2 < b) ∧ ∀ u, (inL F u ∨ (b ≤ u ∧ u < cc C k)) ↔ (InS l lo hi u ∧ u < cc C k)
theorem inv0 : Inv l lo hi C 0 [] none := by
  refine ⟨can_nil, fun u => ⟨fun ⟨e, he, _⟩ => absurd he List.not_mem_nil, fun ⟨h1, h2⟩ => ?_⟩⟩
  exfalso
  obtain ⟨i, hi, e⟩ := cc_idx (hC.pts 0 (by have := h.n1; omega))
  have h3 := h2 (by omega)
  have h4 := (inS_rng h h1).1
  by_cases c : i = 0
  · subst c; grind
  · have := cc_lt hC.srt (show 0 < i by omega) hi; grind
theorem last_le {k : Nat} (hk : k + 1 = C.length) {u : Rat} (hu : InS l lo hi u) : u ≤ cc C k := by
  rw [cc_last h hC hk]; exact (inS_rng h hu).2
theorem step_out {k : Nat} {F : St} {bg : Option Rat} (hI : Inv l lo hi C k F bg) (hk : k < C.length) (hn : ¬ InS l lo hi (cc C k)) : bg = none ∧ Inv l lo hi C (k + 1) F none := by
  cases bg with
  | some b => exact absurd hI.2.2.1 hn
  | none =>
    obtain ⟨i1, i2⟩ := hI
    refine ⟨rfl, i1, fun u => ?_⟩
    rw [i2]
    constructor
    · rintro ⟨a1, a2⟩
      refine ⟨a1, fun hk1 => ?_⟩
      have := a2 hk
      have := cc_lt hC.srt (show k < k + 1 by omega) hk1
      grind
    · rintro ⟨a1, a2⟩
      refine ⟨a1, fun _ => ?_⟩
      by_cases c : u < cc C k
      · exact c
      · exfalso
        by_cases c2 : u = cc C k
        · exact hn (c2 ▸ a1)
        · by_cases hk1 : k + 1 < C.length
          · have hlt := cc_lt hC.srt (show k < k + 1 by omega) hk1
            exact hn (between h hC (cc_mem hk) (cc_mem hk1) hlt (cc_no hC.srt hk1) (t1 := u) (by grind) (a2 hk1) (by grind) (by grind) a1)
          · have := last_le h hC (k := k) (by omega) a1
            grind
/-- where the stretch has begun -/
def bgn (C : List Rat) (k : Nat) (bg : Option Rat) : Rat := match bg with
  | none => cc C k
  | some b => b
theorem bgn_all {k : Nat} {F : St} {bg : Option Rat} (hI : Inv l lo hi C k F bg) (hk : k < C.length) (hin : InS l lo hi (cc C k)) :
    Can F ∧ bgn C k bg ≤ cc C k ∧ (∀ e ∈ F, e.2 < bgn C k bg) ∧ ∀ u, (inL F u ∨ (bgn C k bg ≤ u ∧ u ≤ cc C k)) ↔ (InS l lo hi u ∧ u ≤ cc C k) := by
  cases bg with
  | none =>
    obtain ⟨i1, i2⟩ := hI
    refine ⟨i1, by show cc C k ≤ cc C k; grind, fun e he => ?_, fun u => ?_⟩
    · have := (i2 e.2).mp ⟨e, he, i1.1 e he, by grind⟩
      exact this.2 hk
    · show (inL F u ∨ (cc C k ≤ u ∧ u ≤ cc C k)) ↔ _
      rw [i2]
      constructor
      · rintro (⟨a1, a2⟩ | ⟨a1, a2⟩)
        · have := a2 hk; exact ⟨a1, by grind⟩
        · have : u = cc C k := by grind
          rw [this]; exact ⟨hin, by grind⟩
      · rintro ⟨a1, a2⟩
        by_cases c : u < cc C k
        · exact .inl ⟨a1, fun _ => c⟩
        · exact .inr ⟨by grind, a2⟩
  | some b =>
    obtain ⟨i1, i2, i3, i4, i5, i6⟩ := hI
    refine ⟨i1, by show b ≤ cc C k; grind, i5, fun u => ?_⟩
    show (inL F u ∨ (b ≤ u ∧ u ≤ cc C k)) ↔ _
    have := i6 u
    constructor
    · rintro (a1 | ⟨a1, a2⟩)
      · have := this.mp (.inl a1); exact ⟨this.1, by grind⟩
      · by_cases c : u < cc C k
        · have := this.mp (.inr ⟨a1, c⟩); exact ⟨this.1, a2⟩
        · have : u = cc C k := by grind
          rw [this]; exact ⟨hin, by grind⟩
    · rintro ⟨a1, a2⟩
      by_cases c : u < cc C k
      · rcases this.mpr ⟨a1, c⟩ with q | q
        · exact .inl q
        · exact .inr ⟨q.1, a2⟩
      · exact .inr ⟨by grind, a2⟩
def midC (C : List Rat) (k : Nat) : Rat := (cc C k + cc C (k + 1)) / 2
theorem step_on {k : Nat} {F : St} {bg : Option Rat} (hI : Inv l lo hi C k F bg) (hk : k + 1 < C.length) (hin : InS l lo hi (cc C k)) (hm : InS l lo hi (midC C k)) : Inv l lo hi C (k + 1) F (some (bgn C k bg)) := by
  obtain ⟨i1, i2, i3, i4⟩ := bgn_all h hC hI (by omega) hin
  have hlt := cc_lt hC.srt (show k < k + 1 by omega) hk
  have bt := fun (t2 : Rat) => between h hC (cc_mem (show k < C.length by omega)) (cc_mem hk) hlt (cc_no hC.srt hk) (t1 := midC C k) (t2 := t2)
  have m1 : cc C k < midC C k := by unfold midC; grind
  have m2 : midC C k < cc C (k + 1) := by unfold midC; grind
  refine ⟨i1, hk, bt _ m1 m2 (by grind) (by grind) hm, by grind, i3, fun u => ?_⟩
  have := i4 u
  constructor
  · rintro (a1 | ⟨a1, a2⟩)
    · have := this.mp (.inl a1); exact ⟨this.1, by grind⟩
    · by_cases c : u ≤ cc C k
      · have := this.mp (.inr ⟨a1, c⟩); exact ⟨this.1, a2⟩
      · exact ⟨bt _ m1 m2 (by grind) (by grind) hm, a2⟩
  · rintro ⟨a1, a2⟩
    by_cases c : u ≤ cc C k
    · rcases this.mpr ⟨a1, c⟩ with q | q
      · exact .inl q
      · exact .inr ⟨q.1, a2⟩
    · exact .inr ⟨by grind, a2⟩
theorem step_end {k : Nat} {F : St} {bg : Option Rat} (hI : Inv l lo hi C k F bg) (hk : k < C.length) (hin : InS l lo hi (cc C k)) (hm : k + 1 < C.length → ¬ InS l lo hi (midC C k)) : Inv l lo hi C (k + 1) (F ++ [(bgn C k bg, cc C k)]) none := by
  obtain ⟨i1, i2, i3, i4⟩ := bgn_all h hC hI hk hin
  refine ⟨can_snoc i1 i2 i3, fun u => ?_⟩
  rw [inL_snoc, i4]
  constructor
  · rintro ⟨a1, a2⟩
    refine ⟨a1, fun hk1 => ?_⟩
    have := cc_lt hC.srt (show k < k + 1 by omega) hk1
    grind
  · rintro ⟨a1, a2⟩
    refine ⟨a1, ?_⟩
    by_cases c : u ≤ cc C k
    · exact c
    · exfalso
      by_cases hk1 : k + 1 < C.length
      · have hlt := cc_lt hC.srt (show k < k + 1 by omega) hk1
        have m1 : cc C k < midC C k := by unfold midC; grind
        have m2 : midC C k < cc C (k + 1) := by unfold midC; grind
        exact hm hk1 (between h hC (cc_mem hk) (cc_mem hk1) hlt (cc_no hC.srt hk1) (t1 := u) (by grind) (a2 hk1) (by grind) (by grind) a1)
      · exact c (last_le h hC (k := k) (by omega) a1)
theorem inv_end {F : St} {bg : Option Rat} (hI : Inv l lo hi C C.length F bg) : bg = none ∧ Can F ∧ ∀ u, inL F u ↔ InS l lo hi u := by
  cases bg with
  | some b => have := hI.2.1; omega
  | none => exact ⟨rfl, hI.1, fun u => by rw [hI.2]; exact ⟨fun q => q.1, fun q => ⟨q, fun z => absurd z (by omega)⟩⟩⟩
end
end Lk18
end
section
set_option Elab.async false
set_option linter.all false
set_option maxRecDepth 100000
set_option maxHeartbeats 4000000
set_option exponentiation.threshold 5000
open PySem Mv Mv.PreA
local macro_rules | `(tactic| walk_at "ev") => `(tactic| try simp only [↓W_bCons, ↓W_bNil, ↓W_bBrk, ↓W_bCnt, ↓W_bExp, ↓W_bRet, ↓W_bRetN, ↓W_bIf, ↓W_bAsg, ↓W_bPar, ↓W_bAug, ↓W_eC, ↓W_eV, ↓W_eM, ↓W_hV, ↓W_hE, ↓W_eFz, ↓W_e1, ↓W_e2, ↓W_aNil, ↓W_aCons, ↓W_eN, ↓W_eTup, ↓W_eLst, ↓W_eCall, ↓W_eMut, ↓W_eMt, ↓W_eIf, ↓W_eAn, ↓W_eOr, ↓W_eNo, ↓W_eJ0, ↓W_eJ1, ↓W_tT, ↓W_tB, ↓W_tNo, ↓W_tAn, ↓W_tOr, ↓W_tAll, ↓W_gNm, ↓W_gsNil, ↓W_gsCons, ↓W_gTp, ↓W_gTpL, ↓W_gIx, ↓W_bFor, ↓W_bWhile, ↓W_iRg1, ↓W_iRg2, ↓W_iSq, ↓W_eLc, ↓W_eSl, ↓W_pN, ↓W_pS, ↓W_iEn, ↓W_iZp, ↓W_iRv, ↓W_iRg3, ↓W_iRgV, ↓W_eCh, ↓W_chIf, ↓W_bind, ↓W_map, ↓W_some, ↓W_none,
  Hd.get, List.getElem?_cons_zero, List.getElem?_cons_succ, List.getD_cons_zero, List.getD_cons_succ, List.set_cons_zero, List.set_cons_succ, List.length_cons, List.length_nil, List.map_cons, List.map_nil, List.replicate, List.cons_append, List.nil_append, Nat.reduceAdd, Nat.reduceSub, Nat.reduceLeDiff, Nat.zero_add,
  D.frz, D.frzL, D.fz, D.fzL, tru_b, tru_i, tru_n, tru_l, tru_t, tru_c, tms, wipeD, unw, lend, unlend, keepL, Option.map_some, Option.bind_some, Bool.and_true, Bool.true_and, Bool.not_true, Bool.not_false, ↓reduceIte, if_true, if_false, Bool.false_eq_true, true_and, and_true, ite_b, ite_nb, vv_fmtI, vv_fmtS, vv_reprI, vv_reprS, vv_addS, vv_augI, vv_augS, vv_lenS, vv_eqS, vv_neS, vv_addL, vv_addT,
  vv_add, vv_sub, vv_mul, vv_div, vv_mod, vv_pow, vv_shl, vv_shr, vv_neg, vv_lt, vv_le, vv_gt, vv_ge, vv_int, vv_intS, vv_intb, vv_abs, vv_gcd, vv_max2, vv_min2, vv_lenL, vv_lenC, vv_lenT, vv_idxL, vv_idxC, vv_idxT, vv_eqI, vv_eqB, vv_neI, vv_list, vv_listT, vv_tuple, vv_tupleT, vv_sum, vv_slL, vv_slS, vv_slT, vv_range, vv_index, vv_count, isL_l, isL_c, lenL_l, lenL_c, kindL, vv_maxL, vv_minL, vv_strI, vv_app, vv_isNN, vv_isIN, vv_isSN, vv_isBN, vv_isLN, vv_isTN, vv_isBB, vv_isNB, vv_isIB, vv_isSB, vv_isLB, vv_isTB, vv_inNN, vv_inIN, vv_inSN, vv_inBN, vv_inLN, vv_inTN, vv_inBB, atF0, atF1, atF2, atF3, atF4, atF5, okI, okB, okS, okN, okL, ix0, ix1, ix2, frzL_int, fzL_int, intsD_map, isiI_int, isiI_str, isiI_bool, isiI_list, isiI_tuple, isiS_int, isiS_str, isiS_bool, isiS_list, isiS_tuple, isiB_int, isiB_str, isiB_bool, isiB_list, isiB_tuple, isiL_int, isiL_str, isiL_bool, isiL_list, isiL_tuple, isiT_int, isiT_str, isiT_bool, isiT_list, isiT_tuple, isiN_int, isiN_str, isiN_bool, isiN_list, isiN_tuple])
local macro_rules | `(tactic| walk_at "mu") => `(tactic| repeat (first | (rw [W_ok (MulOk.right (by omega))]; walk_at "ev") | (rw [W_ok (MulOk.left (by omega))]; walk_at "ev") | (rw [W_ok (divok (by omega) (by omega))]; walk_at "ev") | (rw [W_ok (by omega)]; walk_at "ev")))
namespace Lk18
theorem eq_draw : F_law_draw = PreA.F_law_draw := rfl
theorem eq_pick : F_law_pick = PreA.F_law_pick := rfl
theorem eq_digits : F_law_digits = PreA.F_law_digits := rfl
theorem eq_same : F_law_same = PreA.R_law_same 8 := rfl
theorem draw_ex {ds : List Int} {n m : Int} (hn : 0 ≤ n) (hm : 0 < m) : ∃ d, F_law_draw [bx ds n, .int m] = some (.int d, [bx ds (n + 1), .int m]) ∧ 0 ≤ d ∧ d < m := ⟨_, PreA.draw_ok hn hm, drw_nn hm, drw_lt hm⟩
theorem pick_ex {ds : List Int} {n : Int} {o : Bool} (ks : List Int) (hn : 0 ≤ n) (hk : ks ≠ []) : ∃ k ∈ ks, F_law_pick [bx ds n, .lst o (ks.map D.int)] = some (.int k, [bx ds (n + 1), .lst o (ks.map D.int)]) := PreA.pick_int ks hn hk
theorem same_ex (d e : D) (h : Sm 8 d e) : F_law_same [d, e] = some (.bl true, [d, e]) := PreA.same_ok 8 d e h
theorem digits_ex {ns : List Int} {a b : Int} (hn : ns.length ≤ 63) (ha : 0 ≤ a) (hab : a < b) (hb : b ≤ 64) : ∃ ds : List Int, ds ≠ [] ∧ (∀ d ∈ ds, 0 ≤ d ∧ d < 1000) ∧ F_law_digits [.cst (ns.map D.int), .int a, .int b] = some (.lst true (ds.map D.int), [.cst (ns.map D.int), .int a, .int b]) := PreA.digits_ok hn ha hab hb
theorem eq_frac : F_fraction = Sums.F_fraction := rfl
theorem eq_plus : F_plus = Sums.F_plus := rfl
theorem eq_minus : F_minus = Sums.F_minus := rfl
theorem eq_times : F_times = Sums.F_times := rfl
theorem eq_over : F_over = Sums.F_over := rfl
theorem eq_less : F_is_less = Sums.F_is_less := rfl
theorem whole_ok {n : Int} : F_whole [.int n] = some (rt (n : Rat), [.int n]) := by
  rw [rt_int]
  apply of_W
  unfold F_whole
  rw [W_fnD rfl]
  unfold d_whole
  walk_at "ev"
theorem sz_int {n : Int} {m : Nat} (h : n.natAbs < 2 ^ m) (hm : 1 ≤ m) : Sz m (n : Rat) := ⟨by rw [Rat.num_intCast]; exact h, by rw [Rat.den_intCast]; exact Nat.lt_of_lt_of_le (show 1 < 2 ^ 1 by decide) (Nat.pow_le_pow_right (by decide) hm)⟩
theorem okT {r : Rat} : okD (rt r) = some (rt r) := okD_of rfl
theorem rt_one : D.tup [.int 1, .int 1] = rt ((1 : Int) : Rat) := (rt_int 1).symm
theorem rt_zero : D.tup [.int 0, .int 1] = rt ((0 : Int) : Rat) := (rt_int 0).symm
theorem c0 : ((0 : Int) : Rat) = 0 := rfl
theorem c1 : ((1 : Int) : Rat) = 1 := rfl
abbrev pI (e : Int × Int) : D := .tup [.int e.1, .int e.2]
abbrev pR (e : Rat × Rat) : D := .tup [rt e.1, rt e.2]
theorem frz_pI (l : List (Int × Int)) : D.frzL (l.map pI) = true := frzL_of fun d hd => by obtain ⟨x, _, rfl⟩ := List.mem_map.mp hd; rfl
theorem frz_pR (l : St) : D.frzL (l.map pR) = true := frzL_of fun d hd => by obtain ⟨x, _, rfl⟩ := List.mem_map.mp hd; rfl
theorem fzL_pR : ∀ l : St, D.fzL (l.map pR) = l.map pR
  | [] => rfl
  | r :: l => by show pR r :: D.fzL (l.map pR) = _; rw [fzL_pR l]; rfl
theorem spoil_eq : F_law_spoil = S_law_spoil (R_law_spoil 7) := by
  unfold F_law_spoil
  rw [R_law_spoil]
theorem spoil_ok {α : Type} (f : α → D) (hf : ∀ x, ∃ ys, f x = .tup ys) (hz : ∀ x, (f x).frz = true) (l : List α) (hl : l.length ≤ 1000) : F_law_spoil [.lst true (l.map f)] = some (.non, [.lst true (l.map f ++ [.non])]) := by
  have hfz : D.frzL (l.map f) = true := frzL_of fun d hd => by obtain ⟨x, _, rfl⟩ := List.mem_map.mp hd; exact hz x
  apply of_W
  rw [spoil_eq]
  unfold S_law_spoil
  rw [W_fnD rfl]
  unfold d_law_spoil
  walk_at "ev"
  refine W_list (ds := l.map f) (fun k ρ => ∃ x1, ρ = [.lst true (l.map f), x1]) ⟨_, rfl⟩ ?_ ?_ ?_
  · rintro k ρ ⟨x1, rfl⟩
    exact itK_lst rfl hfz k
  · rintro k d ρ hd ⟨x1, rfl⟩
    obtain ⟨x, _, rfl⟩ := List.mem_map.mp (List.mem_of_getElem? hd)
    obtain ⟨ys, e⟩ := hf x
    rw [e]
    walk_at "ev"
    exact ⟨_, rfl⟩
  · rintro ρ ⟨x1, rfl⟩
    walk_at "ev"
    rw [W_ok (by rw [List.length_map]; omega)]
    walk_at "ev"
theorem twice_ok {o : Bool} {L : St} {d : D} (hl : L.length ≤ 1000) (hs1 : Sm 8 (.lst true (L.map pR)) d) (hs2 : Sm 8 (.lst false (L.map pR)) d) (hd : ∃ xs, d = .lst o xs) : W (F_law_twice [.lst true (L.map pR), .lst false (L.map pR), d]) fun r => r.1 = .bl true ∧ ∃ x y, r.2 = [x, y, d] := by
  obtain ⟨xs, rfl⟩ := hd
  unfold F_law_twice
  rw [W_fnD rfl]
  unfold d_law_twice
  cases o
  all_goals
    walk_at "ev"
    rw [W_eq (same_ex _ _ hs1)]
    walk_at "ev"
    rw [W_eq (spoil_ok pR (fun x => ⟨_, rfl⟩) (fun x => rfl) L hl)]
    walk_at "ev"
    rw [W_eq (same_ex _ _ hs2)]
    walk_at "ev"
    try exact ⟨_, _, rfl⟩
/-- pieces of a list: neighbours -/
theorem zip_at {l : Cu} {k : Nat} {e : (Int × Int) × (Int × Int)} (h : (l.zip (l.drop 1))[k]? = some e) : k + 1 < l.length ∧ e = ((xI l k, vI l k), (xI l (k + 1), vI l (k + 1))) := by
  obtain ⟨hk, he⟩ := List.getElem?_eq_some_iff.mp h
  rw [List.length_zip, List.length_drop] at hk
  have hk1 : k + 1 < l.length := by omega
  refine ⟨hk1, ?_⟩
  rw [List.getElem_zip, List.getElem_drop] at he
  rw [← he]
  unfold xI vI
  rw [List.getD_eq_getElem?_getD, List.getD_eq_getElem?_getD, List.getElem?_eq_getElem (show k < l.length by omega), List.getElem?_eq_getElem hk1]
  simp only [Option.getD_some, Nat.add_comm 1 k]
theorem zip_len {l : Cu} : (l.zip (l.drop 1)).length = l.length - 1 := by rw [List.length_zip, List.length_drop]; omega
theorem cut1 {l : Cu} : cutD (l.map pI) (some 1) none = (l.drop 1).map pI := cut_from (k := 1) pI l
abbrev zE (e : (Int × Int) × (Int × Int)) : D := .tup [pI e.1, pI e.2]
theorem zip_src {l : Cu} {ρ : Ev} {i : Nat} {o : Bool} (h : ρ.getD i .any = .lst o (l.map pI)) (k : Nat) : itZ (.sl i) (.tm (.lst true ((l.drop 1).map pI))) k ρ = some ((l.zip (l.drop 1)).map zE)[k]? := by
  rw [itZ_at (fun k => itK_lst h (frz_pI l) k) (fun k => itK_tm (frz_pI _) k), zip_map]
def optR : Option Rat → D
  | none => .non
  | some r => rt r
theorem sz_lin {l : Cu} (h : Curve l) {k : Nat} (hk : k + 1 < l.length) {t : Rat} {m : Nat} (ht : Sz m t) (hm : m ≤ 300) : Sz (m + 10 + 1 + 10 + 17 + 16 + 1) (lin l k t) := by
  have b1 := h.xb k (by omega)
  have b2 := h.xb (k + 1) hk
  have b3 := h.vb k (by omega)
  have b4 := h.vb (k + 1) hk
  have s1 : Sz 10 (xI l k : Rat) := sz_int (by omega) (by decide)
  have s2 : Sz 10 ((xI l (k + 1) - xI l k : Int) : Rat) := sz_int (by omega) (by decide)
  have s3 : Sz 17 ((vI l (k + 1) - vI l k : Int) : Rat) := sz_int (by omega) (by decide)
  have s4 : Sz 16 (vI l k : Rat) := sz_int (by omega) (by decide)
  have n1 : ((xI l (k + 1) - xI l k : Int) : Rat) ≠ 0 := by have := sz_ne h hk; grind
  have := s4.add (((ht.sub s1).div s2 n1).mul s3)
  exact this.mono (by omega)
structure Bd (l : Cu) (k : Nat) : Prop where
  hk : k + 1 < l.length
  s1 : Sz 10 (xI l k : Rat)
  s1' : Sz 10 (xI l (k + 1) : Rat)
  s2 : Sz 10 ((xI l (k + 1) - xI l k : Int) : Rat)
  s3 : Sz 17 ((vI l (k + 1) - vI l k : Int) : Rat)
  s4 : Sz 16 (vI l k : Rat)
  s4' : Sz 16 (vI l (k + 1) : Rat)
  n1 : ((xI l (k + 1) - xI l k : Int) : Rat) ≠ 0
theorem bd_of {l : Cu} (h : Curve l) {k : Nat} (hk : k + 1 < l.length) : Bd l k := by
  have b1 := h.xb k (by omega)
  have b2 := h.xb (k + 1) hk
  have b3 := h.vb k (by omega)
  have b4 := h.vb (k + 1) hk
  exact ⟨hk, sz_int (by omega) (by decide), sz_int (by omega) (by decide), sz_int (by omega) (by decide), sz_int (by omega) (by decide), sz_int (by omega) (by decide), sz_int (by omega) (by decide), by have := sz_ne h hk; grind⟩
/-- the piece of years on one piece of the curve -/
def pieceR (l : Cu) (k : Nat) (lo hi : Rat) : Option (Rat × Rat) :=
  if vI l k = vI l (k + 1) then (if ¬ (vI l k : Rat) < lo ∧ ¬ hi < (vI l k : Rat) then some ((xI l k : Rat), (xI l (k + 1) : Rat)) else none)
  else
    let f := (lo - (vI l k : Rat)) / ((vI l (k + 1) - vI l k : Int) : Rat)
    let g := (hi - (vI l k : Rat)) / ((vI l (k + 1) - vI l k : Int) : Rat)
    let f' := if g < f then g else f
    let g' := if g < f then f else g
    let a := if 0 < f' then f' else 0
    let b := if g' < 1 then g' else 1
    if b < a then none else some ((xI l k : Rat) + a * ((xI l (k + 1) - xI l k : Int) : Rat), (xI l k : Rat) + b * ((xI l (k + 1) - xI l k : Int) : Rat))
def optP : Option (Rat × Rat) → D
  | none => .non
  | some e => pR e
theorem num_pos {r : Rat} : (0 < r.num) ↔ ((0 : Int) : Rat) < r := by
  rw [Rat.lt_iff]
  show _ ↔ 0 * _ < r.num * 1
  omega
noncomputable def pieceT : Ev → Option Out := bCons (bAsg (eIf (tB' (e2 gGt (hE (e2 gIdx (hV 7) (hE (eC (.int 0))))) (hE (eC (.int 0))))) (eV 7) (eTup (aCons (hE (eC (.int 0))) (aCons (hE (eC (.int 1))) aNil)))) (gNm 7)) (bCons (bAsg (eIf (tT (hE (eCall 2 F_is_less (aCons (hV 8) (aCons (hE (eFz (eTup (aCons (hE (eC (.int 1))) (aCons (hE (eC (.int 1))) aNil))))) aNil))))) (eV 8) (eTup (aCons (hE (eC (.int 1))) (aCons (hE (eC (.int 1))) aNil)))) (gNm 8)) (bCons (bIf (tT (hE (eCall 2 F_is_less (aCons (hV 8) (aCons (hV 7) aNil))))) (bRet (eC .non)) (bNil)) (bCons (bAsg (eCall 1 F_whole (aCons (hE (e2 gSubt (hV 2) (hV 0))) aNil)) (gNm 9)) (bRet (eTup (aCons (hE (eFz (eCall 2 F_plus (aCons (hE (eFz (eCall 1 F_whole (aCons (hV 0) aNil)))) (aCons (hE (eFz (eCall 2 F_times (aCons (hV 7) (aCons (hV 9) aNil))))) aNil))))) (aCons (hE (eFz (eCall 2 F_plus (aCons (hE (eFz (eCall 1 F_whole (aCons (hV 0) aNil)))) (aCons (hE (eFz (eCall 2 F_times (aCons (hV 8) (aCons (hV 9) aNil))))) aNil))))) aNil)))))))
theorem d_piece_eq : d_piece_between = bCons (bIf (tB' (e2 gEq (hV 1) (hV 3))) (bCons (bAsg (eAn (eNo (eCall 2 F_is_less (aCons (hE (eFz (eCall 1 F_whole (aCons (hV 1) aNil)))) (aCons (hV 4) aNil)))) (eNo (eCall 2 F_is_less (aCons (hV 5) (aCons (hE (eFz (eCall 1 F_whole (aCons (hV 1) aNil)))) aNil))))) (gNm 6)) (bRet (eIf (tT (hV 6)) (eTup (aCons (hE (eFz (eCall 1 F_whole (aCons (hV 0) aNil)))) (aCons (hE (eFz (eCall 1 F_whole (aCons (hV 2) aNil)))) aNil))) (eC .non)))) (bNil)) (bCons (bAsg (eCall 2 F_over (aCons (hE (eFz (eCall 2 F_minus (aCons (hV 4) (aCons (hE (eFz (eCall 1 F_whole (aCons (hV 1) aNil)))) aNil))))) (aCons (hE (eFz (eCall 1 F_whole (aCons (hE (e2 gSubt (hV 3) (hV 1))) aNil)))) aNil))) (gNm 7)) (bCons (bAsg (eCall 2 F_over (aCons (hE (eFz (eCall 2 F_minus (aCons (hV 5) (aCons (hE (eFz (eCall 1 F_whole (aCons (hV 1) aNil)))) aNil))))) (aCons (hE (eFz (eCall 1 F_whole (aCons (hE (e2 gSubt (hV 3) (hV 1))) aNil)))) aNil))) (gNm 8)) (bCons (bIf (tT (hE (eCall 2 F_is_less (aCons (hV 8) (aCons (hV 7) aNil))))) (bPar 7 8 (aCons (hE (eV 8)) (aCons (hE (eV 7)) aNil))) (bNil)) pieceT))) := rfl
theorem pieceT_ok {l : Cu} {k : Nat} {x4 x5 x6 x9 : D} {p q : Rat} {m : Nat} (h : Curve l) (hk : k + 1 < l.length) (hp : Sz m p) (hq : Sz m q) (hm : m ≤ 400) :
    W (pieceT [.int (xI l k), .int (vI l k), .int (xI l (k + 1)), .int (vI l (k + 1)), x4, x5, x6, rt p, rt q, x9]) fun o => ∃ y7 y8 y9, o = .rt (optP (if (if q < 1 then q else 1) < (if 0 < p then p else 0) then none else some ((xI l k : Rat) + (if 0 < p then p else 0) * ((xI l (k + 1) - xI l k : Int) : Rat), (xI l k : Rat) + (if q < 1 then q else 1) * ((xI l (k + 1) - xI l k : Int) : Rat)))) [.int (xI l k), .int (vI l k), .int (xI l (k + 1)), .int (vI l (k + 1)), x4, x5, x6, y7, y8, y9] := by
  obtain ⟨_, s1, s1', s2, s3, s4, s4', n1⟩ := bd_of h hk
  have z1 : Sz 1 ((1 : Int) : Rat) := sz_int (by decide) (by decide)
  have z0 : Sz 1 ((0 : Int) : Rat) := sz_int (by decide) (by decide)
  rw [← c0, ← c1]
  unfold pieceT
  by_cases h1 : ((0 : Int) : Rat) < p
  · by_cases h2 : q < ((1 : Int) : Rat)
    · rw [if_pos h1, if_pos h2]
      walk_at "ev"
      rw [if_pos (num_pos.mpr h1)]
      walk_at "ev"
      rw [rt_one, eq_less, W_eq (lessR hq z1 (by omega) (by omega))]
      walk_at "ev"
      rw [if_pos h2]
      walk_at "ev"
      rw [W_eq (lessR (r := q) (s := p) hq hp (by omega) (by omega))]
      walk_at "ev"
      split
      · rename_i hlt
        exact ⟨_, _, _, rfl⟩
      · rename_i hlt
        rw [W_eq (whole_ok (n := xI l (k + 1) - xI l k))]
        walk_at "ev"
        rw [W_eq (whole_ok (n := xI l k))]
        walk_at "ev"
        rw [eq_times, W_eq (timesR (r := p) hp s2 (by omega) (by omega))]
        walk_at "ev"
        rw [eq_plus, W_eq (plusR s1 (Sz.mul hp s2) (by omega) (by omega))]
        walk_at "ev"
        rw [W_eq (whole_ok (n := xI l k))]
        walk_at "ev"
        rw [W_eq (timesR (r := q) hq s2 (by omega) (by omega))]
        walk_at "ev"
        rw [W_eq (plusR s1 (Sz.mul hq s2) (by omega) (by omega))]
        walk_at "ev"
        exact ⟨_, _, _, rfl⟩
    · rw [if_pos h1, if_neg h2]
      walk_at "ev"
      rw [if_pos (num_pos.mpr h1)]
      walk_at "ev"
      rw [rt_one, eq_less, W_eq (lessR hq z1 (by omega) (by omega))]
      walk_at "ev"
      rw [if_neg h2]
      walk_at "ev"
      try rw [rt_one]
      rw [W_eq (lessR (r := ((1 : Int) : Rat)) (s := p) z1 hp (by omega) (by omega))]
      walk_at "ev"
      split
      · rename_i hlt
        exact ⟨_, _, _, rfl⟩
      · rename_i hlt
        rw [W_eq (whole_ok (n := xI l (k + 1) - xI l k))]
        walk_at "ev"
        rw [W_eq (whole_ok (n := xI l k))]
        walk_at "ev"
        rw [eq_times, W_eq (timesR (r := p) hp s2 (by omega) (by omega))]
        walk_at "ev"
        rw [eq_plus, W_eq (plusR s1 (Sz.mul hp s2) (by omega) (by omega))]
        walk_at "ev"
        rw [W_eq (whole_ok (n := xI l k))]
        walk_at "ev"
        rw [W_eq (timesR (r := ((1 : Int) : Rat)) z1 s2 (by omega) (by omega))]
        walk_at "ev"
        rw [W_eq (plusR s1 (Sz.mul z1 s2) (by omega) (by omega))]
        walk_at "ev"
        exact ⟨_, _, _, rfl⟩
  · by_cases h2 : q < ((1 : Int) : Rat)
    · rw [if_neg h1, if_pos h2]
      walk_at "ev"
      rw [if_neg (fun w => h1 (num_pos.mp w))]
      walk_at "ev"
      rw [rt_one, eq_less, W_eq (lessR hq z1 (by omega) (by omega))]
      walk_at "ev"
      rw [if_pos h2]
      walk_at "ev"
      try rw [rt_zero]
      rw [W_eq (lessR (r := q) (s := ((0 : Int) : Rat)) hq z0 (by omega) (by omega))]
      walk_at "ev"
      split
      · rename_i hlt
        exact ⟨_, _, _, rfl⟩
      · rename_i hlt
        rw [W_eq (whole_ok (n := xI l (k + 1) - xI l k))]
        walk_at "ev"
        rw [W_eq (whole_ok (n := xI l k))]
        walk_at "ev"
        rw [eq_times, W_eq (timesR (r := ((0 : Int) : Rat)) z0 s2 (by omega) (by omega))]
        walk_at "ev"
        rw [eq_plus, W_eq (plusR s1 (Sz.mul z0 s2) (by omega) (by omega))]
        walk_at "ev"
        rw [W_eq (whole_ok (n := xI l k))]
        walk_at "ev"
        rw [W_eq (timesR (r := q) hq s2 (by omega) (by omega))]
        walk_at "ev"
        rw [W_eq (plusR s1 (Sz.mul hq s2) (by omega) (by omega))]
        walk_at "ev"
        exact ⟨_, _, _, rfl⟩
    · rw [if_neg h1, if_neg h2]
      walk_at "ev"
      rw [if_neg (fun w => h1 (num_pos.mp w))]
      walk_at "ev"
      rw [rt_one, eq_less, W_eq (lessR hq z1 (by omega) (by omega))]
      walk_at "ev"
      rw [if_neg h2]
      walk_at "ev"
      try rw [rt_zero]
      try rw [rt_one]
      rw [W_eq (lessR (r := ((1 : Int) : Rat)) (s := ((0 : Int) : Rat)) z1 z0 (by omega) (by omega))]
      walk_at "ev"
      split
      · rename_i hlt
        exact ⟨_, _, _, rfl⟩
      · rename_i hlt
        rw [W_eq (whole_ok (n := xI l (k + 1) - xI l k))]
        walk_at "ev"
        rw [W_eq (whole_ok (n := xI l k))]
        walk_at "ev"
        rw [eq_times, W_eq (timesR (r := ((0 : Int) : Rat)) z0 s2 (by omega) (by omega))]
        walk_at "ev"
        rw [eq_plus, W_eq (plusR s1 (Sz.mul z0 s2) (by omega) (by omega))]
        walk_at "ev"
        rw [W_eq (whole_ok (n := xI l k))]
        walk_at "ev"
        rw [W_eq (timesR (r := ((1 : Int) : Rat)) z1 s2 (by omega) (by omega))]
        walk_at "ev"
        rw [W_eq (plusR s1 (Sz.mul z1 s2) (by omega) (by omega))]
        walk_at "ev"
        exact ⟨_, _, _, rfl⟩
theorem piece_ok {l : Cu} {lo hi : Rat} {m : Nat} {k : Nat} (h : Curve l) (hk : k + 1 < l.length) (h1 : Sz m lo) (h2 : Sz m hi) (hm : m ≤ 100) : F_piece_between [.int (xI l k), .int (vI l k), .int (xI l (k + 1)), .int (vI l (k + 1)), rt lo, rt hi] = some (optP (pieceR l k lo hi), [.int (xI l k), .int (vI l k), .int (xI l (k + 1)), .int (vI l (k + 1)), rt lo, rt hi]) := by
  obtain ⟨_, s1, s1', s2, s3, s4, s4', n1⟩ := bd_of h hk
  apply of_W
  unfold F_piece_between
  rw [W_fnD rfl]
  rw [d_piece_eq]
  walk_at "ev"
  unfold pieceR
  split
  · rename_i hv
    rw [W_eq (whole_ok (n := vI l k))]
    walk_at "ev"
    rw [eq_less, W_eq (lessR s4 h1 (by omega) (by omega))]
    walk_at "ev"
    by_cases a1 : (vI l k : Rat) < lo
    · simp only [a1, decide_true, Bool.not_true, Bool.false_eq_true, if_false, not_true, false_and]
      walk_at "ev"
      try rfl
    · simp only [a1, decide_false, Bool.not_false, if_true, not_false_eq_true, true_and]
      walk_at "ev"
      rw [W_eq (whole_ok (n := vI l k))]
      walk_at "ev"
      rw [W_eq (lessR h2 s4 (by omega) (by omega))]
      walk_at "ev"
      by_cases a2 : hi < (vI l k : Rat)
      · simp only [a2, decide_true, Bool.not_true, Bool.false_eq_true, if_false, not_true]
        walk_at "ev"
        try rfl
      · simp only [a2, decide_false, Bool.not_false, if_true, not_false_eq_true]
        walk_at "ev"
        rw [W_eq (whole_ok (n := xI l k))]
        walk_at "ev"
        rw [W_eq (whole_ok (n := xI l (k + 1)))]
        walk_at "ev"
        try rfl
  · rename_i hv
    have n3 : ((vI l (k + 1) - vI l k : Int) : Rat) ≠ 0 := cast_ne (by omega)
    rw [W_eq (whole_ok (n := vI l k))]
    walk_at "ev"
    rw [eq_minus, W_eq (minusR h1 s4 (by omega) (by omega))]
    walk_at "ev"
    rw [W_eq (whole_ok (n := vI l (k + 1) - vI l k))]
    walk_at "ev"
    rw [eq_over, W_eq (overR (h1.sub s4) s3 (by omega) (by omega) n3)]
    walk_at "ev"
    rw [W_eq (whole_ok (n := vI l k))]
    walk_at "ev"
    rw [W_eq (minusR h2 s4 (by omega) (by omega))]
    walk_at "ev"
    rw [W_eq (whole_ok (n := vI l (k + 1) - vI l k))]
    walk_at "ev"
    rw [W_eq (overR (h2.sub s4) s3 (by omega) (by omega) n3)]
    walk_at "ev"
    have sf := (h1.sub s4).div s3 n3
    have sg := (h2.sub s4).div s3 n3
    generalize (lo - (vI l k : Rat)) / ((vI l (k + 1) - vI l k : Int) : Rat) = f at *
    generalize (hi - (vI l k : Rat)) / ((vI l (k + 1) - vI l k : Int) : Rat) = g at *
    rw [eq_less, W_eq (lessR sg sf (by omega) (by omega))]
    walk_at "ev"
    by_cases c : g < f
    · simp only [if_pos c]
      walk_at "ev"
      refine W_mono (pieceT_ok (p := g) (q := f) h hk sg sf (by omega)) ?_
      rintro o ⟨y7, y8, y9, rfl⟩
      trivial
    · simp only [if_neg c]
      walk_at "ev"
      refine W_mono (pieceT_ok (p := f) (q := g) h hk sf sg (by omega)) ?_
      rintro o ⟨y7, y8, y9, rfl⟩
      trivial
end Lk18
end
section
set_option Elab.async false
set_option linter.all false
set_option maxHeartbeats 4000000
open PySem Mv
namespace Lk18
theorem mul_le_iff {a b s : Rat} (hs : 0 < s) : a * s ≤ b * s ↔ a ≤ b := by
  constructor
  · intro h
    by_cases c : a ≤ b
    · exact c
    · exfalso
      have := Rat.mul_lt_mul_of_pos_right (show b < a by grind) hs
      grind
  · intro h
    exact Rat.mul_le_mul_of_nonneg_right h (by grind)
def pieceY (l : Cu) (k : Nat) (v : Rat) : Option (Rat × Rat) :=
  if vI l k = vI l (k + 1) then (if v = (vI l k : Rat) then some ((xI l k : Rat), (xI l (k + 1) : Rat)) else none)
  else
    let f := (v - (vI l k : Rat)) / ((vI l (k + 1) - vI l k : Int) : Rat)
    if 0 ≤ f ∧ ¬ 1 < f then some ((xI l k : Rat) + f * ((xI l (k + 1) - xI l k : Int) : Rat), (xI l k : Rat) + f * ((xI l (k + 1) - xI l k : Int) : Rat)) else none
/-- what a piece says -/
def Says (l : Cu) (k : Nat) (lo hi : Rat) : Option (Rat × Rat) → Prop
  | none => ∀ t, On l k t → ¬ (lo ≤ lin l k t ∧ lin l k t ≤ hi)
  | some e => (xI l k : Rat) ≤ e.1 ∧ e.1 ≤ e.2 ∧ e.2 ≤ (xI l (k + 1) : Rat) ∧ ∀ t, (On l k t ∧ lo ≤ lin l k t ∧ lin l k t ≤ hi) ↔ (e.1 ≤ t ∧ t ≤ e.2)
theorem lin_flat {l : Cu} {k : Nat} {t : Rat} (h : vI l k = vI l (k + 1)) : lin l k t = (vI l k : Rat) := by
  unfold lin
  rw [show vI l (k + 1) - vI l k = 0 by omega, c0]
  grind
/-- by shares of the way -/
structure Share (l : Cu) (k : Nat) : Prop where
  s : (0 : Rat) < ((xI l (k + 1) - xI l k : Int) : Rat)
  e : (xI l (k + 1) : Rat) = (xI l k : Rat) + ((xI l (k + 1) - xI l k : Int) : Rat)
theorem share_of {l : Cu} (h : Curve l) {k : Nat} (hk : k + 1 < l.length) : Share l k := ⟨sz_ne h hk, by rw [Rat.intCast_sub]; grind⟩
theorem lin_share {l : Cu} {k : Nat} {w : Rat} (h : Share l k) : lin l k ((xI l k : Rat) + w * ((xI l (k + 1) - xI l k : Int) : Rat)) = (vI l k : Rat) + w * ((vI l (k + 1) - vI l k : Int) : Rat) := by
  have := h.s
  unfold lin
  generalize ((xI l (k + 1) - xI l k : Int) : Rat) = s at *
  grind
theorem to_share {l : Cu} {k : Nat} (h : Share l k) (t : Rat) : ∃ w : Rat, t = (xI l k : Rat) + w * ((xI l (k + 1) - xI l k : Int) : Rat) := by
  have := h.s
  refine ⟨(t - (xI l k : Rat)) / ((xI l (k + 1) - xI l k : Int) : Rat), ?_⟩
  generalize ((xI l (k + 1) - xI l k : Int) : Rat) = s at *
  grind
theorem on_share {l : Cu} {k : Nat} (h : Share l k) (hk : k + 1 < l.length) (w : Rat) : On l k ((xI l k : Rat) + w * ((xI l (k + 1) - xI l k : Int) : Rat)) ↔ 0 ≤ w ∧ w ≤ 1 := by
  have h1 := mul_le_iff (a := 0) (b := w) h.s
  have h2 := mul_le_iff (a := w) (b := 1) h.s
  have h3 := h.e
  unfold On
  generalize ((xI l (k + 1) - xI l k : Int) : Rat) = s at *
  rw [h3]
  constructor
  · rintro ⟨_, a, b⟩
    exact ⟨h1.mp (by grind), h2.mp (by grind)⟩
  · rintro ⟨a, b⟩
    have a := h1.mpr a
    have b := h2.mpr b
    exact ⟨hk, by grind, by grind⟩
theorem le_share {l : Cu} {k : Nat} (h : Share l k) (a w : Rat) : (xI l k : Rat) + a * ((xI l (k + 1) - xI l k : Int) : Rat) ≤ (xI l k : Rat) + w * ((xI l (k + 1) - xI l k : Int) : Rat) ↔ a ≤ w := by
  have h1 := mul_le_iff (a := a) (b := w) h.s
  generalize ((xI l (k + 1) - xI l k : Int) : Rat) = s at *
  constructor
  · intro q; exact h1.mp (by grind)
  · intro q; have := h1.mpr q; grind
/-- levels by shares -/
theorem lev_share {v r lo w : Rat} (hr : r ≠ 0) : (0 < r → ((lo ≤ v + w * r ↔ (lo - v) / r ≤ w) ∧ (v + w * r ≤ lo ↔ w ≤ (lo - v) / r))) ∧ (r < 0 → ((lo ≤ v + w * r ↔ w ≤ (lo - v) / r) ∧ (v + w * r ≤ lo ↔ (lo - v) / r ≤ w))) := by
  have e : (lo - v) / r * r = lo - v := by grind
  generalize (lo - v) / r = f at *
  constructor
  · intro h
    have h1 := mul_le_iff (a := f) (b := w) h
    have h2 := mul_le_iff (a := w) (b := f) h
    constructor
    · rw [← h1]; constructor <;> intro q <;> grind
    · rw [← h2]; constructor <;> intro q <;> grind
  · intro h
    have h1 := mul_le_iff (a := f) (b := w) (s := -r) (by grind)
    have h2 := mul_le_iff (a := w) (b := f) (s := -r) (by grind)
    constructor
    · rw [← h2]; constructor <;> intro q <;> grind
    · rw [← h1]; constructor <;> intro q <;> grind
theorem range_share {v r lo hi w : Rat} (hr : r ≠ 0) (hlh : lo ≤ hi) : (lo ≤ v + w * r ∧ v + w * r ≤ hi) ↔ ((if (hi - v) / r < (lo - v) / r then (hi - v) / r else (lo - v) / r) ≤ w ∧ w ≤ (if (hi - v) / r < (lo - v) / r then (lo - v) / r else (hi - v) / r)) := by
  obtain ⟨p1, p2⟩ := lev_share (v := v) (r := r) (lo := lo) (w := w) hr
  obtain ⟨q1, q2⟩ := lev_share (v := v) (r := r) (lo := hi) (w := w) hr
  have e1 : (lo - v) / r * r = lo - v := by grind
  have e2 : (hi - v) / r * r = hi - v := by grind
  generalize (lo - v) / r = f at *
  generalize (hi - v) / r = g at *
  rcases (show r < 0 ∨ 0 < r by grind) with c | c
  · obtain ⟨a1, a2⟩ := p2 c
    obtain ⟨b1, b2⟩ := q2 c
    have gf : g ≤ f := by
      have := mul_le_iff (a := g) (b := f) (s := -r) (by grind)
      exact this.mp (by grind)
    rw [a1, b2]
    by_cases z : g < f
    · rw [if_pos z, if_pos z]; constructor <;> rintro ⟨x, y⟩ <;> exact ⟨y, x⟩
    · rw [if_neg z, if_neg z]; have : g = f := by grind
      subst this; constructor <;> rintro ⟨x, y⟩ <;> exact ⟨y, x⟩
  · obtain ⟨a1, a2⟩ := p1 c
    obtain ⟨b1, b2⟩ := q1 c
    have fg : f ≤ g := by
      have := mul_le_iff (a := f) (b := g) c
      exact this.mp (by grind)
    rw [a1, b2, if_neg (by grind), if_neg (by grind)]
theorem pieceR_says {l : Cu} (h : Curve l) {k : Nat} (hk : k + 1 < l.length) {lo hi : Rat} (hlh : lo ≤ hi) : Says l k lo hi (pieceR l k lo hi) := by
  have hs := share_of h hk
  unfold pieceR
  by_cases hv : vI l k = vI l (k + 1)
  · rw [if_pos hv]
    have hX : (xI l k : Rat) ≤ (xI l (k + 1) : Rat) := by have := hs.e; have := hs.s; grind
    split
    · rename_i c
      refine ⟨by show (xI l k : Rat) ≤ (xI l k : Rat); grind, hX, by show (xI l (k + 1) : Rat) ≤ (xI l (k + 1) : Rat); grind, fun t => ?_⟩
      rw [lin_flat hv]
      constructor
      · rintro ⟨a, _⟩; exact ⟨a.2.1, a.2.2⟩
      · rintro ⟨a, b⟩; exact ⟨⟨hk, a, b⟩, by grind, by grind⟩
    · rename_i c
      intro t _ hh
      rw [lin_flat hv] at hh
      exact c ⟨by grind, by grind⟩
  · rw [if_neg hv]
    have hr : ((vI l (k + 1) - vI l k : Int) : Rat) ≠ 0 := cast_ne (by omega)
    have hrs := fun w => range_share (v := (vI l k : Rat)) (lo := lo) (hi := hi) (w := w) hr hlh
    show Says l k lo hi (if _ < _ then none else some _)
    generalize (if (hi - (vI l k : Rat)) / ((vI l (k + 1) - vI l k : Int) : Rat) < (lo - (vI l k : Rat)) / ((vI l (k + 1) - vI l k : Int) : Rat) then (hi - (vI l k : Rat)) / ((vI l (k + 1) - vI l k : Int) : Rat) else (lo - (vI l k : Rat)) / ((vI l (k + 1) - vI l k : Int) : Rat)) = f' at *
    generalize (if (hi - (vI l k : Rat)) / ((vI l (k + 1) - vI l k : Int) : Rat) < (lo - (vI l k : Rat)) / ((vI l (k + 1) - vI l k : Int) : Rat) then (lo - (vI l k : Rat)) / ((vI l (k + 1) - vI l k : Int) : Rat) else (hi - (vI l k : Rat)) / ((vI l (k + 1) - vI l k : Int) : Rat)) = g' at *
    have ea : ∀ w, (0 ≤ w ∧ f' ≤ w) ↔ (if 0 < f' then f' else 0) ≤ w := fun w => by split <;> constructor <;> intro q <;> grind
    have eb : ∀ w, (w ≤ 1 ∧ w ≤ g') ↔ w ≤ (if g' < 1 then g' else 1) := fun w => by split <;> constructor <;> intro q <;> grind
    have a0 : (0 : Rat) ≤ (if 0 < f' then f' else 0) := by split <;> grind
    have b1 : (if g' < 1 then g' else 1) ≤ (1 : Rat) := by split <;> grind
    generalize (if 0 < f' then f' else 0) = a at *
    generalize (if g' < 1 then g' else 1) = b at *
    have all : ∀ w, (On l k ((xI l k : Rat) + w * ((xI l (k + 1) - xI l k : Int) : Rat)) ∧ lo ≤ lin l k ((xI l k : Rat) + w * ((xI l (k + 1) - xI l k : Int) : Rat)) ∧ lin l k ((xI l k : Rat) + w * ((xI l (k + 1) - xI l k : Int) : Rat)) ≤ hi) ↔ (a ≤ w ∧ w ≤ b) := by
      intro w
      rw [on_share hs hk, lin_share hs, hrs, ← ea, ← eb]
      constructor
      · rintro ⟨⟨x1, x2⟩, x3, x4⟩; exact ⟨⟨x1, x3⟩, x2, x4⟩
      · rintro ⟨⟨x1, x3⟩, x2, x4⟩; exact ⟨⟨x1, x2⟩, x3, x4⟩
    split
    · rename_i c
      intro t ho hh
      obtain ⟨w, rfl⟩ := to_share hs t
      have := (all w).mp ⟨ho, hh⟩
      grind
    · rename_i c
      have xe : (xI l k : Rat) = (xI l k : Rat) + 0 * ((xI l (k + 1) - xI l k : Int) : Rat) := by grind
      have ye : (xI l (k + 1) : Rat) = (xI l k : Rat) + 1 * ((xI l (k + 1) - xI l k : Int) : Rat) := by have := hs.e; grind
      refine ⟨?_, (le_share hs a b).mpr (by grind), ?_, fun t => ?_⟩
      · have := (le_share hs 0 a).mpr a0
        grind
      · have := (le_share hs b 1).mpr b1
        grind
      · obtain ⟨w, rfl⟩ := to_share hs t
        rw [all, le_share hs, le_share hs]
theorem pieceY_says {l : Cu} (h : Curve l) {k : Nat} (hk : k + 1 < l.length) {v : Rat} : Says l k v v (pieceY l k v) := by
  have hs := share_of h hk
  unfold pieceY
  by_cases hv : vI l k = vI l (k + 1)
  · rw [if_pos hv]
    have hX : (xI l k : Rat) ≤ (xI l (k + 1) : Rat) := by have := hs.e; have := hs.s; grind
    split
    · rename_i c
      refine ⟨by show (xI l k : Rat) ≤ (xI l k : Rat); grind, hX, by show (xI l (k + 1) : Rat) ≤ (xI l (k + 1) : Rat); grind, fun t => ?_⟩
      rw [lin_flat hv]
      constructor
      · rintro ⟨a, _⟩; exact ⟨a.2.1, a.2.2⟩
      · rintro ⟨a, b⟩; exact ⟨⟨hk, a, b⟩, by grind, by grind⟩
    · rename_i c
      intro t _ hh
      rw [lin_flat hv] at hh
      exact c (by grind)
  · rw [if_neg hv]
    have hr : ((vI l (k + 1) - vI l k : Int) : Rat) ≠ 0 := cast_ne (by omega)
    have hrs := fun w => range_share (v := (vI l k : Rat)) (lo := v) (hi := v) (w := w) hr (by grind)
    show Says l k v v (if _ then some _ else none)
    generalize (v - (vI l k : Rat)) / ((vI l (k + 1) - vI l k : Int) : Rat) = f at *
    have all : ∀ w, (On l k ((xI l k : Rat) + w * ((xI l (k + 1) - xI l k : Int) : Rat)) ∧ v ≤ lin l k ((xI l k : Rat) + w * ((xI l (k + 1) - xI l k : Int) : Rat)) ∧ lin l k ((xI l k : Rat) + w * ((xI l (k + 1) - xI l k : Int) : Rat)) ≤ v) ↔ (0 ≤ w ∧ w ≤ 1 ∧ w = f) := by
      intro w
      have nf : ¬ f < f := by grind
      rw [on_share hs hk, lin_share hs, hrs, if_neg nf]
      constructor
      · rintro ⟨⟨q1, q2⟩, q3, q4⟩; exact ⟨q1, q2, by grind⟩
      · rintro ⟨q1, q2, rfl⟩; exact ⟨⟨q1, q2⟩, by grind, by grind⟩
    split
    · rename_i c
      have xe : (xI l k : Rat) = (xI l k : Rat) + 0 * ((xI l (k + 1) - xI l k : Int) : Rat) := by grind
      have ye : (xI l (k + 1) : Rat) = (xI l k : Rat) + 1 * ((xI l (k + 1) - xI l k : Int) : Rat) := by have := hs.e; grind
      refine ⟨?_, (le_share hs f f).mpr (by grind), ?_, fun t => ?_⟩
      · have := (le_share hs 0 f).mpr c.1
        grind
      · have := (le_share hs f 1).mpr (by grind)
        grind
      · obtain ⟨w, rfl⟩ := to_share hs t
        rw [all, le_share hs, le_share hs]
        constructor
        · rintro ⟨_, _, rfl⟩; exact ⟨by grind, by grind⟩
        · rintro ⟨x, y⟩; exact ⟨by grind, by grind, by grind⟩
    · rename_i c
      intro t ho hh
      obtain ⟨w, rfl⟩ := to_share hs t
      have := (all w).mp ⟨ho, hh⟩
      exact c ⟨by grind, by grind⟩
/-- the list so far -/
structure Sofar (l : Cu) (lo hi : Rat) (k : Nat) (F : St) : Prop where
  can : Can F
  le : ∀ e ∈ F, e.2 ≤ (xI l k : Rat)
  eq : ∀ u, inL F u ↔ inS l lo hi k u
  len : F.length ≤ k
theorem sofar0 {l : Cu} {lo hi : Rat} : Sofar l lo hi 0 [] := ⟨can_nil, fun _ h => absurd h List.not_mem_nil, fun u => ⟨fun ⟨_, h, _⟩ => absurd h List.not_mem_nil, fun ⟨k, h, _⟩ => absurd h (Nat.not_lt_zero k)⟩, Nat.le_refl _⟩
theorem inS_succ {l : Cu} {lo hi : Rat} {k : Nat} {u : Rat} : inS l lo hi (k + 1) u ↔ inS l lo hi k u ∨ (On l k u ∧ lo ≤ lin l k u ∧ lin l k u ≤ hi) := by
  constructor
  · rintro ⟨j, hj, a⟩
    by_cases c : j = k
    · subst c; exact .inr a
    · exact .inl ⟨j, by omega, a⟩
  · rintro (⟨j, hj, a⟩ | a)
    · exact ⟨j, by omega, a⟩
    · exact ⟨k, by omega, a⟩
theorem sofar_none {l : Cu} (h : Curve l) {lo hi : Rat} {k : Nat} {F : St} (hk : k + 1 < l.length) (hF : Sofar l lo hi k F) (hs : Says l k lo hi none) : Sofar l lo hi (k + 1) F := by
  have hx : (xI l k : Rat) < (xI l (k + 1) : Rat) := Rat.intCast_lt_intCast.mpr (h.up k hk)
  refine ⟨hF.can, fun e he => by have := hF.le e he; grind, fun u => ?_, by have := hF.len; omega⟩
  rw [hF.eq, inS_succ]
  constructor
  · exact .inl
  · rintro (a | ⟨a, b⟩)
    · exact a
    · exact absurd b (hs u a)
theorem sofar_some {l : Cu} (h : Curve l) {lo hi : Rat} {k : Nat} {F : St} {e : Rat × Rat} (hk : k + 1 < l.length) (hF : Sofar l lo hi k F) (hs : Says l k lo hi (some e)) : Sofar l lo hi (k + 1) (putIn F e.1 e.2) := by
  have hx : (xI l k : Rat) < (xI l (k + 1) : Rat) := Rat.intCast_lt_intCast.mpr (h.up k hk)
  obtain ⟨a, b, c, d⟩ := hs
  obtain ⟨p1, p2, p3⟩ := put_ok hF.can b a hF.le
  refine ⟨p1, fun f hf => ?_, fun u => ?_, ?_⟩
  · rcases p3 f hf with q | q <;> grind
  · rw [p2, hF.eq, inS_succ, d]
  · have hl := hF.len
    unfold putIn
    split
    · split
      · rw [List.length_append, List.length_dropLast]; show F.length - 1 + 1 ≤ k + 1; omega
      · rw [List.length_append]; show F.length + 1 ≤ k + 1; omega
    · show 1 ≤ k + 1; omega
end Lk18
end
section
set_option Elab.async false
set_option linter.all false
set_option maxRecDepth 100000
set_option maxHeartbeats 4000000
set_option exponentiation.threshold 5000
open PySem Mv Mv.PreA
local macro_rules | `(tactic| walk_at "ev") => `(tactic| try simp only [↓W_bCons, ↓W_bNil, ↓W_bBrk, ↓W_bCnt, ↓W_bExp, ↓W_bRet, ↓W_bRetN, ↓W_bIf, ↓W_bAsg, ↓W_bPar, ↓W_bAug, ↓W_eC, ↓W_eV, ↓W_eM, ↓W_hV, ↓W_hE, ↓W_eFz, ↓W_e1, ↓W_e2, ↓W_aNil, ↓W_aCons, ↓W_eN, ↓W_eTup, ↓W_eLst, ↓W_eCall, ↓W_eMut, ↓W_eMt, ↓W_eIf, ↓W_eAn, ↓W_eOr, ↓W_eNo, ↓W_eJ0, ↓W_eJ1, ↓W_tT, ↓W_tB, ↓W_tNo, ↓W_tAn, ↓W_tOr, ↓W_tAll, ↓W_gNm, ↓W_gsNil, ↓W_gsCons, ↓W_gTp, ↓W_gTpL, ↓W_gIx, ↓W_bFor, ↓W_bWhile, ↓W_iRg1, ↓W_iRg2, ↓W_iSq, ↓W_eLc, ↓W_eSl, ↓W_pN, ↓W_pS, ↓W_iEn, ↓W_iZp, ↓W_iRv, ↓W_iRg3, ↓W_iRgV, ↓W_eCh, ↓W_chIf, ↓W_bind, ↓W_map, ↓W_some, ↓W_none,
  Hd.get, List.getElem?_cons_zero, List.getElem?_cons_succ, List.getD_cons_zero, List.getD_cons_succ, List.set_cons_zero, List.set_cons_succ, List.length_cons, List.length_nil, List.map_cons, List.map_nil, List.replicate, List.cons_append, List.nil_append, Nat.reduceAdd, Nat.reduceSub, Nat.reduceLeDiff, Nat.zero_add,
  D.frz, D.frzL, D.fz, D.fzL, tru_b, tru_i, tru_n, tru_l, tru_t, tru_c, tms, wipeD, unw, lend, unlend, keepL, Option.map_some, Option.bind_some, Bool.and_true, Bool.true_and, Bool.not_true, Bool.not_false, ↓reduceIte, if_true, if_false, Bool.false_eq_true, true_and, and_true, ite_b, ite_nb, vv_fmtI, vv_fmtS, vv_reprI, vv_reprS, vv_addS, vv_augI, vv_augS, vv_lenS, vv_eqS, vv_neS, vv_addL, vv_addT,
  vv_add, vv_sub, vv_mul, vv_div, vv_mod, vv_pow, vv_shl, vv_shr, vv_neg, vv_lt, vv_le, vv_gt, vv_ge, vv_int, vv_intS, vv_intb, vv_abs, vv_gcd, vv_max2, vv_min2, vv_lenL, vv_lenC, vv_lenT, vv_idxL, vv_idxC, vv_idxT, vv_eqI, vv_eqB, vv_neI, vv_list, vv_listT, vv_tuple, vv_tupleT, vv_sum, vv_slL, vv_slS, vv_slT, vv_range, vv_index, vv_count, isL_l, isL_c, lenL_l, lenL_c, kindL, vv_maxL, vv_minL, vv_strI, vv_app, vv_isNN, vv_isIN, vv_isSN, vv_isBN, vv_isLN, vv_isTN, vv_isBB, vv_isNB, vv_isIB, vv_isSB, vv_isLB, vv_isTB, vv_inNN, vv_inIN, vv_inSN, vv_inBN, vv_inLN, vv_inTN, vv_inBB, atF0, atF1, atF2, atF3, atF4, atF5, okI, okB, okS, okN, okL, ix0, ix1, ix2, frzL_int, fzL_int, intsD_map, isiI_int, isiI_str, isiI_bool, isiI_list, isiI_tuple, isiS_int, isiS_str, isiS_bool, isiS_list, isiS_tuple, isiB_int, isiB_str, isiB_bool, isiB_list, isiB_tuple, isiL_int, isiL_str, isiL_bool, isiL_list, isiL_tuple, isiT_int, isiT_str, isiT_bool, isiT_list, isiT_tuple, isiN_int, isiN_str, isiN_bool, isiN_list, isiN_tuple])
local macro_rules | `(tactic| walk_at "mu") => `(tactic| repeat (first | (rw [W_ok (MulOk.right (by omega))]; walk_at "ev") | (rw [W_ok (MulOk.left (by omega))]; walk_at "ev") | (rw [W_ok (divok (by omega) (by omega))]; walk_at "ev") | (rw [W_ok (by omega)]; walk_at "ev")))
namespace Lk18
theorem ps_cases (F : St) : F = [] ∨ ∃ R e, F = R ++ [e] := by
  rcases List.eq_nil_or_concat F with h | ⟨R, e, h⟩
  · exact .inl h
  · exact .inr ⟨R, e, by rw [h, List.concat_eq_append]⟩
theorem putIn_nil {a b : Rat} : putIn [] a b = [(a, b)] := rfl
theorem putIn_snoc {R : St} {e : Rat × Rat} {a b : Rat} : putIn (R ++ [e]) a b = if e.2 = a then R ++ [(e.1, b)] else R ++ [e] ++ [(a, b)] := by
  unfold putIn
  rw [List.getLast?_append, List.getLast?_singleton, Option.some_or]
  show (if e.2 = a then (R ++ [e]).dropLast ++ _ else _) = _
  rw [List.dropLast_append_of_ne_nil (by simp)]
  simp
theorem atF_snoc {xs : List D} {d : D} (hd : d.frz = true) : atF (xs ++ [d]) (-1) = some d := by
  unfold atF L2.atI L2.ixN
  have hl : (xs ++ [d]).length = xs.length + 1 := by simp
  rw [if_neg (by omega), if_pos (by rw [hl]; omega), Option.bind_some]
  rw [show ((-1 : Int) + ((xs ++ [d]).length : Int)).toNat = xs.length by rw [hl]; omega]
  rw [List.getElem?_append_right (Nat.le_refl _), Nat.sub_self]
  show (if d.frz = true then some d else none) = _
  rw [if_pos hd]
theorem ixN_last {n : Nat} : L2.ixN (n + 1) (-1) = some n := by
  unfold L2.ixN
  rw [if_neg (by omega), if_pos (by omega)]
  congr 1
  omega
theorem gEq_rt (r s : Rat) : gEq (rt r) (rt s) = some (.bl (decide (r = s))) := by
  have ok : ∀ r : Rat, D.ok 60 (rt r) := fun r => ok_tup fun d hd => by
    simp only [List.mem_cons, List.not_mem_nil, or_false] at hd
    rcases hd with rfl | rfl <;> exact ok_int
  rw [gEq_data rfl (ok_mono (ok r) (by decide)) (ok_mono (ok s) (by decide))]
  congr 1
  show D.bl (PyData.eqv (D.pd (.tup [.int r.num, .int (r.den : Int)])) (D.pd (.tup [.int s.num, .int (s.den : Int)]))) = _
  simp only [D.pd, D.pdL, PyData.eqv, PyData.eqvAll, Bool.and_true]
  by_cases h : r = s
  · subst h; simp
  · rw [decide_eq_false h]
    congr 1
    refine Bool.eq_false_iff.mpr fun z => h ?_
    rw [Bool.and_eq_true] at z
    rw [rat_nd r, rat_nd s, eq_of_beq z.1, eq_of_beq z.2]
theorem okP {e : Rat × Rat} : okD (pR e) = some (pR e) := okD_of rfl
theorem map_snoc (R : St) (e : Rat × Rat) : (R ++ [e]).map pR = R.map pR ++ [pR e] := by rw [List.map_append]; rfl
theorem set_snoc {xs : List D} {d d' : D} : (xs ++ [d]).set xs.length d' = xs ++ [d'] := by
  rw [List.set_append_right _ _ (Nat.le_refl _), Nat.sub_self]; rfl
theorem between_ok {l : Cu} {lo hi : Rat} {m : Nat} (h : Curve l) (h1 : Sz m lo) (h2 : Sz m hi) (hm : m ≤ 100) (hlh : lo ≤ hi) : W (F_years_between [.lst true (l.map pI), rt lo, rt hi]) fun r => ∃ F, r = (.lst true (F.map pR), [.lst true (l.map pI), rt lo, rt hi]) ∧ Sofar l lo hi (l.length - 1) F := by
  have hn := h.n2
  have hn1 := h.n1
  unfold F_years_between
  rw [W_fnD rfl]
  unfold d_years_between
  walk_at "ev"
  rw [cut1]
  try rw [W_ok (frz_pI l)]
  walk_at "ev"
  refine W_list (ds := (l.zip (l.drop 1)).map zE) (fun k ρ => ∃ F x4 x5 x6 x7 x8, ρ = [.lst true (l.map pI), rt lo, rt hi, .lst true (F.map pR), x4, x5, x6, x7, x8] ∧ Sofar l lo hi k F) ⟨[], _, _, _, _, _, rfl, sofar0⟩ ?_ ?_ ?_
  · rintro k ρ ⟨F, x4, x5, x6, x7, x8, rfl, _⟩
    exact zip_src rfl k
  · rintro k d ρ hd ⟨F, x4, x5, x6, x7, x8, rfl, hF⟩
    rw [List.getElem?_map] at hd
    obtain ⟨e, he, rfl⟩ := Option.map_eq_some_iff.mp hd
    obtain ⟨hk, rfl⟩ := zip_at he
    have hsay := pieceR_says h hk hlh
    have hFl := hF.len
    walk_at "ev"
    rw [W_eq (piece_ok h hk h1 h2 hm)]
    cases hp : pieceR l k lo hi with
    | none =>
      rw [hp] at hsay
      unfold optP
      walk_at "ev"
      exact ⟨F, _, _, _, _, _, rfl, sofar_none h hk hF hsay⟩
    | some e =>
      rw [hp] at hsay
      have hnew := sofar_some h hk hF hsay
      unfold optP
      walk_at "ev"
      rcases ps_cases F with rfl | ⟨R, f, rfl⟩
      · walk_at "ev"
        rw [if_neg (by decide)]
        try walk_at "ev"
        try rw [W_ok (by decide)]
        try rw [W_some]
        try walk_at "ev"
        exact ⟨putIn [] e.1 e.2, _, _, _, _, _, rfl, hnew⟩
      · rw [map_snoc]
        walk_at "ev"
        rw [if_pos (by rw [List.length_append]; show (0 : Int) < ((R.map pR).length + 1 : Nat); omega)]
        rw [atF_snoc rfl]
        walk_at "ev"
        rw [okT]
        walk_at "ev"
        rw [okT]
        walk_at "ev"
        rw [gEq_rt]
        walk_at "ev"
        rw [putIn_snoc] at hnew
        by_cases c : f.2 = e.1
        · rw [if_pos c] at hnew
          simp only [c, if_true]
          walk_at "ev"
          rw [atF_snoc rfl]
          walk_at "ev"
          rw [okT]
          walk_at "ev"
          rw [okT]
          walk_at "ev"
          rw [show (R.map pR ++ [pR f]).length = (R.map pR).length + 1 by simp, ixN_last]
          walk_at "ev"
          rw [set_snoc]
          have es : R.map pR ++ [D.tup [rt f.1, rt e.2]] = (R ++ [(f.1, e.2)]).map pR := by rw [map_snoc]
          rw [es]
          exact ⟨_, _, _, _, _, _, rfl, hnew⟩
        · rw [if_neg c] at hnew
          simp only [c, if_false]
          walk_at "ev"
          rw [W_ok (by simp only [List.length_append, List.length_map, List.length_cons, List.length_nil] at hFl ⊢; omega)]
          walk_at "ev"
          have es : R.map pR ++ [pR f] ++ [pR e] = (R ++ [f] ++ [(e.1, e.2)]).map pR := by rw [map_snoc, map_snoc]
          rw [es]
          exact ⟨_, _, _, _, _, _, rfl, hnew⟩
  · rintro ρ ⟨F, x4, x5, x6, x7, x8, rfl, hF⟩
    walk_at "ev"
    rw [List.length_map, zip_len] at hF
    exact ⟨F, rfl, hF⟩
end Lk18
end
section
set_option Elab.async false
set_option linter.all false
set_option maxRecDepth 100000
set_option maxHeartbeats 4000000
set_option exponentiation.threshold 5000
open PySem Mv Mv.PreA
local macro_rules | `(tactic| walk_at "ev") => `(tactic| try simp only [↓W_bCons, ↓W_bNil, ↓W_bBrk, ↓W_bCnt, ↓W_bExp, ↓W_bRet, ↓W_bRetN, ↓W_bIf, ↓W_bAsg, ↓W_bPar, ↓W_bAug, ↓W_eC, ↓W_eV, ↓W_eM, ↓W_hV, ↓W_hE, ↓W_eFz, ↓W_e1, ↓W_e2, ↓W_aNil, ↓W_aCons, ↓W_eN, ↓W_eTup, ↓W_eLst, ↓W_eCall, ↓W_eMut, ↓W_eMt, ↓W_eIf, ↓W_eAn, ↓W_eOr, ↓W_eNo, ↓W_eJ0, ↓W_eJ1, ↓W_tT, ↓W_tB, ↓W_tNo, ↓W_tAn, ↓W_tOr, ↓W_tAll, ↓W_gNm, ↓W_gsNil, ↓W_gsCons, ↓W_gTp, ↓W_gTpL, ↓W_gIx, ↓W_bFor, ↓W_bWhile, ↓W_iRg1, ↓W_iRg2, ↓W_iSq, ↓W_eLc, ↓W_eSl, ↓W_pN, ↓W_pS, ↓W_iEn, ↓W_iZp, ↓W_iRv, ↓W_iRg3, ↓W_iRgV, ↓W_eCh, ↓W_chIf, ↓W_bind, ↓W_map, ↓W_some, ↓W_none,
  Hd.get, List.getElem?_cons_zero, List.getElem?_cons_succ, List.getD_cons_zero, List.getD_cons_succ, List.set_cons_zero, List.set_cons_succ, List.length_cons, List.length_nil, List.map_cons, List.map_nil, List.replicate, List.cons_append, List.nil_append, Nat.reduceAdd, Nat.reduceSub, Nat.reduceLeDiff, Nat.zero_add,
  D.frz, D.frzL, D.fz, D.fzL, tru_b, tru_i, tru_n, tru_l, tru_t, tru_c, tms, wipeD, unw, lend, unlend, keepL, Option.map_some, Option.bind_some, Bool.and_true, Bool.true_and, Bool.not_true, Bool.not_false, ↓reduceIte, if_true, if_false, Bool.false_eq_true, true_and, and_true, ite_b, ite_nb, vv_fmtI, vv_fmtS, vv_reprI, vv_reprS, vv_addS, vv_augI, vv_augS, vv_lenS, vv_eqS, vv_neS, vv_addL, vv_addT,
  vv_add, vv_sub, vv_mul, vv_div, vv_mod, vv_pow, vv_shl, vv_shr, vv_neg, vv_lt, vv_le, vv_gt, vv_ge, vv_int, vv_intS, vv_intb, vv_abs, vv_gcd, vv_max2, vv_min2, vv_lenL, vv_lenC, vv_lenT, vv_idxL, vv_idxC, vv_idxT, vv_eqI, vv_eqB, vv_neI, vv_list, vv_listT, vv_tuple, vv_tupleT, vv_sum, vv_slL, vv_slS, vv_slT, vv_range, vv_index, vv_count, isL_l, isL_c, lenL_l, lenL_c, kindL, vv_maxL, vv_minL, vv_strI, vv_app, vv_isNN, vv_isIN, vv_isSN, vv_isBN, vv_isLN, vv_isTN, vv_isBB, vv_isNB, vv_isIB, vv_isSB, vv_isLB, vv_isTB, vv_inNN, vv_inIN, vv_inSN, vv_inBN, vv_inLN, vv_inTN, vv_inBB, atF0, atF1, atF2, atF3, atF4, atF5, okI, okB, okS, okN, okL, ix0, ix1, ix2, frzL_int, fzL_int, intsD_map, isiI_int, isiI_str, isiI_bool, isiI_list, isiI_tuple, isiS_int, isiS_str, isiS_bool, isiS_list, isiS_tuple, isiB_int, isiB_str, isiB_bool, isiB_list, isiB_tuple, isiL_int, isiL_str, isiL_bool, isiL_list, isiL_tuple, isiT_int, isiT_str, isiT_bool, isiT_list, isiT_tuple, isiN_int, isiN_str, isiN_bool, isiN_list, isiN_tuple])
local macro_rules | `(tactic| walk_at "mu") => `(tactic| repeat (first | (rw [W_ok (MulOk.right (by omega))]; walk_at "ev") | (rw [W_ok (MulOk.left (by omega))]; walk_at "ev") | (rw [W_ok (divok (by omega) (by omega))]; walk_at "ev") | (rw [W_ok (by omega)]; walk_at "ev")))
namespace Lk18
noncomputable def yearsP : Ev → Option Out := bIf (tB' (e2 gEq (hV 4) (hV 6))) (bIf (tB' (e2 gEq (hV 1) (hE (eCall 1 F_whole (aCons (hV 4) aNil))))) (bAsg (eTup (aCons (hE (eFz (eCall 1 F_whole (aCons (hV 3) aNil)))) (aCons (hE (eFz (eCall 1 F_whole (aCons (hV 5) aNil)))) aNil))) (gNm 7)) (bNil)) (bCons (bAsg (eCall 2 F_over (aCons (hE (eFz (eCall 2 F_minus (aCons (hV 1) (aCons (hE (eFz (eCall 1 F_whole (aCons (hV 4) aNil)))) aNil))))) (aCons (hE (eFz (eCall 1 F_whole (aCons (hE (e2 gSubt (hV 6) (hV 4))) aNil)))) aNil))) (gNm 8)) (bIf (tAn (tB' (e2 gGe (hE (e2 gIdx (hV 8) (hE (eC (.int 0))))) (hE (eC (.int 0))))) (tNo (tT (hE (eCall 2 F_is_less (aCons (hE (eFz (eTup (aCons (hE (eC (.int 1))) (aCons (hE (eC (.int 1))) aNil))))) (aCons (hV 8) aNil))))))) (bCons (bAsg (eCall 2 F_plus (aCons (hE (eFz (eCall 1 F_whole (aCons (hV 3) aNil)))) (aCons (hE (eFz (eCall 2 F_times (aCons (hV 8) (aCons (hE (eFz (eCall 1 F_whole (aCons (hE (e2 gSubt (hV 5) (hV 3))) aNil)))) aNil))))) aNil))) (gNm 9)) (bAsg (eTup (aCons (hE (eV 9)) (aCons (hE (eV 9)) aNil))) (gNm 7))) (bNil)))
noncomputable def yearsT : Ev → Option Out := bIf (tB' (e2 (gIsB true) (hV 7) (hE (eC .non)))) (bIf (tAn (tB' (e2 gGt (hE (eN gLen (aCons (hV 2) aNil))) (hE (eC (.int 0))))) (tB' (e2 gEq (hE (e2 gIdx (hE (e2 gIdx (hV 2) (hE (e1 gNeg (hE (eC (.int 1))))))) (hE (eC (.int 1))))) (hE (e2 gIdx (hV 7) (hE (eC (.int 0)))))))) (bAsg (eTup (aCons (hE (e2 gIdx (hE (e2 gIdx (hV 2) (hE (e1 gNeg (hE (eC (.int 1))))))) (hE (eC (.int 0))))) (aCons (hE (e2 gIdx (hV 7) (hE (eC (.int 1))))) aNil))) (gIx 2 (hE (e1 gNeg (hE (eC (.int 1))))))) (bExp (eMut 2 gApp (aCons (hE (eV 7)) aNil)))) (bNil)
theorem d_years_eq : d_years_of = bCons (bAsg (eLst (aNil)) (gNm 2)) (bCons (bFor (iZp (aCons (hV 0) (aCons (hE (eSl (hV 0) (pS (hE (eC (.int 1)))) (pN))) aNil))) (gTp 2 (gsCons (gTp 2 (gsCons (gNm 3) (gsCons (gNm 4) gsNil))) (gsCons (gTp 2 (gsCons (gNm 5) (gsCons (gNm 6) gsNil))) gsNil))) (bCons (bAsg (eC .non) (gNm 7)) (bCons yearsP yearsT))) (bRet (eM 2))) := rfl
theorem num_nn {r : Rat} : (0 ≤ r.num) ↔ ((0 : Int) : Rat) ≤ r := Rat.num_nonneg
theorem yearsP_ok {l : Cu} {v : Rat} {m : Nat} {k : Nat} {x0 x2 x8 x9 : D} (h : Curve l) (hk : k + 1 < l.length) (h1 : Sz m v) (hm : m ≤ 100) :
    W (yearsP [x0, rt v, x2, .int (xI l k), .int (vI l k), .int (xI l (k + 1)), .int (vI l (k + 1)), .non, x8, x9]) fun o => ∃ y8 y9, o = .nx [x0, rt v, x2, .int (xI l k), .int (vI l k), .int (xI l (k + 1)), .int (vI l (k + 1)), optP (pieceY l k v), y8, y9] := by
  obtain ⟨_, s1, s1', s2, s3, s4, s4', n1⟩ := bd_of h hk
  have z1 : Sz 1 ((1 : Int) : Rat) := sz_int (by decide) (by decide)
  unfold yearsP
  walk_at "ev"
  unfold pieceY
  split
  · rename_i hv
    rw [W_eq (whole_ok (n := vI l k))]
    walk_at "ev"
    rw [gEq_rt]
    walk_at "ev"
    by_cases c : v = (vI l k : Rat)
    · rw [if_pos c, if_pos c]
      rw [W_eq (whole_ok (n := xI l k))]
      walk_at "ev"
      rw [W_eq (whole_ok (n := xI l (k + 1)))]
      walk_at "ev"
      exact ⟨_, _, rfl⟩
    · rw [if_neg c, if_neg c]
      try walk_at "ev"
      exact ⟨_, _, rfl⟩
  · rename_i hv
    have n3 : ((vI l (k + 1) - vI l k : Int) : Rat) ≠ 0 := cast_ne (by omega)
    rw [W_eq (whole_ok (n := vI l k))]
    walk_at "ev"
    rw [eq_minus, W_eq (minusR h1 s4 (by omega) (by omega))]
    walk_at "ev"
    rw [W_eq (whole_ok (n := vI l (k + 1) - vI l k))]
    walk_at "ev"
    rw [eq_over, W_eq (overR (h1.sub s4) s3 (by omega) (by omega) n3)]
    walk_at "ev"
    have sf := (h1.sub s4).div s3 n3
    generalize (v - (vI l k : Rat)) / ((vI l (k + 1) - vI l k : Int) : Rat) = f at *
    rw [← c0, ← c1]
    by_cases a1 : ((0 : Int) : Rat) ≤ f
    · rw [if_pos (num_nn.mpr a1)]
      rw [rt_one, eq_less, W_eq (lessR z1 sf (by omega) (by omega))]
      walk_at "ev"
      by_cases a2 : ((1 : Int) : Rat) < f
      · rw [if_pos a2, if_neg (fun w => w.2 a2)]
        try walk_at "ev"
        exact ⟨_, _, rfl⟩
      · rw [if_neg a2, if_pos ⟨a1, a2⟩]
        rw [W_eq (whole_ok (n := xI l k))]
        walk_at "ev"
        rw [W_eq (whole_ok (n := xI l (k + 1) - xI l k))]
        walk_at "ev"
        rw [eq_times, W_eq (timesR sf s2 (by omega) (by omega))]
        walk_at "ev"
        rw [eq_plus, W_eq (plusR s1 (sf.mul s2) (by omega) (by omega))]
        walk_at "ev"
        exact ⟨_, _, rfl⟩
    · rw [if_neg (fun w => a1 (num_nn.mp w)), if_neg (fun w => a1 w.1)]
      try walk_at "ev"
      exact ⟨_, _, rfl⟩
theorem yearsT_ok {x0 x1 x3 x4 x5 x6 x8 x9 : D} {F : St} {p : Option (Rat × Rat)} (hl : F.length ≤ 100) :
    W (yearsT [x0, x1, .lst true (F.map pR), x3, x4, x5, x6, optP p, x8, x9]) fun o => o = .nx [x0, x1, .lst true ((match p with | none => F | some e => putIn F e.1 e.2).map pR), x3, x4, x5, x6, optP p, x8, x9] := by
  unfold yearsT
  cases p with
  | none =>
    unfold optP
    walk_at "ev"
  | some e =>
    unfold optP
    walk_at "ev"
    rcases ps_cases F with rfl | ⟨R, f, rfl⟩
    · walk_at "ev"
      rw [if_neg (by decide)]
      try walk_at "ev"
      try rw [W_ok (by decide)]
      try walk_at "ev"
      try rfl
    · rw [map_snoc]
      walk_at "ev"
      rw [if_pos (by rw [List.length_append]; show (0 : Int) < ((R.map pR).length + 1 : Nat); omega)]
      rw [atF_snoc rfl]
      walk_at "ev"
      rw [okT]
      walk_at "ev"
      rw [okT]
      walk_at "ev"
      rw [gEq_rt]
      walk_at "ev"
      rw [putIn_snoc]
      by_cases c : f.2 = e.1
      · simp only [c, if_true]
        walk_at "ev"
        rw [atF_snoc rfl]
        walk_at "ev"
        rw [okT]
        walk_at "ev"
        rw [okT]
        walk_at "ev"
        rw [show (R.map pR ++ [pR f]).length = (R.map pR).length + 1 by simp, ixN_last]
        walk_at "ev"
        rw [set_snoc, map_snoc]
      · simp only [c, if_false]
        walk_at "ev"
        rw [W_ok (by simp only [List.length_append, List.length_map, List.length_cons, List.length_nil] at hl ⊢; omega)]
        walk_at "ev"
        rw [map_snoc, map_snoc]
theorem years_ok {l : Cu} {v : Rat} {m : Nat} (h : Curve l) (h1 : Sz m v) (hm : m ≤ 100) : W (F_years_of [.lst true (l.map pI), rt v]) fun r => ∃ F, r = (.lst true (F.map pR), [.lst true (l.map pI), rt v]) ∧ Sofar l v v (l.length - 1) F := by
  have hn := h.n2
  have hn1 := h.n1
  unfold F_years_of
  rw [W_fnD rfl]
  rw [d_years_eq]
  walk_at "ev"
  rw [cut1]
  try rw [W_ok (frz_pI l)]
  walk_at "ev"
  refine W_list (ds := (l.zip (l.drop 1)).map zE) (fun k ρ => ∃ F x3 x4 x5 x6 x7 x8 x9, ρ = [.lst true (l.map pI), rt v, .lst true (F.map pR), x3, x4, x5, x6, x7, x8, x9] ∧ Sofar l v v k F) ⟨[], _, _, _, _, _, _, _, rfl, sofar0⟩ ?_ ?_ ?_
  · rintro k ρ ⟨F, x3, x4, x5, x6, x7, x8, x9, rfl, _⟩
    exact zip_src rfl k
  · rintro k d ρ hd ⟨F, x3, x4, x5, x6, x7, x8, x9, rfl, hF⟩
    rw [List.getElem?_map] at hd
    obtain ⟨e, he, rfl⟩ := Option.map_eq_some_iff.mp hd
    obtain ⟨hk, rfl⟩ := zip_at he
    have hsay := pieceY_says h hk (v := v)
    have hFl := hF.len
    walk_at "ev"
    refine W_mono (yearsP_ok h hk h1 hm) ?_
    rintro o ⟨y8, y9, rfl⟩
    walk_at "ev"
    refine W_mono (yearsT_ok (F := F) (p := pieceY l k v) (by omega)) ?_
    rintro o rfl
    cases hp : pieceY l k v with
    | none =>
      rw [hp] at hsay
      exact ⟨F, _, _, _, _, _, _, _, rfl, sofar_none h hk hF hsay⟩
    | some e =>
      rw [hp] at hsay
      exact ⟨putIn F e.1 e.2, _, _, _, _, _, _, _, rfl, sofar_some h hk hF hsay⟩
  · rintro ρ ⟨F, x3, x4, x5, x6, x7, x8, x9, rfl, hF⟩
    walk_at "ev"
    rw [List.length_map, zip_len] at hF
    exact ⟨F, rfl, hF⟩
end Lk18
end
section
set_option Elab.async false
set_option linter.all false
set_option maxRecDepth 100000
set_option maxHeartbeats 4000000
set_option exponentiation.threshold 5000
open PySem Mv Mv.PreA
local macro_rules | `(tactic| walk_at "ev") => `(tactic| try simp only [↓W_bCons, ↓W_bNil, ↓W_bBrk, ↓W_bCnt, ↓W_bExp, ↓W_bRet, ↓W_bRetN, ↓W_bIf, ↓W_bAsg, ↓W_bPar, ↓W_bAug, ↓W_eC, ↓W_eV, ↓W_eM, ↓W_hV, ↓W_hE, ↓W_eFz, ↓W_e1, ↓W_e2, ↓W_aNil, ↓W_aCons, ↓W_eN, ↓W_eTup, ↓W_eLst, ↓W_eCall, ↓W_eMut, ↓W_eMt, ↓W_eIf, ↓W_eAn, ↓W_eOr, ↓W_eNo, ↓W_eJ0, ↓W_eJ1, ↓W_tT, ↓W_tB, ↓W_tNo, ↓W_tAn, ↓W_tOr, ↓W_tAll, ↓W_gNm, ↓W_gsNil, ↓W_gsCons, ↓W_gTp, ↓W_gTpL, ↓W_gIx, ↓W_bFor, ↓W_bWhile, ↓W_iRg1, ↓W_iRg2, ↓W_iSq, ↓W_eLc, ↓W_eSl, ↓W_pN, ↓W_pS, ↓W_iEn, ↓W_iZp, ↓W_iRv, ↓W_iRg3, ↓W_iRgV, ↓W_eCh, ↓W_chIf, ↓W_bind, ↓W_map, ↓W_some, ↓W_none,
  Hd.get, List.getElem?_cons_zero, List.getElem?_cons_succ, List.getD_cons_zero, List.getD_cons_succ, List.set_cons_zero, List.set_cons_succ, List.length_cons, List.length_nil, List.map_cons, List.map_nil, List.replicate, List.cons_append, List.nil_append, Nat.reduceAdd, Nat.reduceSub, Nat.reduceLeDiff, Nat.zero_add,
  D.frz, D.frzL, D.fz, D.fzL, tru_b, tru_i, tru_n, tru_l, tru_t, tru_c, tms, wipeD, unw, lend, unlend, keepL, Option.map_some, Option.bind_some, Bool.and_true, Bool.true_and, Bool.not_true, Bool.not_false, ↓reduceIte, if_true, if_false, Bool.false_eq_true, true_and, and_true, ite_b, ite_nb, vv_fmtI, vv_fmtS, vv_reprI, vv_reprS, vv_addS, vv_augI, vv_augS, vv_lenS, vv_eqS, vv_neS, vv_addL, vv_addT,
  vv_add, vv_sub, vv_mul, vv_div, vv_mod, vv_pow, vv_shl, vv_shr, vv_neg, vv_lt, vv_le, vv_gt, vv_ge, vv_int, vv_intS, vv_intb, vv_abs, vv_gcd, vv_max2, vv_min2, vv_lenL, vv_lenC, vv_lenT, vv_idxL, vv_idxC, vv_idxT, vv_eqI, vv_eqB, vv_neI, vv_list, vv_listT, vv_tuple, vv_tupleT, vv_sum, vv_slL, vv_slS, vv_slT, vv_range, vv_index, vv_count, isL_l, isL_c, lenL_l, lenL_c, kindL, vv_maxL, vv_minL, vv_strI, vv_app, vv_isNN, vv_isIN, vv_isSN, vv_isBN, vv_isLN, vv_isTN, vv_isBB, vv_isNB, vv_isIB, vv_isSB, vv_isLB, vv_isTB, vv_inNN, vv_inIN, vv_inSN, vv_inBN, vv_inLN, vv_inTN, vv_inBB, atF0, atF1, atF2, atF3, atF4, atF5, okI, okB, okS, okN, okL, ix0, ix1, ix2, frzL_int, fzL_int, intsD_map, isiI_int, isiI_str, isiI_bool, isiI_list, isiI_tuple, isiS_int, isiS_str, isiS_bool, isiS_list, isiS_tuple, isiB_int, isiB_str, isiB_bool, isiB_list, isiB_tuple, isiL_int, isiL_str, isiL_bool, isiL_list, isiL_tuple, isiT_int, isiT_str, isiT_bool, isiT_list, isiT_tuple, isiN_int, isiN_str, isiN_bool, isiN_list, isiN_tuple])
local macro_rules | `(tactic| walk_at "mu") => `(tactic| repeat (first | (rw [W_ok (MulOk.right (by omega))]; walk_at "ev") | (rw [W_ok (MulOk.left (by omega))]; walk_at "ev") | (rw [W_ok (divok (by omega) (by omega))]; walk_at "ev") | (rw [W_ok (by omega)]; walk_at "ev")))
namespace Lk18
def lowLoop : Ev → Option Out := bCons (bIf (tB' (e2 gEq (hV 3) (hE (eC (.int 0))))) (bBrk) (bNil)) (bPar 2 3 (aCons (hE (eV 3)) (aCons (hE (e2 gMod (hE (eN gInt (aCons (hV 2) aNil))) (hV 3))) aNil)))
theorem low_loop {t b : Int} (hb : 0 < b) (hs : b < 2 ^ 400) {Q : Out → Prop} (hQ : ∀ x3 x4, Q (.nx [.int t, .int b, .int (gd t b), x3, x4])) : W (lrun (fStep (itR 0 1 (Int.toNat 900)) (gNm 4) lowLoop) [.int t, .int b, .int (if t < 0 then -t else t), .int b, .any]) Q := by
  refine W_range (fun k ρ => ∃ one rest x4, ρ = [.int t, .int b, .int one, .int rest, x4] ∧ 0 ≤ one ∧ 0 ≤ rest ∧ gd one rest = gd t b ∧ (k = 0 → rest = b) ∧ (1 ≤ k → rest < one ∧ one * rest * 2 ^ (k - 1) < 2 ^ 800)) ?_ ?_ ?_
  · refine ⟨_, _, _, rfl, by split <;> omega, by omega, ?_, fun _ => rfl, fun h => by omega⟩
    unfold gd
    congr 2
    split <;> omega
  · rintro k ρ hk ⟨one, rest, x4, rfl, h1, h2, h3, h4, h5⟩
    unfold lowLoop
    walk_at "ev"
    split
    · rename_i h0
      subst h0
      rw [gd_zero h1] at h3
      subst h3
      exact hQ _ _
    · rename_i h0
      have h6 : 0 < rest := by omega
      rw [W_ok h6]
      walk_at "ev"
      refine ⟨rest, one % rest, _, rfl, h2, Int.emod_nonneg _ (by omega), ?_, by omega, fun _ => ⟨Int.emod_lt_of_pos _ h6, ?_⟩⟩
      · rw [← h3]
        unfold gd
        rw [euclid h1 h6]
      · rw [Nat.add_sub_cancel]
        by_cases hk0 : k = 0
        · subst hk0
          have e := h4 rfl
          subst e
          rw [Int.pow_zero, Int.mul_one]
          have l1 : one % rest < rest := Int.emod_lt_of_pos _ h6
          have l2 := Int.mul_lt_mul_of_pos_left l1 h6
          have l3 : rest * rest ≤ 2 ^ 400 * 2 ^ 400 := Int.mul_le_mul (by omega) (by omega) h2 (by decide)
          rw [← Int.pow_add] at l3
          exact Int.lt_of_lt_of_le l2 l3
        · obtain ⟨h7, h8⟩ := h5 (by omega)
          have l1 := halve h6 h7
          obtain ⟨m, rfl⟩ : ∃ m, k = m + 1 := ⟨k - 1, by omega⟩
          rw [Nat.add_sub_cancel] at h8
          have l2 : (0:Int) < 2 ^ m := Int.pow_pos (by decide)
          have l3 := Int.mul_lt_mul_of_pos_right l1 l2
          have l4 : rest * (one % rest) * 2 ^ (m + 1) = 2 * (rest * (one % rest)) * 2 ^ m := by
            rw [Int.pow_succ, Int.mul_comm 2, Int.mul_assoc _ 2, Int.mul_comm 2]
          rw [l4]
          exact Int.lt_trans l3 h8
  · rintro ρ ⟨one, rest, x4, rfl, h1, h2, h3, h4, h5⟩
    obtain ⟨h6, h7⟩ := h5 (by decide)
    have h8 : rest = 0 := by
      by_cases hr : rest = 0
      · exact hr
      exfalso
      have l1 : 1 * 1 ≤ one * rest := Int.mul_le_mul (by omega) (by omega) (by decide) (by omega)
      have l2 := Int.mul_le_mul_of_nonneg_right l1 (c := 2 ^ ((Int.toNat 900) - 1)) (by decide)
      have l3 : (2:Int) ^ 800 ≤ 1 * 1 * 2 ^ ((Int.toNat 900) - 1) := by decide +kernel
      exact absurd (Int.lt_of_le_of_lt (Int.le_trans l3 l2) h7) (Int.lt_irrefl _)
    subst h8
    rw [gd_zero h1] at h3
    subst h3
    exact hQ _ _
theorem natlt {b : Int} {n : Nat} (hs : b.natAbs < n) (h : b < 0) : -b < (n : Int) := by omega
theorem natlt2 {b : Int} {n : Nat} (hs : b.natAbs < n) (h : 0 ≤ b) : b < (n : Int) := by omega
theorem low_ok {t b : Int} (hb : b ≠ 0) (hs : b.natAbs < 2 ^ 400) : F_law_low [.int t, .int b] = some (pr (lowP t b) (lowQ t b), [.any, .any]) := by
  have hg := gd_pos (t := t) hb
  have hl := gd_abs (t := t) hb
  have hd : DivOk (gd t b) := ⟨hg, Nat.lt_of_le_of_lt hl (Nat.lt_of_lt_of_le hs (by decide +kernel))⟩
  apply of_W
  unfold F_law_low
  rw [W_fnD rfl]
  unfold d_law_low
  change W (bCons _ (bCons _ (bCons (bFor _ _ lowLoop) _)) _) _
  walk_at "ev"
  split
  · rename_i hb0
    rw [W_ok (by decide)]
    refine low_loop (by omega) (natlt hs hb0) fun x3 x4 => ?_
    have e : gd (-t) (-b) = gd t b := by unfold gd; rw [Int.natAbs_neg, Int.natAbs_neg]
    rw [e]
    walk_at "ev"
    rw [W_ok hd, W_ok hd]
    unfold lowP lowQ
    rw [if_pos hb0, if_pos hb0]
  · rename_i hb0
    rw [W_ok (by decide)]
    refine low_loop (by omega) (natlt2 hs (by omega)) fun x3 x4 => ?_
    walk_at "ev"
    rw [W_ok hd, W_ok hd]
    unfold lowP lowQ
    rw [if_neg hb0, if_neg hb0]

theorem low_rt {t b : Int} (hb : b ≠ 0) (hs : b.natAbs < 2 ^ 400) : F_law_low [.int t, .int b] = some (rt ((t : Rat) / (b : Rat)), [.any, .any]) := by
  rw [low_ok hb hs]
  show some (fr t b, _) = _
  rw [fr_rt hb]
theorem law_less_ok {a b c d : Int} (hb : b.natAbs < 2 ^ 64) (hd : d.natAbs < 2 ^ 64) : F_law_less [.tup [.int a, .int b], .tup [.int c, .int d]] = some (.bl (decide (a * d < c * b)), [.tup [.int a, .int b], .tup [.int c, .int d]]) := by
  apply of_W
  unfold F_law_less
  rw [W_fnD rfl]
  unfold d_law_less
  walk_at "ev"
  rw [W_ok (MulOk.right hd)]
  walk_at "ev"
  rw [W_ok (MulOk.right hb)]
  walk_at "ev"
theorem less_rat {a b c d : Int} (hb : 0 < b) (hd : 0 < d) : a * d < c * b ↔ (a : Rat) / (b : Rat) < (c : Rat) / (d : Rat) := by
  have h1 : (0 : Rat) < (b : Rat) := Rat.intCast_pos.mpr hb
  have h2 : (0 : Rat) < (d : Rat) := Rat.intCast_pos.mpr hd
  rw [← Rat.intCast_lt_intCast, Rat.intCast_mul, Rat.intCast_mul]
  generalize (a : Rat) = A
  generalize (c : Rat) = C
  generalize (b : Rat) = B at *
  generalize (d : Rat) = D' at *
  have eA : A = A / B * B := by grind
  have eC : C = C / D' * D' := by grind
  generalize A / B = x at *
  generalize C / D' = y at *
  subst eA eC
  have h3 : 0 < B * D' := Rat.mul_pos h1 h2
  have m1 := mul_le_iff (a := y) (b := x) h3
  constructor
  · intro q
    by_cases z : x < y
    · exact z
    · exfalso
      have := m1.mpr (by grind)
      grind
  · intro q
    by_cases z : x * B * D' < y * D' * B
    · exact z
    · exfalso
      have := m1.mp (by grind)
      grind
/-- an unreduced fraction -/
theorem law_less_rat {a b c d : Int} (hb0 : 0 < b) (hd0 : 0 < d) (hb : b.natAbs < 2 ^ 64) (hd : d.natAbs < 2 ^ 64) : F_law_less [.tup [.int a, .int b], .tup [.int c, .int d]] = some (.bl (decide ((a : Rat) / (b : Rat) < (c : Rat) / (d : Rat))), [.tup [.int a, .int b], .tup [.int c, .int d]]) := by
  rw [law_less_ok hb hd, decide_eq_decide.mpr (less_rat hb0 hd0)]
theorem over_one (n : Int) : (n : Rat) / ((1 : Int) : Rat) = (n : Rat) := by rw [c1]; grind
theorem nd_pos (r : Rat) : 0 < (r.den : Int) := by have := r.den_pos; omega
theorem frz_pI' (e : Int × Int) : (pI e).frz = true := rfl
theorem curve_at {l : Cu} {k : Nat} (h : k < l.length) : atF (l.map pI) (k : Int) = some (pI (xI l k, vI l k)) := by
  rw [atF_nat, List.getElem?_map, List.getElem?_eq_getElem h]
  unfold xI vI
  rw [List.getD_eq_getElem?_getD, List.getElem?_eq_getElem h]
  rfl
theorem law_value_ok {l : Cu} {p q : Int} (h : Curve l) (hq : 0 < q) (hq2 : q.natAbs < 2 ^ 50) (h0 : (xI l 0 : Rat) ≤ (p : Rat) / (q : Rat)) (h1 : (p : Rat) / (q : Rat) ≤ (xI l (l.length - 1) : Rat)) :
    W (F_law_value [.lst true (l.map pI), .tup [.int p, .int q]]) fun r => r.2 = [.lst true (l.map pI), .tup [.int p, .int q]] ∧ ∃ k, On l k ((p : Rat) / (q : Rat)) ∧ ∃ top bot : Int, r.1 = .tup [.int top, .int bot] ∧ 0 < bot ∧ bot.natAbs < 2 ^ 62 ∧ (top : Rat) / (bot : Rat) = lin l k ((p : Rat) / (q : Rat)) := by
  have hn := h.n2
  have hn1 := h.n1
  unfold F_law_value
  rw [W_fnD rfl]
  unfold d_law_value
  walk_at "ev"
  rw [List.length_map, W_ok (by omega)]
  refine W_range (lo := 1) (fun k ρ => ∃ x2 x3 x4 x5, ρ = [.lst true (l.map pI), .tup [.int p, .int q], x2, x3, x4, x5] ∧ (xI l k : Rat) ≤ (p : Rat) / (q : Rat) ∧ (1 ≤ k → (xI l k : Rat) < (p : Rat) / (q : Rat))) ⟨_, _, _, _, rfl, h0, fun z => by omega⟩ ?_ ?_
  · rintro k ρ hk ⟨x2, x3, x4, x5, rfl, hle, _⟩
    have hk : k + 1 < l.length := by omega
    have e1 : (1 : Int) + (k : Int) = ((k + 1 : Nat) : Int) := by omega
    rw [e1]
    have b1 := h.xb k (by omega)
    have b2 := h.xb (k + 1) hk
    have b3 := h.vb k (by omega)
    have b4 := h.vb (k + 1) hk
    have u := h.up k hk
    walk_at "ev"
    rw [curve_at hk]
    walk_at "ev"
    rw [W_eq (law_less_rat (by decide) hq (by decide) (by omega)), over_one]
    walk_at "ev"
    split
    · rename_i c
      exact ⟨_, _, _, _, rfl, by grind, fun _ => c⟩
    · rename_i c
      have hon : On l k ((p : Rat) / (q : Rat)) := ⟨hk, hle, by grind⟩
      rw [show (((k + 1 : Nat) : Int) - 1) = (k : Int) by omega, curve_at hk]
      walk_at "ev"
      rw [curve_at (show k < l.length by omega)]
      walk_at "ev"
      rw [W_ok (MulOk.right (by omega))]
      walk_at "ev"
      rw [W_ok (MulOk.right (by omega))]
      walk_at "ev"
      rw [show (((k + 1 : Nat) : Int) - 1) = (k : Int) by omega, curve_at (show k < l.length by omega)]
      walk_at "ev"
      rw [W_ok (MulOk.right (by omega))]
      walk_at "ev"
      rw [W_ok (MulOk.right (by omega))]
      walk_at "ev"
      rw [W_ok (MulOk.right (by omega))]
      walk_at "ev"
      refine ⟨k, hon, _, _, rfl, Int.mul_pos (by omega) hq, ?_, ?_⟩
      · exact mul_sz (m := 12) (n := 50) (by omega) hq2
      · have hqr : (0 : Rat) < (q : Rat) := Rat.intCast_pos.mpr hq
        have hs := sz_ne h hk
        unfold lin
        rw [Rat.intCast_add, Rat.intCast_mul, Rat.intCast_mul, Rat.intCast_mul, Rat.intCast_mul, Rat.intCast_sub (a := p), Rat.intCast_mul]
        generalize ((xI l (k + 1) - xI l k : Int) : Rat) = S at *
        generalize ((vI l (k + 1) - vI l k : Int) : Rat) = R at *
        generalize (xI l k : Rat) = X at *
        generalize (vI l k : Rat) = V at *
        generalize (p : Rat) = P at *
        generalize (q : Rat) = Q at *
        have e1 : S ≠ 0 := by grind
        have e2 : Q ≠ 0 := by grind
        grind
  · rintro ρ ⟨x2, x3, x4, x5, rfl, hle, hlt⟩
    exfalso
    have e : ((l.length : Int) - 1).toNat = l.length - 1 := by omega
    rw [e] at hlt
    have := hlt (by omega)
    grind
end Lk18
end
section
set_option Elab.async false
set_option linter.all false
set_option maxHeartbeats 4000000
open PySem Mv
namespace Lk18
/-! a cut put in -/
def cntB (C : List Rat) (c : Rat) : Nat := (C.filter fun u => decide (u < c)).length
def insC (C : List Rat) (c : Rat) : List Rat := C.take (cntB C c) ++ [c] ++ C.drop (cntB C c)
theorem mem_insC {C : List Rat} {c u : Rat} : u ∈ insC C c ↔ u = c ∨ u ∈ C := by
  unfold insC
  have h := List.take_append_drop (cntB C c) C
  generalize List.take (cntB C c) C = A at *
  generalize List.drop (cntB C c) C = B at *
  subst h
  simp only [List.mem_append, List.mem_singleton, List.append_assoc]
  constructor
  · rintro (h | h | h)
    · exact .inr (.inl h)
    · exact .inl h
    · exact .inr (.inr h)
  · rintro (h | h | h)
    · exact .inr (.inl h)
    · exact .inl h
    · exact .inr (.inr h)
theorem len_insC {C : List Rat} {c : Rat} : (insC C c).length = C.length + 1 := by
  unfold insC
  have h := congrArg List.length (List.take_append_drop (cntB C c) C)
  simp only [List.length_append, List.length_cons, List.length_nil] at *
  omega
theorem insC_cons {C : List Rat} {a c : Rat} (h : a < c) : insC (a :: C) c = a :: insC C c := by
  have e : cntB (a :: C) c = cntB C c + 1 := by
    unfold cntB
    rw [List.filter_cons, if_pos (by simpa using h)]
    rfl
  unfold insC
  rw [e]
  rfl
theorem insC_head {C : List Rat} {c : Rat} (h : ∀ u ∈ C, ¬ u < c) : insC C c = c :: C := by
  have e : cntB C c = 0 := by
    unfold cntB
    rw [List.filter_eq_nil_iff.mpr fun u hu => by simpa using h u hu]
    rfl
  unfold insC
  rw [e]
  rfl
theorem srt_insC {c : Rat} : ∀ {C : List Rat}, C.Pairwise (· < ·) → c ∉ C → (insC C c).Pairwise (· < ·)
  | [], _, _ => by rw [insC_head fun u h => absurd h List.not_mem_nil]; exact List.pairwise_singleton _ _
  | a :: C, hs, hn => by
    obtain ⟨h1, h2⟩ := List.pairwise_cons.mp hs
    by_cases h : a < c
    · rw [insC_cons h, List.pairwise_cons]
      refine ⟨fun u hu => ?_, srt_insC h2 fun z => hn (List.mem_cons_of_mem _ z)⟩
      rcases mem_insC.mp hu with rfl | hu
      · exact h
      · exact h1 u hu
    · have hne : a ≠ c := fun z => hn (z ▸ List.mem_cons_self)
      have hca : c < a := by grind
      rw [insC_head fun u hu => by rcases List.mem_cons.mp hu with rfl | hu; · exact h
                                   · have := h1 u hu; grind, List.pairwise_cons]
      refine ⟨fun u hu => ?_, hs⟩
      rcases List.mem_cons.mp hu with rfl | hu
      · exact hca
      · have := h1 u hu; grind
/-! levels -/
def Lev (r : Rat) : Prop := r.num.natAbs ≤ 256 ∧ r.den ≤ 8
structure Low (l : Cu) : Prop where
  c : Curve l
  v : ∀ i, i < l.length → -100 ≤ vI l i ∧ vI l i ≤ 100
/-- where a level is met -/
def cutR (l : Cu) (k : Nat) (r : Rat) : Rat := (xI l k : Rat) + (r - (vI l k : Rat)) / ((vI l (k + 1) - vI l k : Int) : Rat) * ((xI l (k + 1) - xI l k : Int) : Rat)
theorem slope_ne {l : Cu} (h : Curve l) {k : Nat} (hk : k + 1 < l.length) : slope l k ≠ 0 ↔ vI l (k + 1) - vI l k ≠ 0 := by
  have h1 := sz_ne h hk
  unfold slope
  constructor
  · intro q z
    rw [z] at q
    exact q (by show ((0 : Int) : Rat) / _ = 0; rw [show ((0 : Int) : Rat) = 0 from rfl]; grind)
  · intro q z
    have q := cast_ne q
    grind
theorem cut_iff {l : Cu} (h : Curve l) {k : Nat} (hk : k + 1 < l.length) {r t : Rat} (hs : vI l (k + 1) - vI l k ≠ 0) : lin l k t = r ↔ t = cutR l k r := by
  have h1 := sz_ne h hk
  have q := cast_ne hs
  unfold lin cutR
  generalize ((xI l (k + 1) - xI l k : Int) : Rat) = S at *
  generalize ((vI l (k + 1) - vI l k : Int) : Rat) = R at *
  constructor <;> intro z <;> grind
/-- as it is reckoned -/
theorem cut_eq {l : Cu} {k : Nat} {r : Rat} (hs : vI l (k + 1) - vI l k ≠ 0) : ((xI l k * (r.den : Int) * (vI l (k + 1) - vI l k) + (r.num - vI l k * (r.den : Int)) * (xI l (k + 1) - xI l k) : Int) : Rat) / (((r.den : Int) * (vI l (k + 1) - vI l k) : Int) : Rat) = cutR l k r := by
  have q := cast_ne hs
  have hd := cast_ne (den_ne r)
  unfold cutR
  conv => rhs; rw [rat_nd r]
  rw [Rat.intCast_add, Rat.intCast_mul, Rat.intCast_mul, Rat.intCast_mul, Rat.intCast_mul, Rat.intCast_sub (a := r.num), Rat.intCast_mul]
  generalize ((xI l (k + 1) - xI l k : Int) : Rat) = S at *
  generalize ((vI l (k + 1) - vI l k : Int) : Rat) = R at *
  generalize (r.num : Rat) = P at *
  generalize (((r.den : Int)) : Rat) = Q at *
  grind
theorem abs_mul_le {a b : Int} {m n : Nat} (h1 : a.natAbs ≤ m) (h2 : b.natAbs ≤ n) : (a * b).natAbs ≤ m * n := by
  rw [Int.natAbs_mul]; exact Nat.mul_le_mul h1 h2
theorem cut_bds {l : Cu} (h : Low l) {k : Nat} (hk : k + 1 < l.length) {r : Rat} (hr : Lev r) :
    (xI l k * (r.den : Int) * (vI l (k + 1) - vI l k) + (r.num - vI l k * (r.den : Int)) * (xI l (k + 1) - xI l k)).natAbs < 2 ^ 21 ∧ ((r.den : Int) * (vI l (k + 1) - vI l k)).natAbs < 2 ^ 21 := by
  have b1 := h.c.xb k (by omega)
  have b2 := h.c.xb (k + 1) hk
  have b3 := h.v k (by omega)
  have b4 := h.v (k + 1) hk
  obtain ⟨r1, r2⟩ := hr
  have d1 : ((r.den : Int)).natAbs ≤ 8 := by rw [Int.natAbs_natCast]; exact r2
  have m1 := abs_mul_le (a := xI l k) (m := 400) (by omega) d1
  have m2 := abs_mul_le (b := vI l (k + 1) - vI l k) (n := 200) m1 (by omega)
  have m3 := abs_mul_le (a := vI l k) (m := 100) (by omega) d1
  have m4 := abs_mul_le (a := r.num - vI l k * (r.den : Int)) (m := 1056) (b := xI l (k + 1) - xI l k) (n := 600) (by omega) (by omega)
  have m5 := abs_mul_le (b := vI l (k + 1) - vI l k) (n := 200) d1 (by omega)
  constructor <;> omega
theorem cut_sz {l : Cu} (h : Low l) {k : Nat} (hk : k + 1 < l.length) {r : Rat} (hr : Lev r) (hs : vI l (k + 1) - vI l k ≠ 0) : Sz 21 (cutR l k r) := by
  obtain ⟨h1, h2⟩ := cut_bds h hk hr
  rw [← cut_eq hs]
  exact sz_of (Int.mul_ne_zero (den_ne r) hs) h1 h2
/-- what holds of the cuts when the pieces ahead of k are done, and of piece k the levels A -/
structure CutP (l : Cu) (Lv A : List Rat) (k : Nat) (C : List Rat) : Prop where
  srt : C.Pairwise (· < ·)
  ins : ∀ c ∈ C, (xI l 0 : Rat) ≤ c ∧ c ≤ (xI l (l.length - 1) : Rat)
  pts : ∀ i, i < l.length → (xI l i : Rat) ∈ C
  lv : ∀ j t, On l j t → slope l j ≠ 0 → ∀ r, (j < k ∧ r ∈ Lv ∨ j = k ∧ r ∈ A) → lin l j t = r → t ∈ C
  sz : ∀ c ∈ C, Sz 21 c
  len : C.length ≤ 7 + k * Lv.length + A.length
theorem x_le {l : Cu} (h : Curve l) {i j : Nat} (hij : i ≤ j) (hj : j < l.length) : (xI l i : Rat) ≤ (xI l j : Rat) := by
  refine Rat.intCast_le_intCast.mpr ?_
  by_cases c : i = j
  · subst c; exact Int.le_refl _
  · exact Int.le_of_lt (x_mono h (by omega) hj)
theorem cutp0 {l : Cu} (h : Low l) {Lv : List Rat} : CutP l Lv [] 0 (l.map fun e => (e.1 : Rat)) := by
  have hn := h.c.n2
  have hn1 := h.c.n1
  have at' : ∀ i (hi : i < l.length), (l.map fun e => (e.1 : Rat))[i]'(by rw [List.length_map]; exact hi) = (xI l i : Rat) := fun i hi => by
    rw [List.getElem_map]
    unfold xI
    rw [List.getD_eq_getElem?_getD, List.getElem?_eq_getElem hi]
    rfl
  have mem : ∀ c ∈ l.map (fun e => (e.1 : Rat)), ∃ i, i < l.length ∧ c = (xI l i : Rat) := fun c hc => by
    obtain ⟨i, hi, e⟩ := List.getElem_of_mem hc
    rw [List.length_map] at hi
    exact ⟨i, hi, by rw [← e, at' i hi]⟩
  refine ⟨?_, ?_, ?_, ?_, ?_, ?_⟩
  · rw [List.pairwise_iff_getElem]
    intro i j hi hj hij
    rw [List.length_map] at hi hj
    rw [at' i hi, at' j hj]
    exact Rat.intCast_lt_intCast.mpr (x_mono h.c hij hj)
  · intro c hc
    obtain ⟨i, hi, rfl⟩ := mem c hc
    exact ⟨x_le h.c (Nat.zero_le _) hi, x_le h.c (by omega) (by omega)⟩
  · intro i hi
    rw [← at' i hi]
    exact List.getElem_mem _
  · rintro j t _ _ r (⟨h1, _⟩ | ⟨_, h1⟩)
    · omega
    · exact absurd h1 List.not_mem_nil
  · intro c hc
    obtain ⟨i, hi, rfl⟩ := mem c hc
    have := h.c.xb i hi
    refine ⟨?_, ?_⟩
    · rw [Rat.num_intCast]; omega
    · rw [Rat.den_intCast]; decide
  · rw [List.length_map]; simp; omega
theorem cutp_next {l : Cu} {Lv : List Rat} {k : Nat} {C : List Rat} (hC : CutP l Lv Lv k C) : CutP l Lv [] (k + 1) C := by
  refine ⟨hC.srt, hC.ins, hC.pts, ?_, hC.sz, ?_⟩
  · rintro j t ho hs r (⟨h1, h2⟩ | ⟨_, h1⟩) e
    · by_cases c : j = k
      · exact hC.lv j t ho hs r (.inr ⟨c, h2⟩) e
      · exact hC.lv j t ho hs r (.inl ⟨by omega, h2⟩) e
    · exact absurd h1 List.not_mem_nil
  · have := hC.len
    rw [Nat.add_mul]; simp; omega
/-- one level more -/
theorem cutp_skip {l : Cu} {Lv A : List Rat} {k : Nat} {C : List Rat} {r : Rat} (hC : CutP l Lv A k C) (hn : ∀ t, On l k t → slope l k ≠ 0 → lin l k t = r → t ∈ C) : CutP l Lv (A ++ [r]) k C := by
  refine ⟨hC.srt, hC.ins, hC.pts, ?_, hC.sz, ?_⟩
  · rintro j t ho hs r' (h1 | ⟨h0, h1⟩) e
    · exact hC.lv j t ho hs r' (.inl h1) e
    · rcases List.mem_append.mp h1 with h1 | h1
      · exact hC.lv j t ho hs r' (.inr ⟨h0, h1⟩) e
      · rw [List.mem_singleton.mp h1] at e
        subst h0
        exact hn t ho hs e
  · have := hC.len
    rw [List.length_append]; omega
theorem cutp_put {l : Cu} (h : Low l) {Lv A : List Rat} {k : Nat} {C : List Rat} {r : Rat} (hC : CutP l Lv A k C) (hk : k + 1 < l.length) (hr : Lev r) (hs : vI l (k + 1) - vI l k ≠ 0) (ho : On l k (cutR l k r)) (hn : cutR l k r ∉ C) : CutP l Lv (A ++ [r]) k (insC C (cutR l k r)) := by
  refine ⟨srt_insC hC.srt hn, ?_, fun i hi => mem_insC.mpr (.inr (hC.pts i hi)), ?_, ?_, ?_⟩
  · intro c hc
    rcases mem_insC.mp hc with rfl | hc
    · have h1 := x_le h.c (Nat.zero_le k) (by omega)
      have h2 := x_le h.c (show k + 1 ≤ l.length - 1 by omega) (by omega)
      have := ho.2.1
      have := ho.2.2
      constructor <;> grind
    · exact hC.ins c hc
  · rintro j t hj hsl r' (h1 | ⟨h0, h1⟩) e
    · exact mem_insC.mpr (.inr (hC.lv j t hj hsl r' (.inl h1) e))
    · rcases List.mem_append.mp h1 with h1 | h1
      · exact mem_insC.mpr (.inr (hC.lv j t hj hsl r' (.inr ⟨h0, h1⟩) e))
      · rw [List.mem_singleton.mp h1] at e
        subst h0
        exact mem_insC.mpr (.inl ((cut_iff h.c hk hs).mp e))
  · intro c hc
    rcases mem_insC.mp hc with rfl | hc
    · exact cut_sz h hk hr hs
    · exact hC.sz c hc
  · have := hC.len
    rw [len_insC, List.length_append]
    show _ ≤ _ + (A.length + 1)
    omega
/-! values as data -/
theorem emb_rt : Emb rt := ⟨fun r => ok_tup fun d hd => by
    simp only [List.mem_cons, List.not_mem_nil, or_false] at hd
    rcases hd with rfl | rfl <;> exact ok_int, fun r s => by
  show (PyData.eqv (D.pd (.tup [.int r.num, .int (r.den : Int)])) (D.pd (.tup [.int s.num, .int (s.den : Int)]))) = _
  simp only [D.pd, D.pdL, PyData.eqv, PyData.eqvAll, Bool.and_true]
  by_cases h : r = s
  · subst h; simp
  · rw [decide_eq_false h]
    refine Bool.eq_false_iff.mpr fun z => h ?_
    rw [Bool.and_eq_true] at z
    rw [rat_nd r, rat_nd s, eq_of_beq z.1, eq_of_beq z.2]⟩
theorem frz_rt (l : List Rat) : D.frzL (l.map rt) = true := frzL_of fun d hd => by obtain ⟨x, _, rfl⟩ := List.mem_map.mp hd; rfl
theorem fzL_rt : ∀ l : List Rat, D.fzL (l.map rt) = l.map rt
  | [] => rfl
  | r :: l => by show rt r :: D.fzL (l.map rt) = _; rw [fzL_rt l]; rfl
end Lk18
end
section
set_option Elab.async false
set_option linter.all false
set_option maxRecDepth 100000
set_option maxHeartbeats 4000000
set_option exponentiation.threshold 5000
open PySem Mv Mv.PreA
local macro_rules | `(tactic| walk_at "ev") => `(tactic| try simp only [↓W_bCons, ↓W_bNil, ↓W_bBrk, ↓W_bCnt, ↓W_bExp, ↓W_bRet, ↓W_bRetN, ↓W_bIf, ↓W_bAsg, ↓W_bPar, ↓W_bAug, ↓W_eC, ↓W_eV, ↓W_eM, ↓W_hV, ↓W_hE, ↓W_eFz, ↓W_e1, ↓W_e2, ↓W_aNil, ↓W_aCons, ↓W_eN, ↓W_eTup, ↓W_eLst, ↓W_eCall, ↓W_eMut, ↓W_eMt, ↓W_eIf, ↓W_eAn, ↓W_eOr, ↓W_eNo, ↓W_eJ0, ↓W_eJ1, ↓W_tT, ↓W_tB, ↓W_tNo, ↓W_tAn, ↓W_tOr, ↓W_tAll, ↓W_gNm, ↓W_gsNil, ↓W_gsCons, ↓W_gTp, ↓W_gTpL, ↓W_gIx, ↓W_bFor, ↓W_bWhile, ↓W_iRg1, ↓W_iRg2, ↓W_iSq, ↓W_eLc, ↓W_eSl, ↓W_pN, ↓W_pS, ↓W_iEn, ↓W_iZp, ↓W_iRv, ↓W_iRg3, ↓W_iRgV, ↓W_eCh, ↓W_chIf, ↓W_bind, ↓W_map, ↓W_some, ↓W_none,
  Hd.get, List.getElem?_cons_zero, List.getElem?_cons_succ, List.getD_cons_zero, List.getD_cons_succ, List.set_cons_zero, List.set_cons_succ, List.length_cons, List.length_nil, List.map_cons, List.map_nil, List.replicate, List.cons_append, List.nil_append, Nat.reduceAdd, Nat.reduceSub, Nat.reduceLeDiff, Nat.zero_add,
  D.frz, D.frzL, D.fz, D.fzL, tru_b, tru_i, tru_n, tru_l, tru_t, tru_c, tms, wipeD, unw, lend, unlend, keepL, Option.map_some, Option.bind_some, Bool.and_true, Bool.true_and, Bool.not_true, Bool.not_false, ↓reduceIte, if_true, if_false, Bool.false_eq_true, true_and, and_true, ite_b, ite_nb, vv_fmtI, vv_fmtS, vv_reprI, vv_reprS, vv_addS, vv_augI, vv_augS, vv_lenS, vv_eqS, vv_neS, vv_addL, vv_addT,
  vv_add, vv_sub, vv_mul, vv_div, vv_mod, vv_pow, vv_shl, vv_shr, vv_neg, vv_lt, vv_le, vv_gt, vv_ge, vv_int, vv_intS, vv_intb, vv_abs, vv_gcd, vv_max2, vv_min2, vv_lenL, vv_lenC, vv_lenT, vv_idxL, vv_idxC, vv_idxT, vv_eqI, vv_eqB, vv_neI, vv_list, vv_listT, vv_tuple, vv_tupleT, vv_sum, vv_slL, vv_slS, vv_slT, vv_range, vv_index, vv_count, isL_l, isL_c, lenL_l, lenL_c, kindL, vv_maxL, vv_minL, vv_strI, vv_app, vv_isNN, vv_isIN, vv_isSN, vv_isBN, vv_isLN, vv_isTN, vv_isBB, vv_isNB, vv_isIB, vv_isSB, vv_isLB, vv_isTB, vv_inNN, vv_inIN, vv_inSN, vv_inBN, vv_inLN, vv_inTN, vv_inBB, atF0, atF1, atF2, atF3, atF4, atF5, okI, okB, okS, okN, okL, ix0, ix1, ix2, frzL_int, fzL_int, intsD_map, isiI_int, isiI_str, isiI_bool, isiI_list, isiI_tuple, isiS_int, isiS_str, isiS_bool, isiS_list, isiS_tuple, isiB_int, isiB_str, isiB_bool, isiB_list, isiB_tuple, isiL_int, isiL_str, isiL_bool, isiL_list, isiL_tuple, isiT_int, isiT_str, isiT_bool, isiT_list, isiT_tuple, isiN_int, isiN_str, isiN_bool, isiN_list, isiN_tuple])
local macro_rules | `(tactic| walk_at "mu") => `(tactic| repeat (first | (rw [W_ok (MulOk.right (by omega))]; walk_at "ev") | (rw [W_ok (MulOk.left (by omega))]; walk_at "ev") | (rw [W_ok (divok (by omega) (by omega))]; walk_at "ev") | (rw [W_ok (by omega)]; walk_at "ev")))
namespace Lk18
theorem rt_eq (r : Rat) : rt r = .tup [.int r.num, .int (r.den : Int)] := rfl
theorem low_less_x {r : Rat} {n : Int} (h : Sz 60 r) : F_law_less [rt r, .tup [.int n, .int 1]] = some (.bl (decide (r < (n : Rat))), [rt r, .tup [.int n, .int 1]]) := by
  rw [rt_eq, law_less_rat (nd_pos r) (by decide) (by have := h.den; omega) (by decide), over_one, ← rat_nd]
theorem low_x_less {r : Rat} {n : Int} (h : Sz 60 r) : F_law_less [.tup [.int n, .int 1], rt r] = some (.bl (decide ((n : Rat) < r)), [.tup [.int n, .int 1], rt r]) := by
  rw [rt_eq, law_less_rat (by decide) (nd_pos r) (by decide) (by have := h.den; omega), over_one, ← rat_nd]
theorem less_rr {r s : Rat} (h : Sz 60 r) (k : Sz 60 s) : F_law_less [rt r, rt s] = some (.bl (decide (r < s)), [rt r, rt s]) := by
  rw [rt_eq, rt_eq, law_less_rat (nd_pos r) (nd_pos s) (by have := h.den; omega) (by have := k.den; omega), ← rat_nd, ← rat_nd]
theorem less_vr {a b : Int} {s : Rat} (hb : 0 < b) (h : b.natAbs < 2 ^ 62) (k : Sz 60 s) : F_law_less [.tup [.int a, .int b], rt s] = some (.bl (decide ((a : Rat) / (b : Rat) < s)), [.tup [.int a, .int b], rt s]) := by
  rw [rt_eq, law_less_rat hb (nd_pos s) (by omega) (by have := k.den; omega), ← rat_nd]
theorem less_rv {a b : Int} {s : Rat} (hb : 0 < b) (h : b.natAbs < 2 ^ 62) (k : Sz 60 s) : F_law_less [rt s, .tup [.int a, .int b]] = some (.bl (decide (s < (a : Rat) / (b : Rat))), [rt s, .tup [.int a, .int b]]) := by
  rw [rt_eq, law_less_rat (nd_pos s) hb (by have := k.den; omega) (by omega), ← rat_nd]
/-- in all bounds -/
def InB (B : St) (v : Rat) : Prop := ∀ e ∈ B, e.1 ≤ v ∧ v ≤ e.2
theorem in_ok {a b : Int} {B : St} (hb : 0 < b) (h : b.natAbs < 2 ^ 62) (hB : ∀ e ∈ B, Sz 60 e.1 ∧ Sz 60 e.2) :
    W (F_law_in [.tup [.int a, .int b], .lst true (B.map pR)]) fun r => ∃ t, r = (.bl t, [.tup [.int a, .int b], .lst true (B.map pR)]) ∧ (t = true ↔ InB B ((a : Rat) / (b : Rat))) := by
  unfold F_law_in
  rw [W_fnD rfl]
  unfold d_law_in
  walk_at "ev"
  refine W_list (ds := B.map pR) (fun k ρ => ∃ x2 x3, ρ = [.tup [.int a, .int b], .lst true (B.map pR), x2, x3] ∧ ∀ j, j < k → ∀ e, B[j]? = some e → e.1 ≤ (a : Rat) / (b : Rat) ∧ (a : Rat) / (b : Rat) ≤ e.2) ⟨_, _, rfl, fun j hj => by omega⟩ ?_ ?_ ?_
  · rintro k ρ ⟨x2, x3, rfl, _⟩
    exact itK_lst rfl (frz_pR B) k
  · rintro k d ρ hd ⟨x2, x3, rfl, hs⟩
    rw [List.getElem?_map] at hd
    obtain ⟨e, he, rfl⟩ := Option.map_eq_some_iff.mp hd
    have hmem := List.mem_of_getElem? he
    obtain ⟨s1, s2⟩ := hB e hmem
    walk_at "ev"
    rw [W_eq (less_vr hb h s1)]
    walk_at "ev"
    split
    · rename_i c
      exact ⟨false, rfl, fun z => (by cases z), fun z => absurd (z e hmem).1 (by grind)⟩
    · rename_i c
      rw [W_eq (less_rv hb h s2)]
      walk_at "ev"
      split
      · rename_i c2
        exact ⟨false, rfl, fun z => (by cases z), fun z => absurd (z e hmem).2 (by grind)⟩
      · rename_i c2
        refine ⟨_, _, rfl, fun j hj e' he' => ?_⟩
        by_cases z : j = k
        · subst z
          rw [he] at he'
          obtain rfl := Option.some.inj he'
          exact ⟨by grind, by grind⟩
        · exact hs j (by omega) e' he'
  · rintro ρ ⟨x2, x3, rfl, hs⟩
    walk_at "ev"
    refine ⟨true, rfl, fun _ e he => ?_, fun _ => rfl⟩
    obtain ⟨j, hj, e2⟩ := List.getElem_of_mem he
    exact hs j (by rw [List.length_map]; exact hj) e (List.getElem?_eq_some_iff.mpr ⟨hj, e2⟩)
end Lk18
end
section
set_option Elab.async false
set_option linter.all false
set_option maxRecDepth 100000
set_option maxHeartbeats 4000000
set_option exponentiation.threshold 5000
open PySem Mv Mv.PreA
local macro_rules | `(tactic| walk_at "ev") => `(tactic| try simp only [↓W_bCons, ↓W_bNil, ↓W_bBrk, ↓W_bCnt, ↓W_bExp, ↓W_bRet, ↓W_bRetN, ↓W_bIf, ↓W_bAsg, ↓W_bPar, ↓W_bAug, ↓W_eC, ↓W_eV, ↓W_eM, ↓W_hV, ↓W_hE, ↓W_eFz, ↓W_e1, ↓W_e2, ↓W_aNil, ↓W_aCons, ↓W_eN, ↓W_eTup, ↓W_eLst, ↓W_eCall, ↓W_eMut, ↓W_eMt, ↓W_eIf, ↓W_eAn, ↓W_eOr, ↓W_eNo, ↓W_eJ0, ↓W_eJ1, ↓W_tT, ↓W_tB, ↓W_tNo, ↓W_tAn, ↓W_tOr, ↓W_tAll, ↓W_gNm, ↓W_gsNil, ↓W_gsCons, ↓W_gTp, ↓W_gTpL, ↓W_gIx, ↓W_bFor, ↓W_bWhile, ↓W_iRg1, ↓W_iRg2, ↓W_iSq, ↓W_eLc, ↓W_eSl, ↓W_pN, ↓W_pS, ↓W_iEn, ↓W_iZp, ↓W_iRv, ↓W_iRg3, ↓W_iRgV, ↓W_eCh, ↓W_chIf, ↓W_bind, ↓W_map, ↓W_some, ↓W_none,
  Hd.get, List.getElem?_cons_zero, List.getElem?_cons_succ, List.getD_cons_zero, List.getD_cons_succ, List.set_cons_zero, List.set_cons_succ, List.length_cons, List.length_nil, List.map_cons, List.map_nil, List.replicate, List.cons_append, List.nil_append, Nat.reduceAdd, Nat.reduceSub, Nat.reduceLeDiff, Nat.zero_add,
  D.frz, D.frzL, D.fz, D.fzL, tru_b, tru_i, tru_n, tru_l, tru_t, tru_c, tms, wipeD, unw, lend, unlend, keepL, Option.map_some, Option.bind_some, Bool.and_true, Bool.true_and, Bool.not_true, Bool.not_false, ↓reduceIte, if_true, if_false, Bool.false_eq_true, true_and, and_true, ite_b, ite_nb, vv_fmtI, vv_fmtS, vv_reprI, vv_reprS, vv_addS, vv_augI, vv_augS, vv_lenS, vv_eqS, vv_neS, vv_addL, vv_addT,
  vv_add, vv_sub, vv_mul, vv_div, vv_mod, vv_pow, vv_shl, vv_shr, vv_neg, vv_lt, vv_le, vv_gt, vv_ge, vv_int, vv_intS, vv_intb, vv_abs, vv_gcd, vv_max2, vv_min2, vv_lenL, vv_lenC, vv_lenT, vv_idxL, vv_idxC, vv_idxT, vv_eqI, vv_eqB, vv_neI, vv_list, vv_listT, vv_tuple, vv_tupleT, vv_sum, vv_slL, vv_slS, vv_slT, vv_range, vv_index, vv_count, isL_l, isL_c, lenL_l, lenL_c, kindL, vv_maxL, vv_minL, vv_strI, vv_app, vv_isNN, vv_isIN, vv_isSN, vv_isBN, vv_isLN, vv_isTN, vv_isBB, vv_isNB, vv_isIB, vv_isSB, vv_isLB, vv_isTB, vv_inNN, vv_inIN, vv_inSN, vv_inBN, vv_inLN, vv_inTN, vv_inBB, atF0, atF1, atF2, atF3, atF4, atF5, okI, okB, okS, okN, okL, ix0, ix1, ix2, frzL_int, fzL_int, intsD_map, isiI_int, isiI_str, isiI_bool, isiI_list, isiI_tuple, isiS_int, isiS_str, isiS_bool, isiS_list, isiS_tuple, isiB_int, isiB_str, isiB_bool, isiB_list, isiB_tuple, isiL_int, isiL_str, isiL_bool, isiL_list, isiL_tuple, isiT_int, isiT_str, isiT_bool, isiT_list, isiT_tuple, isiN_int, isiN_str, isiN_bool, isiN_list, isiN_tuple])
local macro_rules | `(tactic| walk_at "mu") => `(tactic| repeat (first | (rw [W_ok (MulOk.right (by omega))]; walk_at "ev") | (rw [W_ok (MulOk.left (by omega))]; walk_at "ev") | (rw [W_ok (divok (by omega) (by omega))]; walk_at "ev") | (rw [W_ok (by omega)]; walk_at "ev")))
namespace Lk18
theorem rt_at0 (r : Rat) : gIdx (rt r) (.int 0) = some (.int r.num) := rfl
theorem cuts_ok {l : Cu} {Lv : List Rat} (h : Low l) (hL : ∀ r ∈ Lv, Lev r) (hn : Lv.length ≤ 20) :
    W (F_law_cuts [.lst true (l.map pI), .lst true (Lv.map rt)]) fun r => ∃ C, r = (.lst true (C.map rt), [.lst true (l.map pI), .lst true (Lv.map rt)]) ∧ CutP l Lv [] (l.length - 1) C := by
  have hn1 := h.c.n1
  have hn2 := h.c.n2
  unfold F_law_cuts
  rw [W_fnD rfl]
  unfold d_law_cuts
  walk_at "ev"
  refine W_compM pI l (fun _ => true) (fun e => rt (e.1 : Rat)) (by omega) (fun k => itK_lst rfl (frz_pI l) k) ?_ ?_
  · rintro e he
    walk_at "ev"
    exact (rt_int e.1).symm
  walk_at "ev"
  rw [List.filter_eq_self.mpr (fun _ _ => rfl), List.length_map, W_ok (by omega), show l.map (fun e : Int × Int => rt (e.1 : Rat)) = (l.map fun e : Int × Int => (e.1 : Rat)).map rt by rw [List.map_map]; rfl]
  refine W_range (lo := 1) (fun k ρ => ∃ C x3 x4 x5 x6 x7 x8 x9 x10 x11, ρ = [.lst true (l.map pI), .lst true (Lv.map rt), .lst true (C.map rt), x3, x4, x5, x6, x7, x8, x9, x10, x11] ∧ CutP l Lv [] k C) ⟨_, _, _, _, _, _, _, _, _, _, rfl, cutp0 h⟩ ?_ ?_
  · rintro k ρ hk ⟨C0, x3, x4, x5, x6, x7, x8, x9, x10, x11, rfl, hC0⟩
    have hk : k + 1 < l.length := by omega
    have e1 : (1 : Int) + (k : Int) = ((k + 1 : Nat) : Int) := by omega
    rw [e1]
    have b1 := h.c.xb k (by omega)
    have b2 := h.c.xb (k + 1) hk
    have b3 := h.v k (by omega)
    have b4 := h.v (k + 1) hk
    walk_at "ev"
    rw [curve_at hk]
    walk_at "ev"
    rw [show (((k + 1 : Nat) : Int) - 1) = (k : Int) by omega, curve_at (show k < l.length by omega)]
    walk_at "ev"
    refine W_list (ds := Lv.map rt) (fun m ρ => ∃ C x3 x7 x8 x9 x10 x11, ρ = [.lst true (l.map pI), .lst true (Lv.map rt), .lst true (C.map rt), x3, .int ((k + 1 : Nat) : Int), .int (xI l (k + 1) - xI l k), .int (vI l (k + 1) - vI l k), x7, x8, x9, x10, x11] ∧ CutP l Lv (Lv.take m) k C) ⟨C0, _, _, _, _, _, _, rfl, by rw [List.take_zero]; exact hC0⟩ ?_ ?_ ?_
    · rintro m ρ ⟨C, x3, x7, x8, x9, x10, x11, rfl, hC⟩
      exact itK_lst rfl (frz_rt Lv) m
    · rintro m d ρ hd ⟨C, x3, x7, x8, x9, x10, x11, rfl, hC⟩
      rw [List.getElem?_map] at hd
      obtain ⟨r, hr, rfl⟩ := Option.map_eq_some_iff.mp hd
      have hLr := hL r (List.mem_of_getElem? hr)
      have htk : Lv.take (m + 1) = Lv.take m ++ [r] := by rw [List.take_add_one, hr]; rfl
      rw [htk]
      have d1 := hLr.1
      have d2 := hLr.2
      walk_at "ev"
      have back : (((k + 1 : Nat) : Int) - 1) = (k : Int) := by omega
      have hkl : k < l.length := by omega
      split
      · rename_i c
        exact ⟨C, _, _, _, _, _, _, rfl, cutp_skip hC fun t ho hs => absurd c ((slope_ne h.c hk).mp hs)⟩
      · rename_i c
        rw [back, curve_at hkl]
        walk_at "ev"
        rw [W_ok (MulOk.right (by omega))]
        walk_at "ev"
        rw [W_ok (MulOk.right (by omega))]
        walk_at "ev"
        rw [W_ok (MulOk.right (by omega))]
        walk_at "ev"
        rw [W_ok (MulOk.right (by omega))]
        walk_at "ev"
        rw [W_ok (MulOk.right (by omega))]
        walk_at "ev"
        have hbt := (cut_bds h hk hLr).2
        rw [W_eq (low_rt (Int.mul_ne_zero (den_ne r) c) (Nat.lt_of_lt_of_le hbt (Nat.pow_le_pow_right (by decide) (by decide)))), cut_eq c]
        walk_at "ev"
        have hsz := cut_sz h hk hLr c
        rw [back, curve_at hkl]
        walk_at "ev"
        rw [W_eq (low_less_x (hsz.mono (by decide)))]
        walk_at "ev"
        split
        · rename_i q
          exact ⟨C, _, _, _, _, _, _, rfl, cutp_skip hC fun t ho hs e => absurd ho.2.1 (by rw [(cut_iff h.c hk c).mp e]; grind)⟩
        · rename_i q
          rw [curve_at hk]
          walk_at "ev"
          rw [W_eq (low_x_less (hsz.mono (by decide)))]
          walk_at "ev"
          split
          · rename_i q2
            exact ⟨C, _, _, _, _, _, _, rfl, cutp_skip hC fun t ho hs e => absurd ho.2.2 (by rw [(cut_iff h.c hk c).mp e]; grind)⟩
          · rename_i q2
            have hon : On l k (cutR l k r) := ⟨hk, by grind, by grind⟩
            have hCl : C.length ≤ 200 := by
              have h1 := hC.len
              have h2 : k * Lv.length ≤ 6 * 20 := Nat.mul_le_mul (by omega) hn
              rw [List.length_take] at h1
              omega
            refine W_compM rt C (fun u => decide (u < cutR l k r)) rt (by omega) (fun k => itK_lst rfl (frz_rt C) k) ?_ ?_
            · rintro u hu
              walk_at "ev"
              rw [W_eq (less_rr ((hC.sz u hu).mono (by decide)) (hsz.mono (by decide)))]
              walk_at "ev"
              split
              · trivial
              · trivial
            walk_at "ev"
            rw [List.length_map]
            have hcnt : (C.filter fun u => decide (u < cutR l k r)).length = cntB C (cutR l k r) := rfl
            rw [hcnt, gIn_map emb_rt]
            walk_at "ev"
            by_cases hin : cutR l k r ∈ C
            · rw [if_pos hin]
              exact ⟨C, _, _, _, _, _, _, rfl, cutp_skip hC fun t ho hs e => by rw [(cut_iff h.c hk c).mp e]; exact hin⟩
            · have hput := cutp_put h hC hk hLr c hon hin
              rw [if_neg hin, W_ok (frz_rt C), cut_to]
              walk_at "ev"
              rw [W_ok ⟨frz_rt _, by rw [List.length_map, List.length_take]; omega⟩]
              walk_at "ev"
              rw [W_ok (frz_rt C), cut_from]
              walk_at "ev"
              have es : (C.take (cntB C (cutR l k r))).map rt ++ [rt (cutR l k r)] = (C.take (cntB C (cutR l k r)) ++ [cutR l k r]).map rt := by rw [List.map_append]; rfl
              rw [es]
              rw [W_ok ⟨frz_rt _, frz_rt _, by simp only [List.length_append, List.length_map, List.length_take, List.length_drop, List.length_cons, List.length_nil]; omega⟩, ← List.map_append]
              walk_at "ev"
              exact ⟨_, _, _, _, _, _, _, rfl, hput⟩
    · rintro ρ ⟨C, x3, x7, x8, x9, x10, x11, rfl, hC⟩
      rw [List.length_map, List.take_length] at hC
      exact ⟨C, _, _, _, _, _, _, _, _, _, rfl, cutp_next hC⟩
  · rintro ρ ⟨C, x3, x4, x5, x6, x7, x8, x9, x10, x11, rfl, hC⟩
    rw [show ((l.length : Int) - 1).toNat = l.length - 1 by omega] at hC
    walk_at "ev"
    exact ⟨C, rfl, hC⟩
end Lk18
end
section
set_option Elab.async false
set_option linter.all false
set_option maxRecDepth 100000
set_option maxHeartbeats 4000000
set_option exponentiation.threshold 5000
open PySem Mv Mv.PreA
local macro_rules | `(tactic| walk_at "ev") => `(tactic| try simp only [↓W_bCons, ↓W_bNil, ↓W_bBrk, ↓W_bCnt, ↓W_bExp, ↓W_bRet, ↓W_bRetN, ↓W_bIf, ↓W_bAsg, ↓W_bPar, ↓W_bAug, ↓W_eC, ↓W_eV, ↓W_eM, ↓W_hV, ↓W_hE, ↓W_eFz, ↓W_e1, ↓W_e2, ↓W_aNil, ↓W_aCons, ↓W_eN, ↓W_eTup, ↓W_eLst, ↓W_eCall, ↓W_eMut, ↓W_eMt, ↓W_eIf, ↓W_eAn, ↓W_eOr, ↓W_eNo, ↓W_eJ0, ↓W_eJ1, ↓W_tT, ↓W_tB, ↓W_tNo, ↓W_tAn, ↓W_tOr, ↓W_tAll, ↓W_gNm, ↓W_gsNil, ↓W_gsCons, ↓W_gTp, ↓W_gTpL, ↓W_gIx, ↓W_bFor, ↓W_bWhile, ↓W_iRg1, ↓W_iRg2, ↓W_iSq, ↓W_eLc, ↓W_eSl, ↓W_pN, ↓W_pS, ↓W_iEn, ↓W_iZp, ↓W_iRv, ↓W_iRg3, ↓W_iRgV, ↓W_eCh, ↓W_chIf, ↓W_bind, ↓W_map, ↓W_some, ↓W_none,
  Hd.get, List.getElem?_cons_zero, List.getElem?_cons_succ, List.getD_cons_zero, List.getD_cons_succ, List.set_cons_zero, List.set_cons_succ, List.length_cons, List.length_nil, List.map_cons, List.map_nil, List.replicate, List.cons_append, List.nil_append, Nat.reduceAdd, Nat.reduceSub, Nat.reduceLeDiff, Nat.zero_add,
  D.frz, D.frzL, D.fz, D.fzL, tru_b, tru_i, tru_n, tru_l, tru_t, tru_c, tms, wipeD, unw, lend, unlend, keepL, Option.map_some, Option.bind_some, Bool.and_true, Bool.true_and, Bool.not_true, Bool.not_false, ↓reduceIte, if_true, if_false, Bool.false_eq_true, true_and, and_true, ite_b, ite_nb, vv_fmtI, vv_fmtS, vv_reprI, vv_reprS, vv_addS, vv_augI, vv_augS, vv_lenS, vv_eqS, vv_neS, vv_addL, vv_addT,
  vv_add, vv_sub, vv_mul, vv_div, vv_mod, vv_pow, vv_shl, vv_shr, vv_neg, vv_lt, vv_le, vv_gt, vv_ge, vv_int, vv_intS, vv_intb, vv_abs, vv_gcd, vv_max2, vv_min2, vv_lenL, vv_lenC, vv_lenT, vv_idxL, vv_idxC, vv_idxT, vv_eqI, vv_eqB, vv_neI, vv_list, vv_listT, vv_tuple, vv_tupleT, vv_sum, vv_slL, vv_slS, vv_slT, vv_range, vv_index, vv_count, isL_l, isL_c, lenL_l, lenL_c, kindL, vv_maxL, vv_minL, vv_strI, vv_app, vv_isNN, vv_isIN, vv_isSN, vv_isBN, vv_isLN, vv_isTN, vv_isBB, vv_isNB, vv_isIB, vv_isSB, vv_isLB, vv_isTB, vv_inNN, vv_inIN, vv_inSN, vv_inBN, vv_inLN, vv_inTN, vv_inBB, atF0, atF1, atF2, atF3, atF4, atF5, okI, okB, okS, okN, okL, ix0, ix1, ix2, frzL_int, fzL_int, intsD_map, isiI_int, isiI_str, isiI_bool, isiI_list, isiI_tuple, isiS_int, isiS_str, isiS_bool, isiS_list, isiS_tuple, isiB_int, isiB_str, isiB_bool, isiB_list, isiB_tuple, isiL_int, isiL_str, isiL_bool, isiL_list, isiL_tuple, isiT_int, isiT_str, isiT_bool, isiT_list, isiT_tuple, isiN_int, isiN_str, isiN_bool, isiN_list, isiN_tuple])
local macro_rules | `(tactic| walk_at "mu") => `(tactic| repeat (first | (rw [W_ok (MulOk.right (by omega))]; walk_at "ev") | (rw [W_ok (MulOk.left (by omega))]; walk_at "ev") | (rw [W_ok (divok (by omega) (by omega))]; walk_at "ev") | (rw [W_ok (by omega)]; walk_at "ev")))
namespace Lk18
def levs : St → List Rat
  | [] => []
  | e :: B => e.1 :: e.2 :: levs B
theorem levs_snoc : ∀ (B : St) (e : Rat × Rat), levs (B ++ [e]) = levs B ++ [e.1, e.2]
  | [], e => rfl
  | f :: B, e => by show f.1 :: f.2 :: levs (B ++ [e]) = _; rw [levs_snoc B e]; rfl
theorem levs_len : ∀ B : St, (levs B).length = 2 * B.length
  | [] => rfl
  | f :: B => by show (levs B).length + 1 + 1 = 2 * (B.length + 1); rw [levs_len B]; omega
theorem levs_mem : ∀ {B : St} {r : Rat}, r ∈ levs B → ∃ e ∈ B, r = e.1 ∨ r = e.2
  | [], r, h => absurd h List.not_mem_nil
  | f :: B, r, h => by
    rcases List.mem_cons.mp h with rfl | h
    · exact ⟨f, List.mem_cons_self, .inl rfl⟩
    · rcases List.mem_cons.mp h with rfl | h
      · exact ⟨f, List.mem_cons_self, .inr rfl⟩
      · obtain ⟨e, he, q⟩ := levs_mem h
        exact ⟨e, List.mem_cons_of_mem _ he, q⟩
/-- bounds that are one stretch of values -/
structure Bnd (l : Cu) (B : St) (lo hi : Rat) : Prop where
  lev : ∀ e ∈ B, Lev e.1 ∧ Lev e.2
  len : B.length ≤ 10
  eq : ∀ k t, On l k t → (InB B (lin l k t) ↔ lo ≤ lin l k t ∧ lin l k t ≤ hi)
  ends : ∀ k t, On l k t → (lin l k t = lo ∨ lin l k t = hi) → lin l k t ∈ levs B
theorem lev_sz {r : Rat} (h : Lev r) {m : Nat} (hm : 9 ≤ m) : Sz m r := by
  obtain ⟨h1, h2⟩ := h
  have : 2 ^ 9 ≤ 2 ^ m := Nat.pow_le_pow_right (by decide) hm
  exact ⟨by omega, by omega⟩
theorem cuts_of {l : Cu} {B : St} {lo hi : Rat} {C : List Rat} (hl : 2 ≤ l.length) (hb : Bnd l B lo hi) (hC : CutP l (levs B) [] (l.length - 1) C) : Cuts l lo hi C :=
  ⟨hC.srt, hC.ins, hC.pts, fun k t ho hs h => hC.lv k t ho hs _ (.inl ⟨by have := ho.1; omega, hb.ends k t ho h⟩) rfl⟩
theorem inS_on {l : Cu} {B : St} {lo hi t : Rat} (h : Curve l) (hb : Bnd l B lo hi) {k : Nat} (ho : On l k t) : InB B (lin l k t) ↔ InS l lo hi t := by
  rw [hb.eq k t ho]
  constructor
  · rintro ⟨h1, h2⟩
    exact ⟨k, by have := ho.1; omega, ho, h1, h2⟩
  · rintro ⟨j, _, hj, h1, h2⟩
    rw [lin_same h ho hj]
    exact ⟨h1, h2⟩
end Lk18
end
section
set_option Elab.async false
set_option linter.all false
set_option maxRecDepth 100000
set_option maxHeartbeats 4000000
set_option exponentiation.threshold 5000
open PySem Mv Mv.PreA
local macro_rules | `(tactic| walk_at "ev") => `(tactic| try simp only [↓W_bCons, ↓W_bNil, ↓W_bBrk, ↓W_bCnt, ↓W_bExp, ↓W_bRet, ↓W_bRetN, ↓W_bIf, ↓W_bAsg, ↓W_bPar, ↓W_bAug, ↓W_eC, ↓W_eV, ↓W_eM, ↓W_hV, ↓W_hE, ↓W_eFz, ↓W_e1, ↓W_e2, ↓W_aNil, ↓W_aCons, ↓W_eN, ↓W_eTup, ↓W_eLst, ↓W_eCall, ↓W_eMut, ↓W_eMt, ↓W_eIf, ↓W_eAn, ↓W_eOr, ↓W_eNo, ↓W_eJ0, ↓W_eJ1, ↓W_tT, ↓W_tB, ↓W_tNo, ↓W_tAn, ↓W_tOr, ↓W_tAll, ↓W_gNm, ↓W_gsNil, ↓W_gsCons, ↓W_gTp, ↓W_gTpL, ↓W_gIx, ↓W_bFor, ↓W_bWhile, ↓W_iRg1, ↓W_iRg2, ↓W_iSq, ↓W_eLc, ↓W_eSl, ↓W_pN, ↓W_pS, ↓W_iEn, ↓W_iZp, ↓W_iRv, ↓W_iRg3, ↓W_iRgV, ↓W_eCh, ↓W_chIf, ↓W_bind, ↓W_map, ↓W_some, ↓W_none,
  Hd.get, List.getElem?_cons_zero, List.getElem?_cons_succ, List.getD_cons_zero, List.getD_cons_succ, List.set_cons_zero, List.set_cons_succ, List.length_cons, List.length_nil, List.map_cons, List.map_nil, List.replicate, List.cons_append, List.nil_append, Nat.reduceAdd, Nat.reduceSub, Nat.reduceLeDiff, Nat.zero_add,
  D.frz, D.frzL, D.fz, D.fzL, tru_b, tru_i, tru_n, tru_l, tru_t, tru_c, tms, wipeD, unw, lend, unlend, keepL, Option.map_some, Option.bind_some, Bool.and_true, Bool.true_and, Bool.not_true, Bool.not_false, ↓reduceIte, if_true, if_false, Bool.false_eq_true, true_and, and_true, ite_b, ite_nb, vv_fmtI, vv_fmtS, vv_reprI, vv_reprS, vv_addS, vv_augI, vv_augS, vv_lenS, vv_eqS, vv_neS, vv_addL, vv_addT,
  vv_add, vv_sub, vv_mul, vv_div, vv_mod, vv_pow, vv_shl, vv_shr, vv_neg, vv_lt, vv_le, vv_gt, vv_ge, vv_int, vv_intS, vv_intb, vv_abs, vv_gcd, vv_max2, vv_min2, vv_lenL, vv_lenC, vv_lenT, vv_idxL, vv_idxC, vv_idxT, vv_eqI, vv_eqB, vv_neI, vv_list, vv_listT, vv_tuple, vv_tupleT, vv_sum, vv_slL, vv_slS, vv_slT, vv_range, vv_index, vv_count, isL_l, isL_c, lenL_l, lenL_c, kindL, vv_maxL, vv_minL, vv_strI, vv_app, vv_isNN, vv_isIN, vv_isSN, vv_isBN, vv_isLN, vv_isTN, vv_isBB, vv_isNB, vv_isIB, vv_isSB, vv_isLB, vv_isTB, vv_inNN, vv_inIN, vv_inSN, vv_inBN, vv_inLN, vv_inTN, vv_inBB, atF0, atF1, atF2, atF3, atF4, atF5, okI, okB, okS, okN, okL, ix0, ix1, ix2, frzL_int, fzL_int, intsD_map, isiI_int, isiI_str, isiI_bool, isiI_list, isiI_tuple, isiS_int, isiS_str, isiS_bool, isiS_list, isiS_tuple, isiB_int, isiB_str, isiB_bool, isiB_list, isiB_tuple, isiL_int, isiL_str, isiL_bool, isiL_list, isiL_tuple, isiT_int, isiT_str, isiT_bool, isiT_list, isiT_tuple, isiN_int, isiN_str, isiN_bool, isiN_list, isiN_tuple])
local macro_rules | `(tactic| walk_at "mu") => `(tactic| repeat (first | (rw [W_ok (MulOk.right (by omega))]; walk_at "ev") | (rw [W_ok (MulOk.left (by omega))]; walk_at "ev") | (rw [W_ok (divok (by omega) (by omega))]; walk_at "ev") | (rw [W_ok (by omega)]; walk_at "ev")))
namespace Lk18
theorem cuts_at {C : List Rat} {k : Nat} (h : k < C.length) : atF (C.map rt) (k : Int) = some (rt (cc C k)) := by
  rw [atF_nat, List.getElem?_map, cc_at h]
  rfl
theorem mid_eq (a b : Rat) : ((a.num * (b.den : Int) + b.num * (a.den : Int) : Int) : Rat) / ((2 * (a.den : Int) * (b.den : Int) : Int) : Rat) = (a + b) / 2 := by
  have ha := cast_ne (den_ne a)
  have hb := cast_ne (den_ne b)
  conv => rhs; rw [rat_nd a, rat_nd b]
  rw [Rat.intCast_add, Rat.intCast_mul, Rat.intCast_mul, Rat.intCast_mul, Rat.intCast_mul]
  generalize (a.num : Rat) = P at *
  generalize (b.num : Rat) = P' at *
  generalize (((a.den : Int)) : Rat) = Q at *
  generalize (((b.den : Int)) : Rat) = Q' at *
  rw [show ((2 : Int) : Rat) = 2 from rfl]
  grind
/-- looked at -/
theorem look_ok {l : Cu} {B : St} {lo hi : Rat} {p q : Int} (h : Curve l) (hb : Bnd l B lo hi) (hq : 0 < q) (hq2 : q.natAbs < 2 ^ 50) (h0 : (xI l 0 : Rat) ≤ (p : Rat) / (q : Rat)) (h1 : (p : Rat) / (q : Rat) ≤ (xI l (l.length - 1) : Rat)) {Q : D × List D → Prop}
    (hQ : ∀ top bot : Int, (∀ {Q' : D × List D → Prop}, (∀ t, (t = true ↔ InS l lo hi ((p : Rat) / (q : Rat))) → Q' (.bl t, [.tup [.int top, .int bot], .lst true (B.map pR)])) → W (F_law_in [.tup [.int top, .int bot], .lst true (B.map pR)]) Q') → Q (.tup [.int top, .int bot], [.lst true (l.map pI), .tup [.int p, .int q]])) :
    W (F_law_value [.lst true (l.map pI), .tup [.int p, .int q]]) Q := by
  refine W_mono (law_value_ok h hq hq2 h0 h1) ?_
  rintro ⟨d, ps⟩ ⟨e1, k, ho, top, bot, e2, hbp, hbs, ev⟩
  obtain rfl : d = _ := e2
  obtain rfl : ps = _ := e1
  refine hQ top bot fun {Q'} hQ' => W_mono (in_ok hbp hbs fun e he => ⟨lev_sz (hb.lev e he).1 (by decide), lev_sz (hb.lev e he).2 (by decide)⟩) ?_
  rintro r ⟨t, rfl, ht⟩
  refine hQ' t ?_
  rw [ht, ev, inS_on h hb ho]
theorem optR_some (r : Rat) : optR (some r) = rt r := rfl
noncomputable def strT : Ev → Option Out := bCons (bAsg (eC (.bl false)) (gNm 9)) (bCons (bIf (tB' (e2 gLt (hE (e2 gAdd (hV 8) (hE (eC (.int 1))))) (hE (eN gLen (aCons (hV 5) aNil))))) (bCons (bAsg (eTup (aCons (hE (e2 gAdd (hE (e2 gMul (hE (e2 gIdx (hE (e2 gIdx (hV 5) (hV 8))) (hE (eC (.int 0))))) (hE (e2 gIdx (hE (e2 gIdx (hV 5) (hE (e2 gAdd (hV 8) (hE (eC (.int 1))))))) (hE (eC (.int 1))))))) (hE (e2 gMul (hE (e2 gIdx (hE (e2 gIdx (hV 5) (hE (e2 gAdd (hV 8) (hE (eC (.int 1))))))) (hE (eC (.int 0))))) (hE (e2 gIdx (hE (e2 gIdx (hV 5) (hV 8))) (hE (eC (.int 1))))))))) (aCons (hE (e2 gMul (hE (e2 gMul (hE (eC (.int 2))) (hE (e2 gIdx (hE (e2 gIdx (hV 5) (hV 8))) (hE (eC (.int 1))))))) (hE (e2 gIdx (hE (e2 gIdx (hV 5) (hE (e2 gAdd (hV 8) (hE (eC (.int 1))))))) (hE (eC (.int 1))))))) aNil))) (gNm 10)) (bAsg (eCall 2 F_law_in (aCons (hE (eFz (eCall 2 F_law_value (aCons (hV 0) (aCons (hV 10) aNil))))) (aCons (hV 1) aNil))) (gNm 9))) (bNil)) (bIf (tNo (tT (hV 9))) (bCons (bExp (eMut 6 gApp (aCons (hE (eFz (eTup (aCons (hE (eV 7)) (aCons (hE (e2 gIdx (hV 5) (hV 8))) aNil))))) aNil))) (bAsg (eC .non) (gNm 7))) (bNil)))
theorem d_stretches_eq : d_law_stretches = bCons (bAsg (eLst (aNil)) (gNm 2)) (bCons (bFor (iSq (hV 1)) (gTp 2 (gsCons (gNm 3) (gsCons (gNm 4) gsNil))) (bAsg (e2 gAdd (hV 2) (hE (eLst (aCons (hE (eV 3)) (aCons (hE (eV 4)) aNil))))) (gNm 2))) (bCons (bAsg (eCall 2 F_law_cuts (aCons (hV 0) (aCons (hV 2) aNil))) (gNm 5)) (bCons (bPar 6 7 (aCons (hE (eLst (aNil))) (aCons (hE (eC .non)) aNil))) (bCons (bFor (iRg1 (aCons (hE (eN gLen (aCons (hV 5) aNil))) aNil)) (gNm 8) (bIf (tT (hE (eCall 2 F_law_in (aCons (hE (eFz (eCall 2 F_law_value (aCons (hV 0) (aCons (hE (e2 gIdx (hV 5) (hV 8))) aNil))))) (aCons (hV 1) aNil))))) (bCons (bIf (tB' (e2 (gIsB false) (hV 7) (hE (eC .non)))) (bAsg (e2 gIdx (hV 5) (hV 8)) (gNm 7)) (bNil)) strT) (bNil))) (bRet (eM 6)))))) := rfl
theorem strT_ok {l : Cu} {B F : St} {lo hi bb : Rat} {C : List Rat} {k : Nat} {x2 x3 x4 x9 x10 : D} {Q : Out → Prop} (h : Low l) (hb : Bnd l B lo hi) (hC : CutP l (levs B) [] (l.length - 1) C) (hk : k < C.length) (hF : F.length ≤ 200) (hCl : C.length ≤ 200)
    (hon : ∀ x9 x10, k + 1 < C.length → InS l lo hi (midC C k) → Q (.nx [.lst true (l.map pI), .lst true (B.map pR), x2, x3, x4, .lst true (C.map rt), .lst true (F.map pR), rt bb, .int (k : Int), x9, x10]))
    (hend : ∀ x9 x10, (k + 1 < C.length → ¬ InS l lo hi (midC C k)) → Q (.nx [.lst true (l.map pI), .lst true (B.map pR), x2, x3, x4, .lst true (C.map rt), .lst true ((F ++ [(bb, cc C k)]).map pR), .non, .int (k : Int), x9, x10])) :
    W (strT [.lst true (l.map pI), .lst true (B.map pR), x2, x3, x4, .lst true (C.map rt), .lst true (F.map pR), rt bb, .int (k : Int), x9, x10]) Q := by
  have hs1 := hC.sz _ (cc_mem hk)
  unfold strT
  walk_at "ev"
  rw [List.length_map]
  split
  · rename_i hk1
    have hk1 : k + 1 < C.length := by omega
    have hs2 := hC.sz _ (cc_mem hk1)
    have e1 : (k : Int) + 1 = ((k + 1 : Nat) : Int) := by omega
    rw [e1, cuts_at hk]
    walk_at "ev"
    rw [cuts_at hk1]
    walk_at "ev"
    have dn1 := hs1.den
    have dn2 := hs2.den
    rw [W_ok (MulOk.right (by omega))]
    walk_at "ev"
    rw [W_ok (MulOk.right (by omega))]
    walk_at "ev"
    rw [W_ok (MulOk.right (by omega))]
    walk_at "ev"
    rw [W_ok (MulOk.right (by omega))]
    walk_at "ev"
    have me := mid_eq (cc C k) (cc C (k + 1))
    have i1 := hC.ins _ (cc_mem hk)
    have i2 := hC.ins _ (cc_mem hk1)
    have p1 := nd_pos (cc C k)
    have p2 := nd_pos (cc C (k + 1))
    have hbig : (2 * ((cc C k).den : Int) * ((cc C (k + 1)).den : Int)).natAbs < 2 ^ 50 := by
      have := mul_sz (a := 2 * ((cc C k).den : Int)) (b := ((cc C (k + 1)).den : Int)) (m := 22) (n := 21) (by omega) dn2
      omega
    refine look_ok h.c hb (Int.mul_pos (by omega) p2) hbig (by rw [me]; grind) (by rw [me]; grind) fun top bot hq => ?_
    walk_at "ev"
    refine hq fun t ht => ?_
    rw [me] at ht
    walk_at "ev"
    cases t
    · walk_at "ev"
      rw [cuts_at hk]
      walk_at "ev"
      rw [W_ok (by rw [List.length_map]; omega)]
      walk_at "ev"
      have := hend (.bl false) (.tup [.int ((cc C k).num * ((cc C (k + 1)).den : Int) + (cc C (k + 1)).num * ((cc C k).den : Int)), .int (2 * ((cc C k).den : Int) * ((cc C (k + 1)).den : Int))]) (fun _ z => by cases ht.mpr z)
      rw [map_snoc] at this
      exact this
    · walk_at "ev"
      exact hon _ _ hk1 (ht.mp rfl)
  · rename_i hk1
    rw [cuts_at hk]
    walk_at "ev"
    rw [W_ok (by rw [List.length_map]; omega)]
    walk_at "ev"
    have := hend (.bl false) x10 (fun z => absurd z (by omega))
    rw [map_snoc] at this
    exact this
theorem stretches_ok {l : Cu} {B : St} {lo hi : Rat} (h : Low l) (hb : Bnd l B lo hi) :
    W (F_law_stretches [.lst true (l.map pI), .lst true (B.map pR)]) fun r => ∃ F, r = (.lst true (F.map pR), [.lst true (l.map pI), .lst true (B.map pR)]) ∧ Can F ∧ (∀ u, inL F u ↔ InS l lo hi u) ∧ F.length ≤ 200 ∧ ∀ e ∈ F, Sz 21 e.1 ∧ Sz 21 e.2 := by
  have hn1 := h.c.n1
  have hn2 := h.c.n2
  have hBl := hb.len
  unfold F_law_stretches
  rw [W_fnD rfl]
  rw [d_stretches_eq]
  walk_at "ev"
  refine W_list (ds := B.map pR) (fun k ρ => ∃ x3 x4, ρ = [.lst true (l.map pI), .lst true (B.map pR), .lst true ((levs (B.take k)).map rt), x3, x4, .any, .any, .any, .any, .any, .any]) ⟨_, _, rfl⟩ ?_ ?_ ?_
  · rintro k ρ ⟨x3, x4, rfl⟩
    exact itK_lst rfl (frz_pR B) k
  · rintro k d ρ hd ⟨x3, x4, rfl⟩
    rw [List.getElem?_map] at hd
    obtain ⟨e, he, rfl⟩ := Option.map_eq_some_iff.mp hd
    have htk : B.take (k + 1) = B.take k ++ [e] := by rw [List.take_add_one, he]; rfl
    rw [htk, levs_snoc]
    walk_at "ev"
    rw [W_ok ⟨frz_rt _, by rw [List.length_map, levs_len, List.length_take]; omega⟩]
    walk_at "ev"
    exact ⟨_, _, by rw [List.map_append]; rfl⟩
  · rintro ρ ⟨x3, x4, rfl⟩
    rw [List.length_map, List.take_length]
    walk_at "ev"
    refine W_mono (cuts_ok h (Lv := levs B) (fun r hr => ?_) (by rw [levs_len]; omega)) ?_
    · obtain ⟨e, he, q⟩ := levs_mem hr
      rcases q with rfl | rfl
      · exact (hb.lev e he).1
      · exact (hb.lev e he).2
    rintro r ⟨C, rfl, hC⟩
    have hcu := cuts_of hn1 hb hC
    have hCl : C.length ≤ 200 := by
      have h1 := hC.len
      have h2 : (l.length - 1) * (levs B).length ≤ 6 * 20 := Nat.mul_le_mul (by omega) (by rw [levs_len]; omega)
      rw [List.length_nil] at h1
      omega
    walk_at "ev"
    rw [List.length_map, W_ok (by omega)]
    refine W_range (lo := 0) (fun k ρ => ∃ F bg x8 x9 x10, ρ = [.lst true (l.map pI), .lst true (B.map pR), .lst true ((levs B).map rt), x3, x4, .lst true (C.map rt), .lst true (F.map pR), optR bg, x8, x9, x10] ∧ Inv l lo hi C k F bg ∧ F.length ≤ k ∧ (∀ e ∈ F, Sz 21 e.1 ∧ Sz 21 e.2) ∧ ∀ b, bg = some b → Sz 21 b) ⟨[], none, _, _, _, rfl, inv0 h.c hcu, Nat.le_refl _, fun _ z => absurd z List.not_mem_nil, fun _ z => by cases z⟩ ?_ ?_
    · rintro k ρ hk ⟨F, bg, x8, x9, x10, rfl, hI, hFl, hFs, hbs⟩
      have hk : k < C.length := by omega
      have hs1 := hC.sz _ (cc_mem hk)
      rw [show (0 : Int) + (k : Int) = (k : Int) by omega]
      walk_at "ev"
      rw [cuts_at hk]
      walk_at "ev"
      have i1 := hC.ins _ (cc_mem hk)
      have rn := rat_nd (cc C k)
      refine look_ok h.c hb (nd_pos (cc C k)) (by have := hs1.den; omega) (by rw [← rn]; exact i1.1) (by rw [← rn]; exact i1.2) fun top bot hq => ?_
      walk_at "ev"
      refine hq fun t ht => ?_
      rw [← rn] at ht
      walk_at "ev"
      cases t
      · walk_at "ev"
        have hn : ¬ InS l lo hi (cc C k) := fun z => by cases ht.mpr z
        obtain ⟨rfl, hI2⟩ := step_out h.c hcu hI hk hn
        exact ⟨F, none, _, _, _, rfl, hI2, by omega, hFs, hbs⟩
      · walk_at "ev"
        have hin := ht.mp rfl
        have hbb : Sz 21 (bgn C k bg) := by
          cases bg with
          | none => exact hs1
          | some b => exact hbs b rfl
        have go : ∀ x9 x10, W (strT [.lst true (l.map pI), .lst true (B.map pR), .lst true ((levs B).map rt), x3, x4, .lst true (C.map rt), .lst true (F.map pR), rt (bgn C k bg), .int (k : Int), x9, x10]) fun o => match o with
            | .nx ρ => ∃ F bg x8 x9 x10, ρ = [.lst true (l.map pI), .lst true (B.map pR), .lst true ((levs B).map rt), x3, x4, .lst true (C.map rt), .lst true (F.map pR), optR bg, x8, x9, x10] ∧ Inv l lo hi C (k + 1) F bg ∧ F.length ≤ k + 1 ∧ (∀ e ∈ F, Sz 21 e.1 ∧ Sz 21 e.2) ∧ ∀ b, bg = some b → Sz 21 b
            | _ => False := fun x9 x10 => by
          refine strT_ok h hb hC hk (by omega) hCl (fun x9 x10 hk1 hm => ?_) (fun x9 x10 hm => ?_)
          · exact ⟨F, some (bgn C k bg), _, _, _, rfl, step_on h.c hcu hI hk1 hin hm, by omega, hFs, fun b z => by rw [← Option.some.inj z]; exact hbb⟩
          · refine ⟨_, none, _, _, _, rfl, step_end h.c hcu hI hk hin hm, by rw [List.length_append]; show F.length + 1 ≤ _; omega, fun e he => ?_, fun _ z => by cases z⟩
            rcases List.mem_append.mp he with he | he
            · exact hFs e he
            · rw [List.mem_singleton.mp he]; exact ⟨hbb, hs1⟩
        cases bg with
        | none =>
          rw [show optR none = D.non from rfl]
          walk_at "ev"
          rw [cuts_at hk]
          walk_at "ev"
          refine W_mono (go x9 x10) fun o ho => ?_
          cases o
          · exact ho
          all_goals exact ho.elim
        | some b =>
          rw [optR_some]
          walk_at "ev"
          refine W_mono (go x9 x10) fun o ho => ?_
          cases o
          · exact ho
          all_goals exact ho.elim
    · rintro ρ ⟨F, bg, x8, x9, x10, rfl, hI, hFl, hFs, hbs⟩
      rw [show ((C.length : Int)).toNat = C.length by omega] at hI hFl
      obtain ⟨_, h1, h2⟩ := inv_end h.c hcu hI
      walk_at "ev"
      exact ⟨F, rfl, h1, h2, by omega, hFs⟩
end Lk18
end
section
set_option Elab.async false
set_option linter.all false
set_option maxRecDepth 100000
set_option maxHeartbeats 4000000
set_option exponentiation.threshold 5000
open PySem Mv Mv.PreA
local macro_rules | `(tactic| walk_at "ev") => `(tactic| try simp only [↓W_bCons, ↓W_bNil, ↓W_bBrk, ↓W_bCnt, ↓W_bExp, ↓W_bRet, ↓W_bRetN, ↓W_bIf, ↓W_bAsg, ↓W_bPar, ↓W_bAug, ↓W_eC, ↓W_eV, ↓W_eM, ↓W_hV, ↓W_hE, ↓W_eFz, ↓W_e1, ↓W_e2, ↓W_aNil, ↓W_aCons, ↓W_eN, ↓W_eTup, ↓W_eLst, ↓W_eCall, ↓W_eMut, ↓W_eMt, ↓W_eIf, ↓W_eAn, ↓W_eOr, ↓W_eNo, ↓W_eJ0, ↓W_eJ1, ↓W_tT, ↓W_tB, ↓W_tNo, ↓W_tAn, ↓W_tOr, ↓W_tAll, ↓W_gNm, ↓W_gsNil, ↓W_gsCons, ↓W_gTp, ↓W_gTpL, ↓W_gIx, ↓W_bFor, ↓W_bWhile, ↓W_iRg1, ↓W_iRg2, ↓W_iSq, ↓W_eLc, ↓W_eSl, ↓W_pN, ↓W_pS, ↓W_iEn, ↓W_iZp, ↓W_iRv, ↓W_iRg3, ↓W_iRgV, ↓W_eCh, ↓W_chIf, ↓W_bind, ↓W_map, ↓W_some, ↓W_none,
  Hd.get, List.getElem?_cons_zero, List.getElem?_cons_succ, List.getD_cons_zero, List.getD_cons_succ, List.set_cons_zero, List.set_cons_succ, List.length_cons, List.length_nil, List.map_cons, List.map_nil, List.replicate, List.cons_append, List.nil_append, Nat.reduceAdd, Nat.reduceSub, Nat.reduceLeDiff, Nat.zero_add,
  D.frz, D.frzL, D.fz, D.fzL, tru_b, tru_i, tru_n, tru_l, tru_t, tru_c, tms, wipeD, unw, lend, unlend, keepL, Option.map_some, Option.bind_some, Bool.and_true, Bool.true_and, Bool.not_true, Bool.not_false, ↓reduceIte, if_true, if_false, Bool.false_eq_true, true_and, and_true, ite_b, ite_nb, vv_fmtI, vv_fmtS, vv_reprI, vv_reprS, vv_addS, vv_augI, vv_augS, vv_lenS, vv_eqS, vv_neS, vv_addL, vv_addT,
  vv_add, vv_sub, vv_mul, vv_div, vv_mod, vv_pow, vv_shl, vv_shr, vv_neg, vv_lt, vv_le, vv_gt, vv_ge, vv_int, vv_intS, vv_intb, vv_abs, vv_gcd, vv_max2, vv_min2, vv_lenL, vv_lenC, vv_lenT, vv_idxL, vv_idxC, vv_idxT, vv_eqI, vv_eqB, vv_neI, vv_list, vv_listT, vv_tuple, vv_tupleT, vv_sum, vv_slL, vv_slS, vv_slT, vv_range, vv_index, vv_count, isL_l, isL_c, lenL_l, lenL_c, kindL, vv_maxL, vv_minL, vv_strI, vv_app, vv_isNN, vv_isIN, vv_isSN, vv_isBN, vv_isLN, vv_isTN, vv_isBB, vv_isNB, vv_isIB, vv_isSB, vv_isLB, vv_isTB, vv_inNN, vv_inIN, vv_inSN, vv_inBN, vv_inLN, vv_inTN, vv_inBB, atF0, atF1, atF2, atF3, atF4, atF5, okI, okB, okS, okN, okL, ix0, ix1, ix2, frzL_int, fzL_int, intsD_map, isiI_int, isiI_str, isiI_bool, isiI_list, isiI_tuple, isiS_int, isiS_str, isiS_bool, isiS_list, isiS_tuple, isiB_int, isiB_str, isiB_bool, isiB_list, isiB_tuple, isiL_int, isiL_str, isiL_bool, isiL_list, isiL_tuple, isiT_int, isiT_str, isiT_bool, isiT_list, isiT_tuple, isiN_int, isiN_str, isiN_bool, isiN_list, isiN_tuple])
local macro_rules | `(tactic| walk_at "mu") => `(tactic| repeat (first | (rw [W_ok (MulOk.right (by omega))]; walk_at "ev") | (rw [W_ok (MulOk.left (by omega))]; walk_at "ev") | (rw [W_ok (divok (by omega) (by omega))]; walk_at "ev") | (rw [W_ok (by omega)]; walk_at "ev")))
namespace Lk18
theorem pickP {ds : List Int} {n : Int} {o : Bool} {l : Cu} (hn : 0 ≤ n) (hl : l ≠ []) : ∃ j, j < l.length ∧ F_law_pick [bx ds n, .lst o (l.map pI)] = some (pI (xI l j, vI l j), [bx ds (n + 1), .lst o (l.map pI)]) := by
  obtain ⟨j, hj, e⟩ := PreA.pick_ok (ds := ds) (n := n) (o := o) (xs := l.map pI) hn (by simpa using hl)
  rw [List.length_map] at hj
  refine ⟨j, hj, ?_⟩
  rw [eq_pick, e, List.getElem_map]
  have : l[j]'hj = (xI l j, vI l j) := by
    unfold xI vI
    rw [List.getD_eq_getElem?_getD, List.getElem?_eq_getElem hj]
    rfl
  rw [this]
  rfl
/-- a curve that has begun -/
structure CI (l : Cu) (y : Int) : Prop where
  up : ∀ i, i + 1 < l.length → xI l i < xI l (i + 1)
  x0 : ∀ i, i < l.length → -100 ≤ xI l i
  x1 : ∀ i, i < l.length → xI l i < y
  v : ∀ i, i < l.length → 0 ≤ vI l i ∧ vI l i ≤ 24
  y : -100 ≤ y ∧ y ≤ 99 + 20 * (l.length : Int)
theorem xI_old {l : Cu} {e : Int × Int} {i : Nat} (h : i < l.length) : xI (l ++ [e]) i = xI l i ∧ vI (l ++ [e]) i = vI l i := by
  unfold xI vI
  rw [List.getD_eq_getElem?_getD, List.getElem?_append_left h, List.getD_eq_getElem?_getD]
  exact ⟨rfl, rfl⟩
theorem xI_new {l : Cu} {e : Int × Int} : xI (l ++ [e]) l.length = e.1 ∧ vI (l ++ [e]) l.length = e.2 := by
  unfold xI vI
  rw [List.getD_eq_getElem?_getD, List.getElem?_append_right (Nat.le_refl _), Nat.sub_self]
  exact ⟨rfl, rfl⟩
theorem len_snoc {l : Cu} {e : Int × Int} : (l ++ [e]).length = l.length + 1 := by simp
theorem ci_snoc {l : Cu} {y v d : Int} (h : CI l y) (hv : 0 ≤ v ∧ v ≤ 24) (hd : 0 ≤ d ∧ d < 20) : CI (l ++ [(y, v)]) (y + 1 + d) := by
  have hy := h.y
  constructor
  · intro i hi
    rw [len_snoc] at hi
    by_cases c : i + 1 < l.length
    · rw [(xI_old c).1, (xI_old (show i < l.length by omega)).1]; exact h.up i c
    · have e : i + 1 = l.length := by omega
      rw [(xI_old (show i < l.length by omega)).1, e, xI_new.1]
      exact h.x1 i (by omega)
  · intro i hi
    rw [len_snoc] at hi
    by_cases c : i < l.length
    · rw [(xI_old c).1]; exact h.x0 i c
    · have e : i = l.length := by omega
      rw [e, xI_new.1]; exact hy.1
  · intro i hi
    rw [len_snoc] at hi
    by_cases c : i < l.length
    · rw [(xI_old c).1]; have := h.x1 i c; omega
    · have e : i = l.length := by omega
      rw [e, xI_new.1]; show y < y + 1 + d; omega
  · intro i hi
    rw [len_snoc] at hi
    by_cases c : i < l.length
    · rw [(xI_old c).2]; exact h.v i c
    · have e : i = l.length := by omega
      rw [e, xI_new.2]; exact hv
  · rw [len_snoc]; omega
/-- a drawn curve -/
structure Drawn (l : Cu) : Prop where
  low : Low l
  v : ∀ i, i < l.length → 0 ≤ vI l i ∧ vI l i ≤ 24
  x : ∀ i, i < l.length → -100 ≤ xI l i ∧ xI l i ≤ 240
theorem drawn_of {l : Cu} {y : Int} (h : CI l y) (h1 : 2 ≤ l.length) (h2 : l.length ≤ 7) : Drawn l := by
  have hy := h.y
  refine ⟨⟨⟨h1, h2, h.up, fun i hi => ?_, fun i hi => ?_⟩, fun i hi => ?_⟩, h.v, fun i hi => ?_⟩
  · have := h.x0 i hi; have := h.x1 i hi; omega
  · have := h.v i hi; omega
  · have := h.v i hi; omega
  · have := h.x0 i hi; have := h.x1 i hi; omega
theorem cu_cases (l : Cu) : l = [] ∨ ∃ R e, l = R ++ [e] := by
  rcases List.eq_nil_or_concat l with h | ⟨R, e, h⟩
  · exact .inl h
  · exact .inr ⟨R, e, by rw [h, List.concat_eq_append]⟩
noncomputable def curT : Ev → Option Out := bCons (bExp (eMut 3 gApp (aCons (hE (eFz (eTup (aCons (hE (eV 4)) (aCons (hE (eV 6)) aNil))))) aNil))) (bAsg (e2 gAdd (hE (e2 gAdd (hV 4) (hE (eC (.int 1))))) (hE (eCall 2 F_law_draw (aCons (hV 0) (aCons (hV 2) aNil))))) (gNm 4))
theorem curT_eq : d_law_curve = bCons (bPar 1 2 (aCons (hE (eCall 2 F_law_pick (aCons (hV 0) (aCons (hE (eLst (aCons (hE (eC (.int 2))) (aCons (hE (eC (.int 4))) (aCons (hE (eC (.int 25))) aNil))))) aNil)))) (aCons (hE (eCall 2 F_law_pick (aCons (hV 0) (aCons (hE (eLst (aCons (hE (eC (.int 1))) (aCons (hE (eC (.int 3))) (aCons (hE (eC (.int 20))) aNil))))) aNil)))) aNil))) (bCons (bPar 3 4 (aCons (hE (eLst (aNil))) (aCons (hE (e2 gSubt (hE (eCall 2 F_law_draw (aCons (hV 0) (aCons (hE (eC (.int 200))) aNil)))) (hE (eC (.int 100))))) aNil))) (bCons (bFor (iRg1 (aCons (hE (e2 gAdd (hE (eC (.int 2))) (hE (eCall 2 F_law_draw (aCons (hV 0) (aCons (hE (eC (.int 6))) aNil)))))) aNil)) (gNm 5) (bCons (bAsg (eCall 2 F_law_draw (aCons (hV 0) (aCons (hV 1) aNil))) (gNm 6)) (bCons (bIf (tAn (tB' (e2 gNe (hV 3) (hE (eLst (aNil))))) (tB' (e2 gEq (hE (eCall 2 F_law_draw (aCons (hV 0) (aCons (hE (eC (.int 5))) aNil)))) (hE (eC (.int 0)))))) (bAsg (e2 gIdx (hE (e2 gIdx (hV 3) (hE (e1 gNeg (hE (eC (.int 1))))))) (hE (eC (.int 1)))) (gNm 6)) (bNil)) curT))) (bRet (eM 3)))) := rfl
theorem curT_ok {ds : List Int} {n y v wide far : Int} {l : Cu} {x5 : D} {Q : Out → Prop} (hn : 0 ≤ n) (hc : CI l y) (hl : l.length ≤ 7) (hv : 0 ≤ v ∧ v ≤ 24) (hf : far = 1 ∨ far = 3 ∨ far = 20)
    (hQ : ∀ y', CI (l ++ [(y, v)]) y' → Q (.nx [bx ds (n + 1), .int wide, .int far, .lst true ((l ++ [(y, v)]).map pI), .int y', x5, .int v])) :
    W (curT [bx ds n, .int wide, .int far, .lst true (l.map pI), .int y, x5, .int v]) Q := by
  unfold curT
  walk_at "ev"
  rw [W_ok (by rw [List.length_map]; omega)]
  walk_at "ev"
  obtain ⟨d, e, d1, d2⟩ := draw_ex (ds := ds) (n := n) (m := far) (by omega) (by omega)
  rw [W_eq e]
  walk_at "ev"
  have := hQ _ (ci_snoc hc hv ⟨d1, by omega⟩)
  rw [List.map_append] at this
  exact this
theorem curve_ok {ds : List Int} {n : Int} (hn : 0 ≤ n) : W (F_law_curve [bx ds n]) fun r => ∃ l n', r = (.lst true (l.map pI), [bx ds n']) ∧ 0 ≤ n' ∧ Drawn l := by
  unfold F_law_curve
  rw [W_fnD rfl]
  rw [curT_eq]
  walk_at "ev"
  obtain ⟨wide, hw, e⟩ := pick_ex (ds := ds) (n := n) (o := true) [2, 4, 25] (by omega) (by decide)
  simp only [List.map_cons, List.map_nil] at e
  rw [W_eq e]
  simp only [List.mem_cons, List.not_mem_nil, or_false] at hw
  walk_at "ev"
  obtain ⟨far, hf, e⟩ := pick_ex (ds := ds) (n := n + 1) (o := true) [1, 3, 20] (by omega) (by decide)
  simp only [List.map_cons, List.map_nil] at e
  rw [W_eq e]
  simp only [List.mem_cons, List.not_mem_nil, or_false] at hf
  walk_at "ev"
  obtain ⟨d0, e, d1, d2⟩ := draw_ex (ds := ds) (n := n + 1 + 1) (m := 200) (by omega) (by omega)
  rw [W_eq e]
  walk_at "ev"
  obtain ⟨m, e, m1, m2⟩ := draw_ex (ds := ds) (n := n + 1 + 1 + 1) (m := 6) (by omega) (by omega)
  rw [W_eq e]
  walk_at "ev"
  rw [W_ok (by omega)]
  refine W_range (lo := 0) (fun k ρ => ∃ l : Cu, ∃ y n' x5 x6, ρ = [bx ds n', .int wide, .int far, .lst true (l.map pI), .int y, x5, x6] ∧ 0 ≤ n' ∧ l.length = k ∧ CI l y) ⟨[], _, _, _, _, rfl, by omega, rfl, ⟨fun i h => absurd h (Nat.not_lt_zero _), fun i h => absurd h (Nat.not_lt_zero _), fun i h => absurd h (Nat.not_lt_zero _), fun i h => absurd h (Nat.not_lt_zero _), by rw [List.length_nil]; omega⟩⟩ ?_ ?_
  · rintro k ρ hk ⟨l, y, n', x5, x6, rfl, hn', hl, hc⟩
    walk_at "ev"
    obtain ⟨v, e, v1, v2⟩ := draw_ex (ds := ds) (n := n') (m := wide) (by omega) (by omega)
    rw [W_eq e]
    walk_at "ev"
    rw [gNe_nil (ok_mono (emb_lok emb_int2 l) (by decide))]
    walk_at "ev"
    have hv : 0 ≤ v ∧ v ≤ 24 := by omega
    have fin : ∀ v n' x5 (hn' : 0 ≤ n'), 0 ≤ v ∧ v ≤ 24 → W (curT [bx ds n', .int wide, .int far, .lst true (l.map pI), .int y, x5, .int v]) fun o => match o with
        | .nx ρ => ∃ l : Cu, ∃ y n' x5 x6, ρ = [bx ds n', .int wide, .int far, .lst true (l.map pI), .int y, x5, x6] ∧ 0 ≤ n' ∧ l.length = k + 1 ∧ CI l y
        | _ => False := fun v n' x5 hn' hv => by
      refine curT_ok hn' hc (by omega) hv hf fun y' hy' => ?_
      exact ⟨_, _, _, _, _, rfl, by omega, by rw [len_snoc]; omega, hy'⟩
    rcases cu_cases l with rfl | ⟨R, f, rfl⟩
    · rw [if_neg (by decide)]
      refine W_mono (fin v _ _ (by omega) hv) fun o ho => ?_
      cases o
      · exact ho
      all_goals exact ho.elim
    · rw [if_pos (by rw [List.map_append]; simp)]
      obtain ⟨d, e, d1, d2⟩ := draw_ex (ds := ds) (n := n' + 1) (m := 5) (by omega) (by omega)
      rw [W_eq e]
      walk_at "ev"
      split
      · rw [List.map_append]
        walk_at "ev"
        rw [show List.map (fun e : Int × Int => D.tup [.int e.1, .int e.2]) R ++ [pI f] = R.map pI ++ [pI f] from rfl, atF_snoc rfl]
        walk_at "ev"
        have hfv : 0 ≤ f.2 ∧ f.2 ≤ 24 := by
          have := hc.v R.length (by rw [len_snoc]; omega)
          rw [xI_new.2] at this
          exact this
        have f2 := fin f.2 (n' + 1 + 1) (.int (0 + (k : Int))) (by omega) hfv
        rw [List.map_append] at f2
        refine W_mono f2 fun o ho => ?_
        cases o
        · exact ho
        all_goals exact ho.elim
      · refine W_mono (fin v _ _ (by omega) hv) fun o ho => ?_
        cases o
        · exact ho
        all_goals exact ho.elim
  · rintro ρ ⟨l, y, n', x5, x6, rfl, hn', hl, hc⟩
    walk_at "ev"
    exact ⟨l, n', rfl, hn', drawn_of hc (by omega) (by omega)⟩
end Lk18
end
section
set_option Elab.async false
set_option linter.all false
set_option maxHeartbeats 4000000
open PySem Mv
namespace Lk18
section
variable {P : Rat → Prop} {gc : Nat → Rat} {n : Nat} (hm : ∀ i j, i < j → j < n → gc i < gc j) (hb : ∀ k, k + 1 < n → ∀ t1 t2, gc k < t1 → t1 < gc (k + 1) → gc k ≤ t2 → t2 ≤ gc (k + 1) → P t1 → P t2) (hr : ∀ u, P u → 0 < n ∧ gc 0 ≤ u ∧ ∀ {k : Nat}, k + 1 = n → u ≤ gc k)
include hm hb hr
def gbd (gc : Nat → Rat) (n k : Nat) (u : Rat) : Prop := k < n → u < gc k
def GInv (P : Rat → Prop) (gc : Nat → Rat) (n k : Nat) (F : St) : Option Rat → Prop
  | none => Can F ∧ ∀ u, inL F u ↔ P u ∧ gbd gc n k u
  | some b => Can F ∧ k < n ∧ P (gc k) ∧ b < gc k ∧ (∀ e ∈ F, e.2 < b) ∧ ∀ u, (inL F u ∨ (b ≤ u ∧ u < gc k)) ↔ (P u ∧ u < gc k)
theorem ginv0 : GInv P gc n 0 [] none := by
  refine ⟨can_nil, fun u => ⟨fun ⟨e, he, _⟩ => absurd he List.not_mem_nil, fun ⟨h1, h2⟩ => ?_⟩⟩
  exfalso
  obtain ⟨h4, h5, h6⟩ := hr u h1
  have h3 := h2 h4
  grind
theorem gstep_out {k : Nat} {F : St} {bg : Option Rat} (hI : GInv P gc n k F bg) (hk : k < n) (hn : ¬ P (gc k)) : bg = none ∧ GInv P gc n (k + 1) F none := by
  cases bg with
  | some b => exact absurd hI.2.2.1 hn
  | none =>
    obtain ⟨i1, i2⟩ := hI
    refine ⟨rfl, i1, fun u => ?_⟩
    rw [i2]
    constructor
    · rintro ⟨a1, a2⟩
      refine ⟨a1, fun hk1 => ?_⟩
      have := a2 hk
      have := hm k (k + 1) (by omega) hk1
      grind
    · rintro ⟨a1, a2⟩
      refine ⟨a1, fun _ => ?_⟩
      by_cases c : u < gc k
      · exact c
      · exfalso
        by_cases c2 : u = gc k
        · exact hn (c2 ▸ a1)
        · by_cases hk1 : k + 1 < n
          · have hlt := hm k (k + 1) (by omega) hk1
            exact hn (hb k hk1 u _ (by grind) (a2 hk1) (by grind) (by grind) a1)
          · have := (hr _ a1).2.2 (k := k) (by omega)
            grind
/-- where the stretch has begun -/
def gbgn (gc : Nat → Rat) (k : Nat) (bg : Option Rat) : Rat := match bg with
  | none => gc k
  | some b => b
theorem gbgn_all {k : Nat} {F : St} {bg : Option Rat} (hI : GInv P gc n k F bg) (hk : k < n) (hin : P (gc k)) :
    Can F ∧ gbgn gc k bg ≤ gc k ∧ (∀ e ∈ F, e.2 < gbgn gc k bg) ∧ ∀ u, (inL F u ∨ (gbgn gc k bg ≤ u ∧ u ≤ gc k)) ↔ (P u ∧ u ≤ gc k) := by
  cases bg with
  | none =>
    obtain ⟨i1, i2⟩ := hI
    refine ⟨i1, by show gc k ≤ gc k; grind, fun e he => ?_, fun u => ?_⟩
    · have := (i2 e.2).mp ⟨e, he, i1.1 e he, by grind⟩
      exact this.2 hk
    · show (inL F u ∨ (gc k ≤ u ∧ u ≤ gc k)) ↔ _
      rw [i2]
      constructor
      · rintro (⟨a1, a2⟩ | ⟨a1, a2⟩)
        · have := a2 hk; exact ⟨a1, by grind⟩
        · have : u = gc k := by grind
          rw [this]; exact ⟨hin, by grind⟩
      · rintro ⟨a1, a2⟩
        by_cases c : u < gc k
        · exact .inl ⟨a1, fun _ => c⟩
        · exact .inr ⟨by grind, a2⟩
  | some b =>
    obtain ⟨i1, i2, i3, i4, i5, i6⟩ := hI
    refine ⟨i1, by show b ≤ gc k; grind, i5, fun u => ?_⟩
    show (inL F u ∨ (b ≤ u ∧ u ≤ gc k)) ↔ _
    have := i6 u
    constructor
    · rintro (a1 | ⟨a1, a2⟩)
      · have := this.mp (.inl a1); exact ⟨this.1, by grind⟩
      · by_cases c : u < gc k
        · have := this.mp (.inr ⟨a1, c⟩); exact ⟨this.1, a2⟩
        · have : u = gc k := by grind
          rw [this]; exact ⟨hin, by grind⟩
    · rintro ⟨a1, a2⟩
      by_cases c : u < gc k
      · rcases this.mpr ⟨a1, c⟩ with q | q
        · exact .inl q
        · exact .inr ⟨q.1, a2⟩
      · exact .inr ⟨by grind, a2⟩
def gmid (gc : Nat → Rat) (k : Nat) : Rat := (gc k + gc (k + 1)) / 2
theorem gstep_on {k : Nat} {F : St} {bg : Option Rat} (hI : GInv P gc n k F bg) (hk : k + 1 < n) (hin : P (gc k)) (hmd : P (gmid gc k)) : GInv P gc n (k + 1) F (some (gbgn gc k bg)) := by
  obtain ⟨i1, i2, i3, i4⟩ := gbgn_all hm hb hr hI (by omega) hin
  have hlt := hm k (k + 1) (by omega) hk
  have bt := fun (t2 : Rat) => hb k hk (gmid gc k) t2
  have m1 : gc k < gmid gc k := by unfold gmid; grind
  have m2 : gmid gc k < gc (k + 1) := by unfold gmid; grind
  refine ⟨i1, hk, bt _ m1 m2 (by grind) (by grind) hmd, by grind, i3, fun u => ?_⟩
  have := i4 u
  constructor
  · rintro (a1 | ⟨a1, a2⟩)
    · have := this.mp (.inl a1); exact ⟨this.1, by grind⟩
    · by_cases c : u ≤ gc k
      · have := this.mp (.inr ⟨a1, c⟩); exact ⟨this.1, a2⟩
      · exact ⟨bt _ m1 m2 (by grind) (by grind) hmd, a2⟩
  · rintro ⟨a1, a2⟩
    by_cases c : u ≤ gc k
    · rcases this.mpr ⟨a1, c⟩ with q | q
      · exact .inl q
      · exact .inr ⟨q.1, a2⟩
    · exact .inr ⟨by grind, a2⟩
theorem gstep_end {k : Nat} {F : St} {bg : Option Rat} (hI : GInv P gc n k F bg) (hk : k < n) (hin : P (gc k)) (hmd : k + 1 < n → ¬ P (gmid gc k)) : GInv P gc n (k + 1) (F ++ [(gbgn gc k bg, gc k)]) none := by
  obtain ⟨i1, i2, i3, i4⟩ := gbgn_all hm hb hr hI hk hin
  refine ⟨can_snoc i1 i2 i3, fun u => ?_⟩
  rw [inL_snoc, i4]
  constructor
  · rintro ⟨a1, a2⟩
    refine ⟨a1, fun hk1 => ?_⟩
    have := hm k (k + 1) (by omega) hk1
    grind
  · rintro ⟨a1, a2⟩
    refine ⟨a1, ?_⟩
    by_cases c : u ≤ gc k
    · exact c
    · exfalso
      by_cases hk1 : k + 1 < n
      · have hlt := hm k (k + 1) (by omega) hk1
        have m1 : gc k < gmid gc k := by unfold gmid; grind
        have m2 : gmid gc k < gc (k + 1) := by unfold gmid; grind
        exact hmd hk1 (hb k hk1 u _ (by grind) (a2 hk1) (by grind) (by grind) a1)
      · exact c ((hr _ a1).2.2 (k := k) (by omega))
theorem ginv_end {F : St} {bg : Option Rat} (hI : GInv P gc n n F bg) : bg = none ∧ Can F ∧ ∀ u, inL F u ↔ P u := by
  cases bg with
  | some b => have := hI.2.1; omega
  | none => exact ⟨rfl, hI.1, fun u => by rw [hI.2]; exact ⟨fun q => q.1, fun q => ⟨q, fun z => absurd z (by omega)⟩⟩⟩
end
end Lk18
end
section
set_option Elab.async false
set_option linter.all false
set_option maxHeartbeats 4000000
open PySem Mv
namespace Lk18
/-! two lists laid over each other -/
theorem inL_take {A : St} {i : Nat} {a : Rat × Rat} (h : A[i]? = some a) {u : Rat} : inL (A.take (i + 1)) u ↔ inL (A.take i) u ∨ (a.1 ≤ u ∧ u ≤ a.2) := by
  rw [List.take_add_one, h]
  exact inL_snoc
theorem take_lt {A : St} (hA : Can A) {i : Nat} {a : Rat × Rat} (h : A[i]? = some a) {u : Rat} (hu : inL (A.take i) u) : u < a.1 := by
  obtain ⟨e, he, h1, h2⟩ := hu
  obtain ⟨j, hj, e1⟩ := List.getElem_of_mem he
  rw [List.length_take] at hj
  rw [List.getElem_take] at e1
  obtain ⟨hi, e2⟩ := List.getElem?_eq_some_iff.mp h
  have := List.pairwise_iff_getElem.mp hA.2 j i (by omega) hi (by omega)
  rw [e1, e2] at this
  grind
structure BI (A B : St) (i j : Nat) (a : Rat × Rat) (F : St) : Prop where
  can : Can F
  eq : ∀ u, inL F u ↔ (inL (A.take i) u ∧ inL B u) ∨ ((a.1 ≤ u ∧ u ≤ a.2) ∧ inL (B.take j) u)
structure BO (A B : St) (i : Nat) (F : St) : Prop where
  can : Can F
  eq : ∀ u, inL F u ↔ inL (A.take i) u ∧ inL B u
theorem inL_nil {u : Rat} : ¬ inL [] u := fun ⟨_, h, _⟩ => absurd h List.not_mem_nil
theorem bo0 {A B : St} : BO A B 0 [] := ⟨can_nil, fun u => by rw [List.take_zero]; exact ⟨fun h => absurd h inL_nil, fun h => absurd h.1 inL_nil⟩⟩
theorem bi0 {A B : St} {i : Nat} {a : Rat × Rat} {F : St} (h : BO A B i F) : BI A B i 0 a F := ⟨h.can, fun u => by
  rw [h.eq, List.take_zero]
  exact ⟨.inl, fun q => q.elim id fun z => absurd z.2 inL_nil⟩⟩
theorem bo_next {A B : St} {i : Nat} {a : Rat × Rat} {F : St} (ha : A[i]? = some a) (h : BI A B i B.length a F) : BO A B (i + 1) F := ⟨h.can, fun u => by
  rw [h.eq, List.take_length, inL_take ha]
  constructor
  · rintro (⟨x, y⟩ | ⟨x, y⟩)
    · exact ⟨.inl x, y⟩
    · exact ⟨.inr x, y⟩
  · rintro ⟨x | x, y⟩
    · exact .inl ⟨x, y⟩
    · exact .inr ⟨x, y⟩⟩
def lowR (a p : Rat × Rat) : Rat := if a.1 < p.1 then p.1 else a.1
def highR (a p : Rat × Rat) : Rat := if p.2 < a.2 then p.2 else a.2
theorem lh_iff {a p : Rat × Rat} {u : Rat} : (lowR a p ≤ u ∧ u ≤ highR a p) ↔ (a.1 ≤ u ∧ u ≤ a.2) ∧ (p.1 ≤ u ∧ u ≤ p.2) := by
  unfold lowR highR
  split <;> split <;> constructor <;> intro q <;> grind
theorem bi_none {A B : St} {i j : Nat} {a p : Rat × Rat} {F : St} (hp : B[j]? = some p) (h : BI A B i j a F) (hn : highR a p < lowR a p) : BI A B i (j + 1) a F := ⟨h.can, fun u => by
  rw [h.eq, inL_take hp]
  constructor
  · rintro (x | ⟨x, y⟩)
    · exact .inl x
    · exact .inr ⟨x, .inl y⟩
  · rintro (x | ⟨x, y | y⟩)
    · exact .inl x
    · exact .inr ⟨x, y⟩
    · have := lh_iff.mpr ⟨x, y⟩
      grind⟩
theorem bi_apart {A B : St} {i j : Nat} {a p : Rat × Rat} {F : St} (hA : Can A) (hB : Can B) (ha : A[i]? = some a) (hp : B[j]? = some p) (h : BI A B i j a F) : ∀ e ∈ F, e.2 < lowR a p := by
  intro e he
  have h1 := (h.eq e.2).mp ⟨e, he, h.can.1 e he, by grind⟩
  have l1 : a.1 ≤ lowR a p := by unfold lowR; split <;> grind
  have l2 : p.1 ≤ lowR a p := by unfold lowR; split <;> grind
  rcases h1 with ⟨x, _⟩ | ⟨_, x⟩
  · have := take_lt hA ha x; grind
  · have := take_lt hB hp x; grind
theorem bi_some {A B : St} {i j : Nat} {a p : Rat × Rat} {F : St} (hA : Can A) (hB : Can B) (ha : A[i]? = some a) (hp : B[j]? = some p) (h : BI A B i j a F) (hn : ¬ highR a p < lowR a p) : BI A B i (j + 1) a (F ++ [(lowR a p, highR a p)]) := ⟨can_snoc h.can (by grind) (bi_apart hA hB ha hp h), fun u => by
  rw [inL_snoc, h.eq, inL_take hp, lh_iff]
  constructor
  · rintro ((x | ⟨x, y⟩) | ⟨x, y⟩)
    · exact .inl x
    · exact .inr ⟨x, .inl y⟩
    · exact .inr ⟨x, .inr y⟩
  · rintro (x | ⟨x, y | y⟩)
    · exact .inl (.inl x)
    · exact .inl (.inr ⟨x, y⟩)
    · exact .inr ⟨x, y⟩⟩
/-! lists in quarters -/
abbrev Lot := List (Int × Int)
def qR (L : Lot) : St := L.map fun e => ((e.1 : Rat) / 4, (e.2 : Rat) / 4)
structure LotOk (L : Lot) : Prop where
  le : ∀ e ∈ L, e.1 ≤ e.2
  srt : L.Pairwise fun e f => e.2 < f.1
  b : ∀ e ∈ L, -400 ≤ e.1 ∧ e.2 ≤ 400
  len : L.length ≤ 5
theorem c2 (b : Int) : ((2 * b : Int) : Rat) = 2 * (b : Rat) := by rw [Rat.intCast_mul]; rfl
theorem cp1 (b : Int) : ((b + 1 : Int) : Rat) = (b : Rat) + 1 := by rw [Rat.intCast_add]; rfl
theorem can_q {L : Lot} (h : LotOk L) : Can (qR L) := by
  refine ⟨fun e he => ?_, ?_⟩
  · obtain ⟨x, hx, rfl⟩ := List.mem_map.mp he
    have : (x.1 : Rat) ≤ (x.2 : Rat) := Rat.intCast_le_intCast.mpr (h.le x hx)
    show (x.1 : Rat) / 4 ≤ (x.2 : Rat) / 4
    grind
  · unfold qR
    rw [List.pairwise_map]
    refine h.srt.imp fun {e f} hef => ?_
    have : (e.2 : Rat) < (f.1 : Rat) := Rat.intCast_lt_intCast.mpr hef
    show (e.2 : Rat) / 4 < (f.1 : Rat) / 4
    grind
def InE (L : Lot) (m : Int) : Prop := ∃ e ∈ L, 2 * e.1 ≤ m ∧ m ≤ 2 * e.2
theorem inL_q {L : Lot} {u : Rat} : inL (qR L) u ↔ ∃ e ∈ L, (e.1 : Rat) / 4 ≤ u ∧ u ≤ (e.2 : Rat) / 4 := by
  constructor
  · rintro ⟨e, he, h⟩
    obtain ⟨x, hx, rfl⟩ := List.mem_map.mp he
    exact ⟨x, hx, h⟩
  · rintro ⟨x, hx, h⟩
    exact ⟨_, List.mem_map.mpr ⟨x, hx, rfl⟩, h⟩
theorem e_le {a m : Int} : (a : Rat) / 4 ≤ (m : Rat) / 8 ↔ 2 * a ≤ m := by
  rw [← Rat.intCast_le_intCast, c2]; constructor <;> intro q <;> grind
theorem le_e {a m : Int} : (m : Rat) / 8 ≤ (a : Rat) / 4 ↔ m ≤ 2 * a := by
  rw [← Rat.intCast_le_intCast, c2]; constructor <;> intro q <;> grind
theorem inE_iff {L : Lot} {m : Int} : inL (qR L) ((m : Rat) / 8) ↔ InE L m := by
  rw [inL_q]
  unfold InE
  constructor
  · rintro ⟨e, he, h1, h2⟩; exact ⟨e, he, e_le.mp h1, le_e.mp h2⟩
  · rintro ⟨e, he, h1, h2⟩; exact ⟨e, he, e_le.mpr h1, le_e.mpr h2⟩
/-- between two eighths -/
theorem q_between {L : Lot} {m : Int} {t1 t2 : Rat} (h1 : (m : Rat) / 8 < t1) (h2 : t1 < ((m + 1 : Int) : Rat) / 8) (k1 : (m : Rat) / 8 ≤ t2) (k2 : t2 ≤ ((m + 1 : Int) : Rat) / 8) (h : inL (qR L) t1) : inL (qR L) t2 := by
  rw [inL_q] at *
  obtain ⟨e, he, p1, p2⟩ := h
  have q1 : 2 * e.1 < m + 1 := by
    rw [← Rat.intCast_lt_intCast, c2]; grind
  have q2 : m < 2 * e.2 := by
    rw [← Rat.intCast_lt_intCast, c2]; grind
  have r1 := e_le.mpr (show 2 * e.1 ≤ m by omega)
  have r2 := le_e.mpr (show m + 1 ≤ 2 * e.2 by omega)
  exact ⟨e, he, by grind, by grind⟩
theorem q_ends {L : Lot} {m : Int} {t : Rat} (h1 : (m : Rat) / 8 < t) (h2 : t < ((m + 1 : Int) : Rat) / 8) (h : inL (qR L) t) : InE L m ∧ InE L (m + 1) := by
  rw [← inE_iff, ← inE_iff]
  have : (m : Rat) / 8 < ((m + 1 : Int) : Rat) / 8 := by grind
  exact ⟨q_between h1 h2 (by grind) (by grind) h, q_between h1 h2 (by grind) (by grind) h⟩
theorem q_odd {L : Lot} {m : Int} {t : Rat} (h1 : (m : Rat) / 8 ≤ t) (h2 : t ≤ ((m + 1 : Int) : Rat) / 8) (k1 : InE L m) (k2 : InE L (m + 1)) : inL (qR L) t := by
  rw [inL_q]
  have key : ∃ e ∈ L, 2 * e.1 ≤ m ∧ m + 1 ≤ 2 * e.2 := by
    by_cases c : m % 2 = 1
    · obtain ⟨e, he, q1, q2⟩ := k1
      exact ⟨e, he, by omega, by omega⟩
    · obtain ⟨e, he, q1, q2⟩ := k2
      exact ⟨e, he, by omega, by omega⟩
  obtain ⟨e, he, q1, q2⟩ := key
  have r1 := e_le.mpr q1
  have r2 := le_e.mpr q2
  exact ⟨e, he, by grind, by grind⟩
end Lk18
end
section
set_option Elab.async false
set_option linter.all false
set_option maxRecDepth 100000
set_option maxHeartbeats 4000000
set_option exponentiation.threshold 5000
open PySem Mv Mv.PreA
local macro_rules | `(tactic| walk_at "ev") => `(tactic| try simp only [↓W_bCons, ↓W_bNil, ↓W_bBrk, ↓W_bCnt, ↓W_bExp, ↓W_bRet, ↓W_bRetN, ↓W_bIf, ↓W_bAsg, ↓W_bPar, ↓W_bAug, ↓W_eC, ↓W_eV, ↓W_eM, ↓W_hV, ↓W_hE, ↓W_eFz, ↓W_e1, ↓W_e2, ↓W_aNil, ↓W_aCons, ↓W_eN, ↓W_eTup, ↓W_eLst, ↓W_eCall, ↓W_eMut, ↓W_eMt, ↓W_eIf, ↓W_eAn, ↓W_eOr, ↓W_eNo, ↓W_eJ0, ↓W_eJ1, ↓W_tT, ↓W_tB, ↓W_tNo, ↓W_tAn, ↓W_tOr, ↓W_tAll, ↓W_gNm, ↓W_gsNil, ↓W_gsCons, ↓W_gTp, ↓W_gTpL, ↓W_gIx, ↓W_bFor, ↓W_bWhile, ↓W_iRg1, ↓W_iRg2, ↓W_iSq, ↓W_eLc, ↓W_eSl, ↓W_pN, ↓W_pS, ↓W_iEn, ↓W_iZp, ↓W_iRv, ↓W_iRg3, ↓W_iRgV, ↓W_eCh, ↓W_chIf, ↓W_bind, ↓W_map, ↓W_some, ↓W_none,
  Hd.get, List.getElem?_cons_zero, List.getElem?_cons_succ, List.getD_cons_zero, List.getD_cons_succ, List.set_cons_zero, List.set_cons_succ, List.length_cons, List.length_nil, List.map_cons, List.map_nil, List.replicate, List.cons_append, List.nil_append, Nat.reduceAdd, Nat.reduceSub, Nat.reduceLeDiff, Nat.zero_add,
  D.frz, D.frzL, D.fz, D.fzL, tru_b, tru_i, tru_n, tru_l, tru_t, tru_c, tms, wipeD, unw, lend, unlend, keepL, Option.map_some, Option.bind_some, Bool.and_true, Bool.true_and, Bool.not_true, Bool.not_false, ↓reduceIte, if_true, if_false, Bool.false_eq_true, true_and, and_true, ite_b, ite_nb, vv_fmtI, vv_fmtS, vv_reprI, vv_reprS, vv_addS, vv_augI, vv_augS, vv_lenS, vv_eqS, vv_neS, vv_addL, vv_addT,
  vv_add, vv_sub, vv_mul, vv_div, vv_mod, vv_pow, vv_shl, vv_shr, vv_neg, vv_lt, vv_le, vv_gt, vv_ge, vv_int, vv_intS, vv_intb, vv_abs, vv_gcd, vv_max2, vv_min2, vv_lenL, vv_lenC, vv_lenT, vv_idxL, vv_idxC, vv_idxT, vv_eqI, vv_eqB, vv_neI, vv_list, vv_listT, vv_tuple, vv_tupleT, vv_sum, vv_slL, vv_slS, vv_slT, vv_range, vv_index, vv_count, isL_l, isL_c, lenL_l, lenL_c, kindL, vv_maxL, vv_minL, vv_strI, vv_app, vv_isNN, vv_isIN, vv_isSN, vv_isBN, vv_isLN, vv_isTN, vv_isBB, vv_isNB, vv_isIB, vv_isSB, vv_isLB, vv_isTB, vv_inNN, vv_inIN, vv_inSN, vv_inBN, vv_inLN, vv_inTN, vv_inBB, atF0, atF1, atF2, atF3, atF4, atF5, okI, okB, okS, okN, okL, ix0, ix1, ix2, frzL_int, fzL_int, intsD_map, isiI_int, isiI_str, isiI_bool, isiI_list, isiI_tuple, isiS_int, isiS_str, isiS_bool, isiS_list, isiS_tuple, isiB_int, isiB_str, isiB_bool, isiB_list, isiB_tuple, isiL_int, isiL_str, isiL_bool, isiL_list, isiL_tuple, isiT_int, isiT_str, isiT_bool, isiT_list, isiT_tuple, isiN_int, isiN_str, isiN_bool, isiN_list, isiN_tuple])
local macro_rules | `(tactic| walk_at "mu") => `(tactic| repeat (first | (rw [W_ok (MulOk.right (by omega))]; walk_at "ev") | (rw [W_ok (MulOk.left (by omega))]; walk_at "ev") | (rw [W_ok (divok (by omega) (by omega))]; walk_at "ev") | (rw [W_ok (by omega)]; walk_at "ev")))
namespace Lk18
theorem low_sz {a p : Rat × Rat} {m : Nat} (ha : Sz m a.1 ∧ Sz m a.2) (hp : Sz m p.1 ∧ Sz m p.2) : Sz m (lowR a p) ∧ Sz m (highR a p) := by
  unfold lowR highR
  constructor
  · split
    · exact hp.1
    · exact ha.1
  · split
    · exact hp.2
    · exact ha.2
noncomputable def bothT : Ev → Option Out := bIf (tNo (tT (hE (eCall 2 F_is_less (aCons (hV 8) (aCons (hV 7) aNil)))))) (bIf (tAn (tB' (e2 gGt (hE (eN gLen (aCons (hV 2) aNil))) (hE (eC (.int 0))))) (tB' (e2 gEq (hE (e2 gIdx (hE (e2 gIdx (hV 2) (hE (e1 gNeg (hE (eC (.int 1))))))) (hE (eC (.int 1))))) (hV 7)))) (bAsg (eTup (aCons (hE (e2 gIdx (hE (e2 gIdx (hV 2) (hE (e1 gNeg (hE (eC (.int 1))))))) (hE (eC (.int 0))))) (aCons (hE (eV 8)) aNil))) (gIx 2 (hE (e1 gNeg (hE (eC (.int 1))))))) (bExp (eMut 2 gApp (aCons (hE (eFz (eTup (aCons (hE (eV 7)) (aCons (hE (eV 8)) aNil))))) aNil)))) (bNil)
theorem d_both_cut : d_both = bCons (bAsg (eLst (aNil)) (gNm 2)) (bCons (bFor (iSq (hV 0)) (gTp 2 (gsCons (gNm 3) (gsCons (gNm 4) gsNil))) (bFor (iSq (hV 1)) (gTp 2 (gsCons (gNm 5) (gsCons (gNm 6) gsNil))) (bCons (bAsg (eIf (tT (hE (eCall 2 F_is_less (aCons (hV 3) (aCons (hV 5) aNil))))) (eV 5) (eV 3)) (gNm 7)) (bCons (bAsg (eIf (tT (hE (eCall 2 F_is_less (aCons (hV 6) (aCons (hV 4) aNil))))) (eV 6) (eV 4)) (gNm 8)) bothT)))) (bRet (eM 2))) := rfl
theorem bothT_ok {F : St} {m : Nat} {lw hg : Rat} {x0 x1 x3 x4 x5 x6 : D} {Q : Out → Prop} (hF : ∀ e ∈ F, e.2 < lw) (hl : F.length ≤ 200000) (s1 : Sz m lw) (s2 : Sz m hg) (hm : m ≤ 60)
    (hy : ¬ hg < lw → Q (.nx [x0, x1, .lst true ((F ++ [(lw, hg)]).map pR), x3, x4, x5, x6, rt lw, rt hg])) (hn : hg < lw → Q (.nx [x0, x1, .lst true (F.map pR), x3, x4, x5, x6, rt lw, rt hg])) :
    W (bothT [x0, x1, .lst true (F.map pR), x3, x4, x5, x6, rt lw, rt hg]) Q := by
  unfold bothT
  walk_at "ev"
  rw [eq_less, W_eq (lessR s2 s1 (by omega) (by omega))]
  walk_at "ev"
  split
  · rename_i c
    exact hn c
  · rename_i c
    have hnew := hy c
    rcases ps_cases F with rfl | ⟨R, f, rfl⟩
    · walk_at "ev"
      rw [if_neg (by decide)]
      try rw [W_ok (by decide)]
      try walk_at "ev"
      exact hnew
    · have hlt := hF f (List.mem_append_right _ (List.mem_singleton.mpr rfl))
      rw [map_snoc] at hnew ⊢
      walk_at "ev"
      rw [if_pos (by rw [List.length_append]; show (0 : Int) < ((R.map pR).length + 1 : Nat); omega)]
      rw [atF_snoc rfl]
      walk_at "ev"
      rw [okT]
      walk_at "ev"
      rw [gEq_rt, decide_eq_false (show f.2 ≠ lw by grind)]
      walk_at "ev"
      rw [W_ok (by simp only [List.length_append, List.length_map, List.length_cons, List.length_nil] at hl ⊢; omega)]
      walk_at "ev"
      rw [map_snoc] at hnew
      exact hnew
theorem both_ok {A B : St} {o : Bool} {m : Nat} (hA : Can A) (hB : Can B) (sA : ∀ e ∈ A, Sz m e.1 ∧ Sz m e.2) (sB : ∀ e ∈ B, Sz m e.1 ∧ Sz m e.2) (hm : m ≤ 60) (hl : (A.length + 1) * (B.length + 1) ≤ 100000) :
    W (F_both [.lst true (A.map pR), .lst o (B.map pR)]) fun r => ∃ F, r = (.lst true (F.map pR), [.lst true (A.map pR), .lst o (B.map pR)]) ∧ (Can F ∧ ∀ u, inL F u ↔ inL A u ∧ inL B u) ∧ (∀ e ∈ F, Sz m e.1 ∧ Sz m e.2) ∧ F.length ≤ A.length * (B.length + 1) := by
  unfold F_both
  rw [W_fnD rfl]
  rw [d_both_cut]
  walk_at "ev"
  refine W_list (ds := A.map pR) (fun i ρ => ∃ F x3 x4 x5 x6 x7 x8, ρ = [.lst true (A.map pR), .lst o (B.map pR), .lst true (F.map pR), x3, x4, x5, x6, x7, x8] ∧ BO A B i F ∧ (∀ e ∈ F, Sz m e.1 ∧ Sz m e.2) ∧ F.length ≤ i * (B.length + 1)) ⟨[], _, _, _, _, _, _, rfl, bo0, fun _ z => absurd z List.not_mem_nil, Nat.zero_le _⟩ ?_ ?_ ?_
  · rintro i ρ ⟨F, x3, x4, x5, x6, x7, x8, rfl, _⟩
    exact itK_lst rfl (frz_pR A) i
  · rintro i d ρ hd ⟨F0, x3, x4, x5, x6, x7, x8, rfl, hF0, sF0, lF0⟩
    rw [List.getElem?_map] at hd
    obtain ⟨a, ha, rfl⟩ := Option.map_eq_some_iff.mp hd
    have hia : i < A.length := (List.getElem?_eq_some_iff.mp ha).1
    have hFa : (i + 1) * (B.length + 1) ≤ 100000 := Nat.le_trans (Nat.mul_le_mul (show i + 1 ≤ A.length + 1 by omega) (Nat.le_refl (B.length + 1))) hl
    have e9 : (i + 1) * (B.length + 1) = i * (B.length + 1) + (B.length + 1) := Nat.succ_mul _ _
    have za := sA a (List.mem_of_getElem? ha)
    walk_at "ev"
    refine W_list (ds := B.map pR) (fun j ρ => ∃ F x5 x6 x7 x8, ρ = [.lst true (A.map pR), .lst o (B.map pR), .lst true (F.map pR), rt a.1, rt a.2, x5, x6, x7, x8] ∧ BI A B i j a F ∧ (∀ e ∈ F, Sz m e.1 ∧ Sz m e.2) ∧ F.length ≤ i * (B.length + 1) + j) ⟨F0, _, _, _, _, rfl, bi0 hF0, sF0, lF0⟩ ?_ ?_ ?_
    · rintro j ρ ⟨F, x5, x6, x7, x8, rfl, _⟩
      exact itK_lst rfl (frz_pR B) j
    · rintro j d ρ hd ⟨F, x5, x6, x7, x8, rfl, hF, sF, lF⟩
      rw [List.getElem?_map] at hd
      obtain ⟨p, hp, rfl⟩ := Option.map_eq_some_iff.mp hd
      have hjp : j < B.length := (List.getElem?_eq_some_iff.mp hp).1
      have zp := sB p (List.mem_of_getElem? hp)
      have zlh := low_sz za zp
      walk_at "ev"
      rw [eq_less, W_eq (lessR za.1 zp.1 (by omega) (by omega))]
      walk_at "ev"
      have ap := bi_apart hA hB ha hp hF
      have fin : W (bothT [.lst true (A.map pR), .lst o (B.map pR), .lst true (F.map pR), rt a.1, rt a.2, rt p.1, rt p.2, rt (lowR a p), rt (highR a p)]) fun out => match out with
          | .nx ρ => ∃ F x5 x6 x7 x8, ρ = [.lst true (A.map pR), .lst o (B.map pR), .lst true (F.map pR), rt a.1, rt a.2, x5, x6, x7, x8] ∧ BI A B i (j + 1) a F ∧ (∀ e ∈ F, Sz m e.1 ∧ Sz m e.2) ∧ F.length ≤ i * (B.length + 1) + (j + 1)
          | _ => False := by
        refine bothT_ok ap (by omega) zlh.1 zlh.2 hm (fun c => ?_) (fun c => ?_)
        · refine ⟨_, _, _, _, _, rfl, bi_some hA hB ha hp hF c, fun e he => ?_, by rw [List.length_append]; show F.length + 1 ≤ _; omega⟩
          rcases List.mem_append.mp he with he | he
          · exact sF e he
          · rw [List.mem_singleton.mp he]; exact zlh
        · exact ⟨F, _, _, _, _, rfl, bi_none hp hF c, sF, by omega⟩
      have go : ∀ lw hg, lw = lowR a p → hg = highR a p → W (bothT [.lst true (A.map pR), .lst o (B.map pR), .lst true (F.map pR), rt a.1, rt a.2, rt p.1, rt p.2, rt lw, rt hg]) fun out => match out with
          | .nx ρ => ∃ F x5 x6 x7 x8, ρ = [.lst true (A.map pR), .lst o (B.map pR), .lst true (F.map pR), rt a.1, rt a.2, x5, x6, x7, x8] ∧ BI A B i (j + 1) a F ∧ (∀ e ∈ F, Sz m e.1 ∧ Sz m e.2) ∧ F.length ≤ i * (B.length + 1) + (j + 1)
          | _ => False := by
        rintro lw hg rfl rfl
        exact fin
      split
      · rename_i c1
        rw [W_eq (lessR zp.2 za.2 (by omega) (by omega))]
        walk_at "ev"
        split
        · rename_i c2
          refine W_mono (go p.1 p.2 (if_pos c1).symm (if_pos c2).symm) fun out ho => ?_
          cases out
          · exact ho
          all_goals exact ho.elim
        · rename_i c2
          refine W_mono (go p.1 a.2 (if_pos c1).symm (if_neg c2).symm) fun out ho => ?_
          cases out
          · exact ho
          all_goals exact ho.elim
      · rename_i c1
        rw [W_eq (lessR zp.2 za.2 (by omega) (by omega))]
        walk_at "ev"
        split
        · rename_i c2
          refine W_mono (go a.1 p.2 (if_neg c1).symm (if_pos c2).symm) fun out ho => ?_
          cases out
          · exact ho
          all_goals exact ho.elim
        · rename_i c2
          refine W_mono (go a.1 a.2 (if_neg c1).symm (if_neg c2).symm) fun out ho => ?_
          cases out
          · exact ho
          all_goals exact ho.elim
    · rintro ρ ⟨F, x5, x6, x7, x8, rfl, hF, sF, lF⟩
      rw [List.length_map] at hF lF
      exact ⟨F, _, _, _, _, _, _, rfl, bo_next ha hF, sF, by omega⟩
  · rintro ρ ⟨F, x3, x4, x5, x6, x7, x8, rfl, hF, sF, lF⟩
    rw [List.length_map] at hF lF
    walk_at "ev"
    refine ⟨F, rfl, ⟨hF.can, fun u => ?_⟩, sF, lF⟩
    rw [hF.eq, List.take_length]
end Lk18
end
section
set_option Elab.async false
set_option linter.all false
set_option maxRecDepth 100000
set_option maxHeartbeats 4000000
set_option exponentiation.threshold 5000
open PySem Mv Mv.PreA
local macro_rules | `(tactic| walk_at "ev") => `(tactic| try simp only [↓W_bCons, ↓W_bNil, ↓W_bBrk, ↓W_bCnt, ↓W_bExp, ↓W_bRet, ↓W_bRetN, ↓W_bIf, ↓W_bAsg, ↓W_bPar, ↓W_bAug, ↓W_eC, ↓W_eV, ↓W_eM, ↓W_hV, ↓W_hE, ↓W_eFz, ↓W_e1, ↓W_e2, ↓W_aNil, ↓W_aCons, ↓W_eN, ↓W_eTup, ↓W_eLst, ↓W_eCall, ↓W_eMut, ↓W_eMt, ↓W_eIf, ↓W_eAn, ↓W_eOr, ↓W_eNo, ↓W_eJ0, ↓W_eJ1, ↓W_tT, ↓W_tB, ↓W_tNo, ↓W_tAn, ↓W_tOr, ↓W_tAll, ↓W_gNm, ↓W_gsNil, ↓W_gsCons, ↓W_gTp, ↓W_gTpL, ↓W_gIx, ↓W_bFor, ↓W_bWhile, ↓W_iRg1, ↓W_iRg2, ↓W_iSq, ↓W_eLc, ↓W_eSl, ↓W_pN, ↓W_pS, ↓W_iEn, ↓W_iZp, ↓W_iRv, ↓W_iRg3, ↓W_iRgV, ↓W_eCh, ↓W_chIf, ↓W_bind, ↓W_map, ↓W_some, ↓W_none,
  Hd.get, List.getElem?_cons_zero, List.getElem?_cons_succ, List.getD_cons_zero, List.getD_cons_succ, List.set_cons_zero, List.set_cons_succ, List.length_cons, List.length_nil, List.map_cons, List.map_nil, List.replicate, List.cons_append, List.nil_append, Nat.reduceAdd, Nat.reduceSub, Nat.reduceLeDiff, Nat.zero_add,
  D.frz, D.frzL, D.fz, D.fzL, tru_b, tru_i, tru_n, tru_l, tru_t, tru_c, tms, wipeD, unw, lend, unlend, keepL, Option.map_some, Option.bind_some, Bool.and_true, Bool.true_and, Bool.not_true, Bool.not_false, ↓reduceIte, if_true, if_false, Bool.false_eq_true, true_and, and_true, ite_b, ite_nb, vv_fmtI, vv_fmtS, vv_reprI, vv_reprS, vv_addS, vv_augI, vv_augS, vv_lenS, vv_eqS, vv_neS, vv_addL, vv_addT,
  vv_add, vv_sub, vv_mul, vv_div, vv_mod, vv_pow, vv_shl, vv_shr, vv_neg, vv_lt, vv_le, vv_gt, vv_ge, vv_int, vv_intS, vv_intb, vv_abs, vv_gcd, vv_max2, vv_min2, vv_lenL, vv_lenC, vv_lenT, vv_idxL, vv_idxC, vv_idxT, vv_eqI, vv_eqB, vv_neI, vv_list, vv_listT, vv_tuple, vv_tupleT, vv_sum, vv_slL, vv_slS, vv_slT, vv_range, vv_index, vv_count, isL_l, isL_c, lenL_l, lenL_c, kindL, vv_maxL, vv_minL, vv_strI, vv_app, vv_isNN, vv_isIN, vv_isSN, vv_isBN, vv_isLN, vv_isTN, vv_isBB, vv_isNB, vv_isIB, vv_isSB, vv_isLB, vv_isTB, vv_inNN, vv_inIN, vv_inSN, vv_inBN, vv_inLN, vv_inTN, vv_inBB, atF0, atF1, atF2, atF3, atF4, atF5, okI, okB, okS, okN, okL, ix0, ix1, ix2, frzL_int, fzL_int, intsD_map, isiI_int, isiI_str, isiI_bool, isiI_list, isiI_tuple, isiS_int, isiS_str, isiS_bool, isiS_list, isiS_tuple, isiB_int, isiB_str, isiB_bool, isiB_list, isiB_tuple, isiL_int, isiL_str, isiL_bool, isiL_list, isiL_tuple, isiT_int, isiT_str, isiT_bool, isiT_list, isiT_tuple, isiN_int, isiN_str, isiN_bool, isiN_list, isiN_tuple])
local macro_rules | `(tactic| walk_at "mu") => `(tactic| repeat (first | (rw [W_ok (MulOk.right (by omega))]; walk_at "ev") | (rw [W_ok (MulOk.left (by omega))]; walk_at "ev") | (rw [W_ok (divok (by omega) (by omega))]; walk_at "ev") | (rw [W_ok (by omega)]; walk_at "ev")))
namespace Lk18
noncomputable def lbT : Ev → Option Out := bIf (tOr' (tNo (tT (hE (eCall 2 F_law_in_lot (aCons (hV 0) (aCons (hE (e2 gAdd (hV 6) (hE (eC (.int 1))))) aNil)))))) (tNo (tT (hE (eCall 2 F_law_in_lot (aCons (hV 1) (aCons (hE (e2 gAdd (hV 6) (hE (eC (.int 1))))) aNil))))))) (bCons (bExp (eMut 2 gApp (aCons (hE (eFz (eTup (aCons (hE (eFz (eCall 2 F_law_low (aCons (hV 3) (aCons (hE (eC (.int 8))) aNil))))) (aCons (hE (eFz (eCall 2 F_law_low (aCons (hV 6) (aCons (hE (eC (.int 8))) aNil))))) aNil))))) aNil))) (bAsg (eC .non) (gNm 3))) (bNil)
theorem d_law_both_cut : d_law_both = bCons (bPar 2 3 (aCons (hE (eLst (aNil))) (aCons (hE (eC .non)) aNil))) (bCons (bIf (tOr' (tB' (e2 gEq (hV 0) (hE (eLst (aNil))))) (tB' (e2 gEq (hV 1) (hE (eLst (aNil)))))) (bRet (eLst (aNil))) (bNil)) (bCons (bPar 4 5 (aCons (hE (e2 gMul (hE (eC (.int 2))) (hE (e2 gIdx (hE (e2 gIdx (hV 0) (hE (eC (.int 0))))) (hE (eC (.int 0))))))) (aCons (hE (e2 gMul (hE (eC (.int 2))) (hE (e2 gIdx (hE (e2 gIdx (hV 0) (hE (e1 gNeg (hE (eC (.int 1))))))) (hE (eC (.int 1))))))) aNil))) (bCons (bFor (iRg2 (aCons (hV 4) (aCons (hE (e2 gAdd (hV 5) (hE (eC (.int 1))))) aNil))) (gNm 6) (bIf (tAn (tT (hE (eCall 2 F_law_in_lot (aCons (hV 0) (aCons (hV 6) aNil))))) (tT (hE (eCall 2 F_law_in_lot (aCons (hV 1) (aCons (hV 6) aNil)))))) (bCons (bIf (tB' (e2 (gIsB false) (hV 3) (hE (eC .non)))) (bAsg (eV 6) (gNm 3)) (bNil)) lbT) (bNil))) (bRet (eM 2))))) := rfl
theorem in_lot_ok {L : Lot} {o : Bool} {m : Int} (hl : L.length ≤ 1000) : W (F_law_in_lot [.lst o (L.map pI), .int m]) fun r => ∃ t, r = (.bl t, [.lst o (L.map pI), .int m]) ∧ (t = true ↔ InE L m) := by
  unfold F_law_in_lot
  rw [W_fnD rfl]
  unfold d_law_in_lot
  walk_at "ev"
  refine W_compM pI L (fun e => decide (2 * e.1 ≤ m ∧ m ≤ 2 * e.2)) pI (by omega) (fun k => itK_lst rfl (frz_pI L) k) ?_ ?_
  · rintro e he
    walk_at "ev"
    rw [W_ok (MulOk.left (by decide))]
    walk_at "ev"
    by_cases c1 : 2 * e.1 ≤ m
    · rw [if_pos c1]
      rw [W_ok (MulOk.left (by decide))]
      walk_at "ev"
      by_cases c2 : m ≤ 2 * e.2
      · rw [if_pos ⟨c1, c2⟩, decide_eq_true c2, decide_eq_true (p := _ ∧ _) ⟨c1, c2⟩]
        walk_at "ev"
      · rw [if_neg (fun z => c2 z.2), decide_eq_false c2, decide_eq_false (p := _ ∧ _) (fun z => c2 z.2)]
        walk_at "ev"
    · rw [if_neg c1, if_neg (fun z => c1 z.1), decide_eq_false (p := _ ∧ _) (fun z => c1 z.1)]
      walk_at "ev"
  walk_at "ev"
  rw [gNe_nil (ok_mono (emb_lok emb_int2 _) (by decide))]
  walk_at "ev"
  refine ⟨_, rfl, ?_⟩
  unfold InE
  rw [Bool.not_eq_true', Bool.eq_false_iff, ne_eq, List.isEmpty_iff, List.map_eq_nil_iff, List.filter_eq_nil_iff]
  simp only [decide_eq_true_eq]
  constructor
  · intro h
    refine Classical.byContradiction fun k => h fun e he q => k ⟨e, he, q⟩
  · rintro ⟨e, he, q⟩ h
    exact h e he q
theorem q4 {n : Int} : F_law_low [.int n, .int 4] = some (rt ((n : Rat) / 4), [.any, .any]) := low_rt (t := n) (b := 4) (by decide) (by decide +kernel)
theorem q8 {n : Int} : F_law_low [.int n, .int 8] = some (rt ((n : Rat) / 8), [.any, .any]) := low_rt (t := n) (b := 8) (by decide) (by decide +kernel)
theorem told_ok {L : Lot} {o : Bool} (hl : L.length ≤ 1000) : F_law_told [.lst o (L.map pI)] = some (.lst true ((qR L).map pR), [.lst o (L.map pI)]) := by
  apply of_W
  unfold F_law_told
  rw [W_fnD rfl]
  unfold d_law_told
  walk_at "ev"
  refine W_compM pI L (fun _ => true) (fun e => pR ((e.1 : Rat) / 4, (e.2 : Rat) / 4)) (by omega) (fun k => itK_lst rfl (frz_pI L) k) ?_ ?_
  · rintro e he
    walk_at "ev"
    rw [W_eq q4]
    walk_at "ev"
    rw [W_eq q4]
    walk_at "ev"
  rw [List.filter_eq_self.mpr (fun _ _ => rfl)]
  walk_at "ev"
  unfold qR
  rw [List.map_map]
  rfl
/-! the law's own, eighth by eighth -/
def optI : Option Int → D
  | none => .non
  | some b => .int b
def e8 (b : Int) : Rat := (b : Rat) / 8
def gr (lo : Int) (k : Nat) : Rat := e8 (lo + (k : Int))
theorem e8_lt {a b : Int} : e8 a < e8 b ↔ a < b := by
  unfold e8
  rw [← Rat.intCast_lt_intCast]; constructor <;> intro q <;> grind
theorem e8_le {a b : Int} : e8 a ≤ e8 b ↔ a ≤ b := by
  unfold e8
  rw [← Rat.intCast_le_intCast]; constructor <;> intro q <;> grind
def PP (A B : Lot) (u : Rat) : Prop := inL (qR A) u ∧ inL (qR B) u
theorem gr_m {lo : Int} {n : Nat} : ∀ i j, i < j → j < n → gr lo i < gr lo j := fun i j h _ => e8_lt.mpr (by omega)
theorem gr_s {lo : Int} {k : Nat} : gr lo (k + 1) = (((lo + (k : Int)) + 1 : Int) : Rat) / 8 := by unfold gr e8; rw [show lo + ((k + 1 : Nat) : Int) = lo + (k : Int) + 1 by omega]
theorem gr_b {A B : Lot} {lo : Int} {n : Nat} : ∀ k, k + 1 < n → ∀ t1 t2, gr lo k < t1 → t1 < gr lo (k + 1) → gr lo k ≤ t2 → t2 ≤ gr lo (k + 1) → PP A B t1 → PP A B t2 := by
  rintro k _ t1 t2 h1 h2 h3 h4 ⟨p1, p2⟩
  rw [gr_s] at h2 h4
  exact ⟨q_between h1 h2 h3 h4 p1, q_between h1 h2 h3 h4 p2⟩
theorem pp_at {A B : Lot} {m : Int} : PP A B (e8 m) ↔ InE A m ∧ InE B m := by unfold PP e8; rw [inE_iff, inE_iff]
theorem gr_mid {A B : Lot} {lo : Int} {k : Nat} : PP A B (gmid (gr lo) k) ↔ (InE A (lo + k) ∧ InE B (lo + k)) ∧ InE A (lo + k + 1) ∧ InE B (lo + k + 1) := by
  have h1 : ((lo + (k : Int) : Int) : Rat) / 8 < gmid (gr lo) k := by unfold gmid; rw [gr_s, cp1]; unfold gr e8; grind
  have h2 : gmid (gr lo) k < ((lo + (k : Int) + 1 : Int) : Rat) / 8 := by unfold gmid; rw [gr_s, cp1]; unfold gr e8; grind
  constructor
  · rintro ⟨p1, p2⟩
    obtain ⟨a, b⟩ := q_ends h1 h2 p1
    obtain ⟨c, d⟩ := q_ends h1 h2 p2
    exact ⟨⟨a, c⟩, b, d⟩
  · rintro ⟨⟨a, c⟩, b, d⟩
    exact ⟨q_odd (by grind) (by grind) a b, q_odd (by grind) (by grind) c d⟩
/-- first and last of a list -/
theorem lot_ends {A : Lot} (h : LotOk A) {e : Int × Int} (he : e ∈ A) : xI A 0 ≤ e.1 ∧ e.2 ≤ vI A (A.length - 1) ∧ xI A 0 ≤ vI A (A.length - 1) ∧ -400 ≤ xI A 0 ∧ vI A (A.length - 1) ≤ 400 := by
  obtain ⟨i, hi, e1⟩ := List.getElem_of_mem he
  have at' : ∀ j (hj : j < A.length), A[j]'hj = (xI A j, vI A j) := fun j hj => by
    unfold xI vI
    rw [List.getD_eq_getElem?_getD, List.getElem?_eq_getElem hj]
    rfl
  have le : ∀ j (hj : j < A.length), xI A j ≤ vI A j := fun j hj => by have := h.le _ (List.getElem_mem hj); rw [at' j hj] at this; exact this
  have lt : ∀ i j (hij : i < j) (hj : j < A.length), vI A i < xI A j := fun i j hij hj => by
    have := List.pairwise_iff_getElem.mp h.srt i j (by omega) hj hij
    rw [at' i (by omega), at' j hj] at this
    exact this
  have b0 := h.b _ (List.getElem_mem (show 0 < A.length by omega))
  have b1 := h.b _ (List.getElem_mem (show A.length - 1 < A.length by omega))
  rw [at' 0 (by omega)] at b0
  rw [at' _ (by omega)] at b1
  rw [at' i hi] at e1
  subst e1
  have l0 := le 0 (by omega)
  have ll := le (A.length - 1) (by omega)
  have li := le i hi
  have p1 : xI A 0 ≤ xI A i := by
    by_cases c : i = 0
    · rw [c]; exact Int.le_refl _
    · have := lt 0 i (by omega) hi; omega
  have p2 : vI A i ≤ vI A (A.length - 1) := by
    by_cases c : i = A.length - 1
    · rw [← c]; exact Int.le_refl _
    · have := lt i (A.length - 1) (by omega) (by omega); omega
  exact ⟨p1, p2, by show xI A 0 ≤ _; omega, b0.1, b1.2⟩
theorem gr_r {A B : Lot} (h : LotOk A) {n : Nat} (hn : (n : Int) = 2 * vI A (A.length - 1) + 1 - 2 * xI A 0) : ∀ u, PP A B u → 0 < n ∧ gr (2 * xI A 0) 0 ≤ u ∧ ∀ {k : Nat}, k + 1 = n → u ≤ gr (2 * xI A 0) k := by
  rintro u ⟨p1, _⟩
  obtain ⟨e, he, q1, q2⟩ := inL_q.mp p1
  obtain ⟨r1, r2, r3, r4, r5⟩ := lot_ends h he
  have s1 : (xI A 0 : Rat) ≤ (e.1 : Rat) := Rat.intCast_le_intCast.mpr r1
  have s2 : (e.2 : Rat) ≤ (vI A (A.length - 1) : Rat) := Rat.intCast_le_intCast.mpr r2
  refine ⟨by omega, ?_, fun {k} hk => ?_⟩
  · unfold gr e8
    rw [show 2 * xI A 0 + ((0 : Nat) : Int) = 2 * xI A 0 by omega, c2]; grind
  · unfold gr e8
    rw [show 2 * xI A 0 + (k : Int) = 2 * vI A (A.length - 1) by omega, c2]; grind
theorem inE_rng {A : Lot} (h : LotOk A) {m : Int} (hm : InE A m) : 2 * xI A 0 ≤ m ∧ m ≤ 2 * vI A (A.length - 1) := by
  obtain ⟨e, he, q1, q2⟩ := hm
  obtain ⟨r1, r2, _⟩ := lot_ends h he
  omega
end Lk18
end
section
set_option Elab.async false
set_option linter.all false
set_option maxRecDepth 100000
set_option maxHeartbeats 4000000
set_option exponentiation.threshold 5000
open PySem Mv Mv.PreA
local macro_rules | `(tactic| walk_at "ev") => `(tactic| try simp only [↓W_bCons, ↓W_bNil, ↓W_bBrk, ↓W_bCnt, ↓W_bExp, ↓W_bRet, ↓W_bRetN, ↓W_bIf, ↓W_bAsg, ↓W_bPar, ↓W_bAug, ↓W_eC, ↓W_eV, ↓W_eM, ↓W_hV, ↓W_hE, ↓W_eFz, ↓W_e1, ↓W_e2, ↓W_aNil, ↓W_aCons, ↓W_eN, ↓W_eTup, ↓W_eLst, ↓W_eCall, ↓W_eMut, ↓W_eMt, ↓W_eIf, ↓W_eAn, ↓W_eOr, ↓W_eNo, ↓W_eJ0, ↓W_eJ1, ↓W_tT, ↓W_tB, ↓W_tNo, ↓W_tAn, ↓W_tOr, ↓W_tAll, ↓W_gNm, ↓W_gsNil, ↓W_gsCons, ↓W_gTp, ↓W_gTpL, ↓W_gIx, ↓W_bFor, ↓W_bWhile, ↓W_iRg1, ↓W_iRg2, ↓W_iSq, ↓W_eLc, ↓W_eSl, ↓W_pN, ↓W_pS, ↓W_iEn, ↓W_iZp, ↓W_iRv, ↓W_iRg3, ↓W_iRgV, ↓W_eCh, ↓W_chIf, ↓W_bind, ↓W_map, ↓W_some, ↓W_none,
  Hd.get, List.getElem?_cons_zero, List.getElem?_cons_succ, List.getD_cons_zero, List.getD_cons_succ, List.set_cons_zero, List.set_cons_succ, List.length_cons, List.length_nil, List.map_cons, List.map_nil, List.replicate, List.cons_append, List.nil_append, Nat.reduceAdd, Nat.reduceSub, Nat.reduceLeDiff, Nat.zero_add,
  D.frz, D.frzL, D.fz, D.fzL, tru_b, tru_i, tru_n, tru_l, tru_t, tru_c, tms, wipeD, unw, lend, unlend, keepL, Option.map_some, Option.bind_some, Bool.and_true, Bool.true_and, Bool.not_true, Bool.not_false, ↓reduceIte, if_true, if_false, Bool.false_eq_true, true_and, and_true, ite_b, ite_nb, vv_fmtI, vv_fmtS, vv_reprI, vv_reprS, vv_addS, vv_augI, vv_augS, vv_lenS, vv_eqS, vv_neS, vv_addL, vv_addT,
  vv_add, vv_sub, vv_mul, vv_div, vv_mod, vv_pow, vv_shl, vv_shr, vv_neg, vv_lt, vv_le, vv_gt, vv_ge, vv_int, vv_intS, vv_intb, vv_abs, vv_gcd, vv_max2, vv_min2, vv_lenL, vv_lenC, vv_lenT, vv_idxL, vv_idxC, vv_idxT, vv_eqI, vv_eqB, vv_neI, vv_list, vv_listT, vv_tuple, vv_tupleT, vv_sum, vv_slL, vv_slS, vv_slT, vv_range, vv_index, vv_count, isL_l, isL_c, lenL_l, lenL_c, kindL, vv_maxL, vv_minL, vv_strI, vv_app, vv_isNN, vv_isIN, vv_isSN, vv_isBN, vv_isLN, vv_isTN, vv_isBB, vv_isNB, vv_isIB, vv_isSB, vv_isLB, vv_isTB, vv_inNN, vv_inIN, vv_inSN, vv_inBN, vv_inLN, vv_inTN, vv_inBB, atF0, atF1, atF2, atF3, atF4, atF5, okI, okB, okS, okN, okL, ix0, ix1, ix2, frzL_int, fzL_int, intsD_map, isiI_int, isiI_str, isiI_bool, isiI_list, isiI_tuple, isiS_int, isiS_str, isiS_bool, isiS_list, isiS_tuple, isiB_int, isiB_str, isiB_bool, isiB_list, isiB_tuple, isiL_int, isiL_str, isiL_bool, isiL_list, isiL_tuple, isiT_int, isiT_str, isiT_bool, isiT_list, isiT_tuple, isiN_int, isiN_str, isiN_bool, isiN_list, isiN_tuple])
local macro_rules | `(tactic| walk_at "mu") => `(tactic| repeat (first | (rw [W_ok (MulOk.right (by omega))]; walk_at "ev") | (rw [W_ok (MulOk.left (by omega))]; walk_at "ev") | (rw [W_ok (divok (by omega) (by omega))]; walk_at "ev") | (rw [W_ok (by omega)]; walk_at "ev")))
namespace Lk18
theorem curve_neg {l : Cu} {j : Nat} (h1 : 1 ≤ j) (h2 : j ≤ l.length) : atF (l.map pI) (-(j : Int)) = some (pI (xI l (l.length - j), vI l (l.length - j))) := by
  unfold atF L2.atI L2.ixN
  rw [List.length_map, if_neg (by omega), if_pos (by omega), Option.bind_some, show (-(j : Int) + (l.length : Int)).toNat = l.length - j by omega]
  have := curve_at (l := l) (k := l.length - j) (by omega)
  rw [atF_nat] at this
  rw [List.getElem?_map] at this ⊢
  rw [List.getElem?_eq_getElem (show l.length - j < l.length by omega)] at this ⊢
  exact this
theorem e8_sz {b : Int} (h : -1000 ≤ b ∧ b ≤ 1000) : Sz 21 (e8 b) := sz_of (t := b) (b := 8) (by decide) (by omega) (by decide)
theorem lbT_ok {A B : Lot} {F : St} {lo at' bb : Int} {k n : Nat} {x4 x5 : D} {bg : Option Int} {Q : Out → Prop} (hA : LotOk A) (hB : LotOk B) (hat : at' = lo + (k : Int)) (hn : ∀ m, InE A m → m < lo + (n : Int))
    (hr : ∀ u, PP A B u → 0 < n ∧ gr lo 0 ≤ u ∧ ∀ {k : Nat}, k + 1 = n → u ≤ gr lo k) (hk : k < n) (hI : GInv (PP A B) (gr lo) n k F (bg.map e8)) (hin : InE A at' ∧ InE B at') (hbb : bb = bg.getD at') (hF : F.length ≤ 3000)
    (hQ : ∀ F' bg', GInv (PP A B) (gr lo) n (k + 1) F' (bg'.map e8) → (bg' = some bb ∧ F' = F ∨ bg' = none ∧ F' = F ++ [(e8 bb, e8 at')]) → Q (.nx [.lst true (A.map pI), .lst true (B.map pI), .lst true (F'.map pR), optI bg', x4, x5, .int at'])) :
    W (lbT [.lst true (A.map pI), .lst true (B.map pI), .lst true (F.map pR), .int bb, x4, x5, .int at']) Q := by
  have la := hA.len
  have lb := hB.len
  have hP : PP A B (gr lo k) := pp_at.mpr (hat ▸ hin)
  have hbg : gbgn (gr lo) k (bg.map e8) = e8 bb := by
    subst hbb
    cases bg with
    | none => show gr lo k = e8 at'; rw [hat]; rfl
    | some b => rfl
  have gat : gr lo k = e8 at' := by rw [hat]; rfl
  have closing : ¬ (InE A (at' + 1) ∧ InE B (at' + 1)) → Q (.nx [.lst true (A.map pI), .lst true (B.map pI), .lst true ((F ++ [(e8 bb, e8 at')]).map pR), .non, x4, x5, .int at']) := fun h => by
    have := gstep_end gr_m gr_b hr hI hk hP (fun _ z => h (by have := (gr_mid.mp z).2; rw [← hat] at this; exact this))
    rw [hbg, gat] at this
    exact hQ (F ++ [(e8 bb, e8 at')]) none this (.inr ⟨rfl, rfl⟩)
  unfold lbT
  walk_at "ev"
  refine W_mono (in_lot_ok (L := A) (o := true) (m := at' + 1) (by omega)) ?_
  rintro r ⟨t, rfl, ht⟩
  walk_at "ev"
  cases t
  · walk_at "ev"
    rw [W_eq q8]
    walk_at "ev"
    rw [W_eq q8]
    walk_at "ev"
    rw [W_ok (by rw [List.length_map]; omega)]
    walk_at "ev"
    have := closing fun z => by cases ht.mpr z.1
    rw [map_snoc] at this
    exact this
  · walk_at "ev"
    refine W_mono (in_lot_ok (L := B) (o := true) (m := at' + 1) (by omega)) ?_
    rintro r ⟨t, rfl, ht2⟩
    walk_at "ev"
    cases t
    · walk_at "ev"
      rw [W_eq q8]
      walk_at "ev"
      rw [W_eq q8]
      walk_at "ev"
      rw [W_ok (by rw [List.length_map]; omega)]
      walk_at "ev"
      have := closing fun z => by cases ht2.mpr z.2
      rw [map_snoc] at this
      exact this
    · walk_at "ev"
      have b1 := ht.mp rfl
      have b2 := ht2.mp rfl
      have hk1 : k + 1 < n := by have := hn _ b1; omega
      have := gstep_on gr_m gr_b hr hI hk1 hP (gr_mid.mpr ⟨hat ▸ hin, by rw [← hat]; exact ⟨b1, b2⟩⟩)
      rw [hbg] at this
      exact hQ F (some bb) this (.inl ⟨rfl, rfl⟩)
theorem law_both_ok {A B : Lot} (hA : LotOk A) (hB : LotOk B) : W (F_law_both [.lst true (A.map pI), .lst true (B.map pI)]) fun r => ∃ F, r = (.lst true (F.map pR), [.lst true (A.map pI), .lst true (B.map pI)]) ∧ (Can F ∧ ∀ u, inL F u ↔ inL (qR A) u ∧ inL (qR B) u) ∧ F.length ≤ 2000 ∧ ∀ e ∈ F, Sz 21 e.1 ∧ Sz 21 e.2 := by
  have la := hA.len
  have lb := hB.len
  unfold F_law_both
  rw [W_fnD rfl, d_law_both_cut]
  walk_at "ev"
  rw [gEq_nil (ok_mono (emb_lok emb_int2 A) (by decide))]
  walk_at "ev"
  by_cases hA0 : A = []
  · subst hA0
    rw [if_pos (by rfl)]
    exact ⟨[], rfl, ⟨can_nil, fun u => ⟨fun z => absurd z inL_nil, fun z => absurd z.1 inL_nil⟩⟩, by decide, fun _ z => absurd z List.not_mem_nil⟩
  rw [if_neg (by simpa using hA0)]
  rw [gEq_nil (ok_mono (emb_lok emb_int2 B) (by decide))]
  walk_at "ev"
  by_cases hB0 : B = []
  · subst hB0
    rw [if_pos (by rfl)]
    exact ⟨[], rfl, ⟨can_nil, fun u => ⟨fun z => absurd z inL_nil, fun z => absurd z.2 inL_nil⟩⟩, by decide, fun _ z => absurd z List.not_mem_nil⟩
  rw [if_neg (by simpa using hB0)]
  have hne : 0 < A.length := List.length_pos_iff.mpr hA0
  obtain ⟨_, _, r3, r4, r5⟩ := lot_ends hA (List.getElem_mem hne)
  rw [show atF (A.map pI) 0 = some (pI (xI A 0, vI A 0)) from curve_at (k := 0) hne]
  walk_at "ev"
  rw [show atF (A.map pI) (-1) = some (pI (xI A (A.length - 1), vI A (A.length - 1))) from curve_neg (j := 1) (Nat.le_refl _) hne]
  walk_at "ev"
  rw [W_ok (MulOk.left (by decide))]
  walk_at "ev"
  rw [W_ok (MulOk.left (by decide))]
  walk_at "ev"
  rw [W_ok (by omega)]
  generalize hn : (2 * vI A (A.length - 1) + 1 - 2 * xI A 0).toNat = n
  have hn' : (n : Int) = 2 * vI A (A.length - 1) + 1 - 2 * xI A 0 := by omega
  have hr := gr_r (B := B) hA hn'
  have hlim : ∀ m, InE A m → m < 2 * xI A 0 + (n : Int) := fun m hm => by have := inE_rng hA hm; omega
  refine W_range (lo := 2 * xI A 0) (fun k ρ => ∃ F bg x4 x5 x6, ρ = [.lst true (A.map pI), .lst true (B.map pI), .lst true (F.map pR), optI bg, x4, x5, x6] ∧ GInv (PP A B) (gr (2 * xI A 0)) n k F (bg.map e8) ∧ F.length ≤ k ∧ (∀ e ∈ F, Sz 21 e.1 ∧ Sz 21 e.2) ∧ ∀ b, bg = some b → -1000 ≤ b ∧ b ≤ 1000) ⟨[], none, _, _, _, rfl, ginv0 gr_m gr_b hr, Nat.le_refl _, fun _ z => absurd z List.not_mem_nil, fun _ z => by cases z⟩ ?_ ?_
  · rintro k ρ hk ⟨F, bg, x4, x5, x6, rfl, hI, lF, sF, sb⟩
    generalize hat : 2 * xI A 0 + (k : Int) = at'
    have hatb : -1000 ≤ at' ∧ at' ≤ 1000 := by omega
    walk_at "ev"
    refine W_mono (in_lot_ok (L := A) (o := true) (m := at') (by omega)) ?_
    rintro r ⟨t, rfl, ht⟩
    walk_at "ev"
    have gat : gr (2 * xI A 0) k = e8 at' := by rw [← hat]; rfl
    have out : ¬ (InE A at' ∧ InE B at') → bg = none ∧ GInv (PP A B) (gr (2 * xI A 0)) n (k + 1) F none := fun h => by
      obtain ⟨q1, q2⟩ := gstep_out gr_m gr_b hr hI hk (by rw [gat, pp_at]; exact h)
      refine ⟨?_, q2⟩
      cases bg with
      | none => rfl
      | some b => cases q1
    cases t
    · walk_at "ev"
      obtain ⟨rfl, q⟩ := out fun z => by cases ht.mpr z.1
      exact ⟨F, none, _, _, _, rfl, q, by omega, sF, fun _ z => by cases z⟩
    · walk_at "ev"
      refine W_mono (in_lot_ok (L := B) (o := true) (m := at') (by omega)) ?_
      rintro r ⟨t, rfl, ht2⟩
      walk_at "ev"
      cases t
      · walk_at "ev"
        obtain ⟨rfl, q⟩ := out fun z => by cases ht2.mpr z.2
        exact ⟨F, none, _, _, _, rfl, q, by omega, sF, fun _ z => by cases z⟩
      · walk_at "ev"
        have hbb : -1000 ≤ bg.getD at' ∧ bg.getD at' ≤ 1000 := by
          cases bg with
          | none => exact hatb
          | some b => exact sb b rfl
        have go : W (lbT [.lst true (A.map pI), .lst true (B.map pI), .lst true (F.map pR), .int (bg.getD at'), x4, x5, .int at']) fun o => match o with
            | .nx ρ => ∃ F bg x4 x5 x6, ρ = [.lst true (A.map pI), .lst true (B.map pI), .lst true (F.map pR), optI bg, x4, x5, x6] ∧ GInv (PP A B) (gr (2 * xI A 0)) n (k + 1) F (bg.map e8) ∧ F.length ≤ k + 1 ∧ (∀ e ∈ F, Sz 21 e.1 ∧ Sz 21 e.2) ∧ ∀ b, bg = some b → -1000 ≤ b ∧ b ≤ 1000
            | _ => False := by
          refine lbT_ok hA hB hat.symm hlim hr hk hI ⟨ht.mp rfl, ht2.mp rfl⟩ rfl (by omega) fun F' bg' hI' hc => ?_
          rcases hc with ⟨rfl, rfl⟩ | ⟨rfl, rfl⟩
          · exact ⟨F', _, _, _, _, rfl, hI', by omega, sF, fun b z => by rw [← Option.some.inj z]; exact hbb⟩
          · refine ⟨_, _, _, _, _, rfl, hI', by rw [List.length_append]; show F.length + 1 ≤ _; omega, fun e he => ?_, fun b z => by cases z⟩
            rcases List.mem_append.mp he with he | he
            · exact sF e he
            · rw [List.mem_singleton.mp he]; exact ⟨e8_sz hbb, e8_sz hatb⟩
        cases bg with
        | none =>
          rw [show optI none = D.non from rfl]
          walk_at "ev"
          refine W_mono go fun o ho => ?_
          cases o
          · exact ho
          all_goals exact ho.elim
        | some b =>
          rw [show optI (some b) = D.int b from rfl]
          walk_at "ev"
          refine W_mono go fun o ho => ?_
          cases o
          · exact ho
          all_goals exact ho.elim
  · rintro ρ ⟨F, bg, x4, x5, x6, rfl, hI, lF, sF, sb⟩
    walk_at "ev"
    obtain ⟨_, q1, q2⟩ := ginv_end gr_m gr_b hr hI
    exact ⟨F, rfl, ⟨q1, q2⟩, by omega, sF⟩
end Lk18
end
section
set_option Elab.async false
set_option linter.all false
set_option maxRecDepth 100000
set_option maxHeartbeats 4000000
set_option exponentiation.threshold 5000
open PySem Mv Mv.PreA
local macro_rules | `(tactic| walk_at "ev") => `(tactic| try simp only [↓W_bCons, ↓W_bNil, ↓W_bBrk, ↓W_bCnt, ↓W_bExp, ↓W_bRet, ↓W_bRetN, ↓W_bIf, ↓W_bAsg, ↓W_bPar, ↓W_bAug, ↓W_eC, ↓W_eV, ↓W_eM, ↓W_hV, ↓W_hE, ↓W_eFz, ↓W_e1, ↓W_e2, ↓W_aNil, ↓W_aCons, ↓W_eN, ↓W_eTup, ↓W_eLst, ↓W_eCall, ↓W_eMut, ↓W_eMt, ↓W_eIf, ↓W_eAn, ↓W_eOr, ↓W_eNo, ↓W_eJ0, ↓W_eJ1, ↓W_tT, ↓W_tB, ↓W_tNo, ↓W_tAn, ↓W_tOr, ↓W_tAll, ↓W_gNm, ↓W_gsNil, ↓W_gsCons, ↓W_gTp, ↓W_gTpL, ↓W_gIx, ↓W_bFor, ↓W_bWhile, ↓W_iRg1, ↓W_iRg2, ↓W_iSq, ↓W_eLc, ↓W_eSl, ↓W_pN, ↓W_pS, ↓W_iEn, ↓W_iZp, ↓W_iRv, ↓W_iRg3, ↓W_iRgV, ↓W_eCh, ↓W_chIf, ↓W_bind, ↓W_map, ↓W_some, ↓W_none,
  Hd.get, List.getElem?_cons_zero, List.getElem?_cons_succ, List.getD_cons_zero, List.getD_cons_succ, List.set_cons_zero, List.set_cons_succ, List.length_cons, List.length_nil, List.map_cons, List.map_nil, List.replicate, List.cons_append, List.nil_append, Nat.reduceAdd, Nat.reduceSub, Nat.reduceLeDiff, Nat.zero_add,
  D.frz, D.frzL, D.fz, D.fzL, tru_b, tru_i, tru_n, tru_l, tru_t, tru_c, tms, wipeD, unw, lend, unlend, keepL, Option.map_some, Option.bind_some, Bool.and_true, Bool.true_and, Bool.not_true, Bool.not_false, ↓reduceIte, if_true, if_false, Bool.false_eq_true, true_and, and_true, ite_b, ite_nb, vv_fmtI, vv_fmtS, vv_reprI, vv_reprS, vv_addS, vv_augI, vv_augS, vv_lenS, vv_eqS, vv_neS, vv_addL, vv_addT,
  vv_add, vv_sub, vv_mul, vv_div, vv_mod, vv_pow, vv_shl, vv_shr, vv_neg, vv_lt, vv_le, vv_gt, vv_ge, vv_int, vv_intS, vv_intb, vv_abs, vv_gcd, vv_max2, vv_min2, vv_lenL, vv_lenC, vv_lenT, vv_idxL, vv_idxC, vv_idxT, vv_eqI, vv_eqB, vv_neI, vv_list, vv_listT, vv_tuple, vv_tupleT, vv_sum, vv_slL, vv_slS, vv_slT, vv_range, vv_index, vv_count, isL_l, isL_c, lenL_l, lenL_c, kindL, vv_maxL, vv_minL, vv_strI, vv_app, vv_isNN, vv_isIN, vv_isSN, vv_isBN, vv_isLN, vv_isTN, vv_isBB, vv_isNB, vv_isIB, vv_isSB, vv_isLB, vv_isTB, vv_inNN, vv_inIN, vv_inSN, vv_inBN, vv_inLN, vv_inTN, vv_inBB, atF0, atF1, atF2, atF3, atF4, atF5, okI, okB, okS, okN, okL, ix0, ix1, ix2, frzL_int, fzL_int, intsD_map, isiI_int, isiI_str, isiI_bool, isiI_list, isiI_tuple, isiS_int, isiS_str, isiS_bool, isiS_list, isiS_tuple, isiB_int, isiB_str, isiB_bool, isiB_list, isiB_tuple, isiL_int, isiL_str, isiL_bool, isiL_list, isiL_tuple, isiT_int, isiT_str, isiT_bool, isiT_list, isiT_tuple, isiN_int, isiN_str, isiN_bool, isiN_list, isiN_tuple])
local macro_rules | `(tactic| walk_at "mu") => `(tactic| repeat (first | (rw [W_ok (MulOk.right (by omega))]; walk_at "ev") | (rw [W_ok (MulOk.left (by omega))]; walk_at "ev") | (rw [W_ok (divok (by omega) (by omega))]; walk_at "ev") | (rw [W_ok (by omega)]; walk_at "ev")))
namespace Lk18
def tot (L : Lot) : Int := (L.map fun e => e.2 - e.1).sum
theorem tot_cons (e : Int × Int) (L : Lot) : tot (e :: L) = e.2 - e.1 + tot L := by unfold tot; rw [List.map_cons, List.sum_cons]
theorem tot_snoc (L : Lot) (e : Int × Int) : tot (L ++ [e]) = tot L + (e.2 - e.1) := by unfold tot; rw [List.map_append, List.sum_append, List.map_cons, List.map_nil, List.sum_cons, List.sum_nil, Int.add_zero]
theorem tot_bd : ∀ {L : Lot}, (∀ e ∈ L, e.1 ≤ e.2) → (∀ e ∈ L, -400 ≤ e.1 ∧ e.2 ≤ 400) → 0 ≤ tot L ∧ tot L ≤ 800 * (L.length : Int)
  | [], _, _ => by unfold tot; simp
  | e :: L, h, k => by
    have := tot_bd (L := L) (fun x hx => h x (List.mem_cons_of_mem _ hx)) (fun x hx => k x (List.mem_cons_of_mem _ hx))
    have h1 := h e List.mem_cons_self
    have h2 := k e List.mem_cons_self
    rw [tot_cons, List.length_cons]
    omega
def gT (e : Int × Int) (a : Int) : Int := if (if a < 2 * e.2 then a else 2 * e.2) - 2 * e.1 > 0 then (if a < 2 * e.2 then a else 2 * e.2) - 2 * e.1 else 0
def gG (L : Lot) (a : Int) : Int := (L.map fun e => gT e a).sum
theorem gG_cons (e : Int × Int) (L : Lot) (a : Int) : gG (e :: L) a = gT e a + gG L a := by unfold gG; rw [List.map_cons, List.sum_cons]
theorem gT_nn {e : Int × Int} {a : Int} : 0 ≤ gT e a := by unfold gT; split <;> omega
theorem gG_nn : ∀ (L : Lot) (a : Int), 0 ≤ gG L a
  | [], a => by unfold gG; simp
  | e :: L, a => by rw [gG_cons]; have := gG_nn L a; have := gT_nn (e := e) (a := a); omega
theorem gG_zero : ∀ {L : Lot} {a : Int}, (∀ e ∈ L, a ≤ 2 * e.1) → gG L a = 0
  | [], a, _ => rfl
  | e :: L, a, h => by
    rw [gG_cons, gG_zero fun x hx => h x (List.mem_cons_of_mem _ hx)]
    have := h e List.mem_cons_self
    unfold gT
    split <;> (try split) <;> omega
/-- the eighth at which so many lie ahead -/
def midE : Lot → Int → Option Int
  | [], _ => none
  | e :: R, h => if 2 * (e.2 - e.1) < h then midE R (h - 2 * (e.2 - e.1)) else some (2 * e.1 + h)
theorem mid_some : ∀ {L : Lot} {h : Int}, L ≠ [] → h ≤ 2 * tot L → ∃ m, midE L h = some m
  | [], h, z, _ => absurd rfl z
  | e :: R, h, _, k => by
    unfold midE
    split
    · rename_i c
      rw [tot_cons] at k
      by_cases z : R = []
      · exfalso
        rw [z] at k
        have : tot [] = 0 := rfl
        omega
      · exact mid_some z (by omega)
    · exact ⟨_, rfl⟩
theorem mid_in : ∀ {L : Lot} {h m : Int}, 0 ≤ h → midE L h = some m → ∃ f ∈ L, 2 * f.1 ≤ m ∧ m ≤ 2 * f.2
  | [], h, m, _, k => by cases k
  | e :: R, h, m, h0, k => by
    unfold midE at k
    split at k
    · rename_i c
      by_cases le : e.1 ≤ e.2
      · obtain ⟨f, hf, q⟩ := mid_in (L := R) (by omega) k
        exact ⟨f, List.mem_cons_of_mem _ hf, q⟩
      · obtain ⟨f, hf, q⟩ := mid_in (L := R) (by omega) k
        exact ⟨f, List.mem_cons_of_mem _ hf, q⟩
    · rename_i c
      have := Option.some.inj k
      exact ⟨e, List.mem_cons_self, by omega, by omega⟩
theorem mid_ge : ∀ {L : Lot} {h m : Int}, (∀ e ∈ L, e.1 ≤ e.2) → (L.Pairwise fun e f => e.2 < f.1) → 0 ≤ h → midE L h = some m → h ≤ gG L m
  | [], h, m, _, _, _, k => by cases k
  | e :: R, h, m, hl, hp, h0, k => by
    obtain ⟨p1, p2⟩ := List.pairwise_cons.mp hp
    have le := hl e List.mem_cons_self
    have lr : ∀ x ∈ R, x.1 ≤ x.2 := fun x hx => hl x (List.mem_cons_of_mem _ hx)
    unfold midE at k
    rw [gG_cons]
    split at k
    · rename_i c
      obtain ⟨f, hf, q1, q2⟩ := mid_in (L := R) (by omega) k
      have := p1 f hf
      have := mid_ge (L := R) lr p2 (by omega) k
      have e1 : gT e m = 2 * (e.2 - e.1) := by unfold gT; split <;> split <;> omega
      omega
    · rename_i c
      have := Option.some.inj k
      have e1 : gT e m = h := by unfold gT; split <;> split <;> omega
      have := gG_nn R m
      omega
theorem mid_lt : ∀ {L : Lot} {h m : Int}, (∀ e ∈ L, e.1 ≤ e.2) → (L.Pairwise fun e f => e.2 < f.1) → 0 < h → midE L h = some m → ∀ a, a < m → gG L a < h
  | [], h, m, _, _, _, k => by cases k
  | e :: R, h, m, hl, hp, h0, k => by
    obtain ⟨p1, p2⟩ := List.pairwise_cons.mp hp
    have le := hl e List.mem_cons_self
    have lr : ∀ x ∈ R, x.1 ≤ x.2 := fun x hx => hl x (List.mem_cons_of_mem _ hx)
    intro a ha
    unfold midE at k
    rw [gG_cons]
    split at k
    · rename_i c
      have := mid_lt (L := R) lr p2 (by omega) k a ha
      have e1 : gT e a ≤ 2 * (e.2 - e.1) := by unfold gT; split <;> split <;> omega
      omega
    · rename_i c
      have := Option.some.inj k
      have e1 : gT e a < h := by unfold gT; split <;> split <;> omega
      rw [gG_zero fun f hf => by have := p1 f hf; omega]
      omega
theorem mid_first {e : Int × Int} {R : Lot} (le : e.1 ≤ e.2) : midE (e :: R) 0 = some (2 * e.1) := by
  unfold midE
  rw [if_neg (by omega), Int.add_zero]
/-- what the law looks for -/
theorem mid_law {L : Lot} (h : LotOk L) (hne : 0 < L.length) : ∃ m, midE L (tot L) = some m ∧ 2 * xI L 0 ≤ m ∧ m ≤ 2 * vI L (L.length - 1) ∧ tot L ≤ gG L m ∧ ∀ a, 2 * xI L 0 ≤ a → a < m → gG L a < tot L := by
  have hb := tot_bd h.le h.b
  obtain ⟨m, hm⟩ := mid_some (L := L) (h := tot L) (List.length_pos_iff.mp hne) (by omega)
  obtain ⟨f, hf, q1, q2⟩ := mid_in hb.1 hm
  obtain ⟨r1, r2, _⟩ := lot_ends h hf
  refine ⟨m, hm, by omega, by omega, mid_ge h.le h.srt hb.1 hm, fun a a1 a2 => ?_⟩
  by_cases z : tot L = 0
  · exfalso
    cases L with
    | nil => exact absurd hne (Nat.lt_irrefl 0)
    | cons e R =>
      rw [z, mid_first (h.le e List.mem_cons_self)] at hm
      have := Option.some.inj hm
      have : xI (e :: R) 0 = e.1 := rfl
      omega
  · exact mid_lt h.le h.srt (by omega) hm a a2
end Lk18
end
section
set_option Elab.async false
set_option linter.all false
set_option maxRecDepth 100000
set_option maxHeartbeats 4000000
set_option exponentiation.threshold 5000
open PySem Mv Mv.PreA
local macro_rules | `(tactic| walk_at "ev") => `(tactic| try simp only [↓W_bCons, ↓W_bNil, ↓W_bBrk, ↓W_bCnt, ↓W_bExp, ↓W_bRet, ↓W_bRetN, ↓W_bIf, ↓W_bAsg, ↓W_bPar, ↓W_bAug, ↓W_eC, ↓W_eV, ↓W_eM, ↓W_hV, ↓W_hE, ↓W_eFz, ↓W_e1, ↓W_e2, ↓W_aNil, ↓W_aCons, ↓W_eN, ↓W_eTup, ↓W_eLst, ↓W_eCall, ↓W_eMut, ↓W_eMt, ↓W_eIf, ↓W_eAn, ↓W_eOr, ↓W_eNo, ↓W_eJ0, ↓W_eJ1, ↓W_tT, ↓W_tB, ↓W_tNo, ↓W_tAn, ↓W_tOr, ↓W_tAll, ↓W_gNm, ↓W_gsNil, ↓W_gsCons, ↓W_gTp, ↓W_gTpL, ↓W_gIx, ↓W_bFor, ↓W_bWhile, ↓W_iRg1, ↓W_iRg2, ↓W_iSq, ↓W_eLc, ↓W_eSl, ↓W_pN, ↓W_pS, ↓W_iEn, ↓W_iZp, ↓W_iRv, ↓W_iRg3, ↓W_iRgV, ↓W_eCh, ↓W_chIf, ↓W_bind, ↓W_map, ↓W_some, ↓W_none,
  Hd.get, List.getElem?_cons_zero, List.getElem?_cons_succ, List.getD_cons_zero, List.getD_cons_succ, List.set_cons_zero, List.set_cons_succ, List.length_cons, List.length_nil, List.map_cons, List.map_nil, List.replicate, List.cons_append, List.nil_append, Nat.reduceAdd, Nat.reduceSub, Nat.reduceLeDiff, Nat.zero_add,
  D.frz, D.frzL, D.fz, D.fzL, tru_b, tru_i, tru_n, tru_l, tru_t, tru_c, tms, wipeD, unw, lend, unlend, keepL, Option.map_some, Option.bind_some, Bool.and_true, Bool.true_and, Bool.not_true, Bool.not_false, ↓reduceIte, if_true, if_false, Bool.false_eq_true, true_and, and_true, ite_b, ite_nb, vv_fmtI, vv_fmtS, vv_reprI, vv_reprS, vv_addS, vv_augI, vv_augS, vv_lenS, vv_eqS, vv_neS, vv_addL, vv_addT,
  vv_add, vv_sub, vv_mul, vv_div, vv_mod, vv_pow, vv_shl, vv_shr, vv_neg, vv_lt, vv_le, vv_gt, vv_ge, vv_int, vv_intS, vv_intb, vv_abs, vv_gcd, vv_max2, vv_min2, vv_lenL, vv_lenC, vv_lenT, vv_idxL, vv_idxC, vv_idxT, vv_eqI, vv_eqB, vv_neI, vv_list, vv_listT, vv_tuple, vv_tupleT, vv_sum, vv_slL, vv_slS, vv_slT, vv_range, vv_index, vv_count, isL_l, isL_c, lenL_l, lenL_c, kindL, vv_maxL, vv_minL, vv_strI, vv_app, vv_isNN, vv_isIN, vv_isSN, vv_isBN, vv_isLN, vv_isTN, vv_isBB, vv_isNB, vv_isIB, vv_isSB, vv_isLB, vv_isTB, vv_inNN, vv_inIN, vv_inSN, vv_inBN, vv_inLN, vv_inTN, vv_inBB, atF0, atF1, atF2, atF3, atF4, atF5, okI, okB, okS, okN, okL, ix0, ix1, ix2, frzL_int, fzL_int, intsD_map, isiI_int, isiI_str, isiI_bool, isiI_list, isiI_tuple, isiS_int, isiS_str, isiS_bool, isiS_list, isiS_tuple, isiB_int, isiB_str, isiB_bool, isiB_list, isiB_tuple, isiL_int, isiL_str, isiL_bool, isiL_list, isiL_tuple, isiT_int, isiT_str, isiT_bool, isiT_list, isiT_tuple, isiN_int, isiN_str, isiN_bool, isiN_list, isiN_tuple])
local macro_rules | `(tactic| walk_at "mu") => `(tactic| repeat (first | (rw [W_ok (MulOk.right (by omega))]; walk_at "ev") | (rw [W_ok (MulOk.left (by omega))]; walk_at "ev") | (rw [W_ok (divok (by omega) (by omega))]; walk_at "ev") | (rw [W_ok (by omega)]; walk_at "ev")))
namespace Lk18
theorem q4_sz {n : Int} (h : -5000 ≤ n ∧ n ≤ 5000) : Sz 21 ((n : Rat) / 4) := sz_of (t := n) (b := 4) (by decide) (by omega) (by decide)
theorem ci0 : ((0 : Int) : Rat) / 4 = 0 := by rw [show ((0 : Int) : Rat) = 0 from rfl]; grind
theorem length_ok {L : Lot} {o : Bool} (h : LotOk L) : F_length_of [.lst o ((qR L).map pR)] = some (rt ((tot L : Rat) / 4), [.lst o ((qR L).map pR)]) := by
  have hl := h.len
  apply of_W
  unfold F_length_of
  rw [W_fnD rfl]
  unfold d_length_of
  walk_at "ev"
  refine W_list (ds := (qR L).map pR) (fun k ρ => ∃ x2 x3, ρ = [.lst o ((qR L).map pR), rt ((tot (L.take k) : Rat) / 4), x2, x3]) ⟨_, _, by
    show [D.lst o ((qR L).map pR), pr 0 1, _, _] = _
    rw [← rt_int, List.take_zero, show ((tot [] : Int) : Rat) / 4 = ((0 : Int) : Rat) from ci0]⟩ ?_ ?_ ?_
  · rintro k ρ ⟨x2, x3, rfl⟩
    exact itK_lst rfl (frz_pR _) k
  · rintro k d ρ hd ⟨x2, x3, rfl⟩
    unfold qR at hd
    rw [List.getElem?_map, List.getElem?_map] at hd
    obtain ⟨e', he', rfl⟩ := Option.map_eq_some_iff.mp hd
    obtain ⟨e, he, rfl⟩ := Option.map_eq_some_iff.mp he'
    have hk := (List.getElem?_eq_some_iff.mp he).1
    have hm := List.mem_of_getElem? he
    have le := h.le e hm
    have b := h.b e hm
    have tb := tot_bd (L := L.take k) (fun x hx => h.le x (List.mem_of_mem_take hx)) (fun x hx => h.b x (List.mem_of_mem_take hx))
    rw [List.length_take] at tb
    have htk : L.take (k + 1) = L.take k ++ [e] := by rw [List.take_add_one, he]; rfl
    rw [htk, tot_snoc]
    walk_at "ev"
    rw [eq_minus, W_eq (minusR (q4_sz (n := e.2) (by omega)) (q4_sz (n := e.1) (by omega)) (by omega) (by omega))]
    walk_at "ev"
    have es : (e.2 : Rat) / 4 - (e.1 : Rat) / 4 = ((e.2 - e.1 : Int) : Rat) / 4 := by rw [Rat.intCast_sub]; grind
    rw [es, eq_plus, W_eq (plusR (q4_sz (n := tot (L.take k)) (by omega)) (q4_sz (n := e.2 - e.1) (by omega)) (by omega) (by omega))]
    walk_at "ev"
    have es : ((tot (L.take k) : Int) : Rat) / 4 + ((e.2 - e.1 : Int) : Rat) / 4 = ((tot (L.take k) + (e.2 - e.1) : Int) : Rat) / 4 := by rw [Rat.intCast_add]; grind
    rw [es]
    exact ⟨_, _, rfl⟩
  · rintro ρ ⟨x2, x3, rfl⟩
    rw [List.length_map, show (qR L).length = L.length from List.length_map _, List.take_length]
    walk_at "ev"
theorem e8_sz' {b : Int} (h : -10000 ≤ b ∧ b ≤ 10000) : Sz 21 (e8 b) := sz_of (t := b) (b := 8) (by decide) (by omega) (by decide)
theorem middle_ok {L : Lot} {o : Bool} (h : LotOk L) (hne : 0 < L.length) {m : Int} (hm : midE L (tot L) = some m) : F_middle_year [.lst o ((qR L).map pR)] = some (rt (e8 m), [.lst o ((qR L).map pR)]) := by
  have hl := h.len
  have tb := tot_bd h.le h.b
  apply of_W
  unfold F_middle_year
  rw [W_fnD rfl]
  unfold d_middle_year
  cases o
  all_goals
    walk_at "ev"
    rw [W_eq (length_ok h)]
    walk_at "ev"
    rw [eq_frac, W_eq (fractionF (t := 1) (b := 2) (by decide) (by decide)), fr_rt (by decide)]
    walk_at "ev"
    rw [eq_times, W_eq (timesR (q4_sz (n := tot L) (by omega)) (sz_of (t := 1) (b := 2) (n := 21) (by decide) (by decide) (by decide)) (by omega) (by omega))]
    walk_at "ev"
    have e0 : ((tot L : Int) : Rat) / 4 * (((1 : Int) : Rat) / ((2 : Int) : Rat)) = e8 (tot L) := by unfold e8; rw [show ((1 : Int) : Rat) = 1 from rfl, show ((2 : Int) : Rat) = 2 from rfl]; grind
    rw [e0]
    refine W_list (ds := (qR L).map pR) (fun k ρ => ∃ hh x2 x3 x4, ρ = [.lst _ ((qR L).map pR), rt (e8 hh), x2, x3, x4] ∧ midE (L.drop k) hh = some m ∧ 0 ≤ hh ∧ hh ≤ 4000) ⟨tot L, _, _, _, rfl, hm, by omega, by omega⟩ ?_ ?_ ?_
    · rintro k ρ ⟨hh, x2, x3, x4, rfl, _⟩
      exact itK_lst rfl (frz_pR _) k
    · rintro k d ρ hd ⟨hh, x2, x3, x4, rfl, hmd, h1, h2⟩
      unfold qR at hd
      rw [List.getElem?_map, List.getElem?_map] at hd
      obtain ⟨e', he', rfl⟩ := Option.map_eq_some_iff.mp hd
      obtain ⟨e, he, rfl⟩ := Option.map_eq_some_iff.mp he'
      obtain ⟨hk, ek⟩ := List.getElem?_eq_some_iff.mp he
      have hmm := List.mem_of_getElem? he
      have le := h.le e hmm
      have b := h.b e hmm
      rw [List.drop_eq_getElem_cons hk, ek] at hmd
      unfold midE at hmd
      walk_at "ev"
      rw [eq_minus, W_eq (minusR (q4_sz (n := e.2) (by omega)) (q4_sz (n := e.1) (by omega)) (by omega) (by omega))]
      walk_at "ev"
      have es : (e.2 : Rat) / 4 - (e.1 : Rat) / 4 = e8 (2 * (e.2 - e.1)) := by unfold e8; rw [c2, Rat.intCast_sub]; grind
      rw [es, eq_less, W_eq (lessR (e8_sz' (b := 2 * (e.2 - e.1)) (by omega)) (e8_sz' (b := hh) (by omega)) (by omega) (by omega))]
      walk_at "ev"
      simp only [e8_lt]
      split
      · rename_i c
        rw [if_pos c] at hmd
        rw [W_eq (minusR (e8_sz' (b := hh) (by omega)) (e8_sz' (b := 2 * (e.2 - e.1)) (by omega)) (by omega) (by omega))]
        walk_at "ev"
        have es : e8 hh - e8 (2 * (e.2 - e.1)) = e8 (hh - 2 * (e.2 - e.1)) := by unfold e8; rw [Rat.intCast_sub (a := hh)]; grind
        rw [es]
        exact ⟨_, _, _, _, rfl, hmd, by omega, by omega⟩
      · rename_i c
        rw [if_neg c] at hmd
        rw [eq_plus, W_eq (plusR (q4_sz (n := e.1) (by omega)) (e8_sz' (b := hh) (by omega)) (by omega) (by omega))]
        walk_at "ev"
        have es : (e.1 : Rat) / 4 + e8 hh = e8 m := by
          rw [← Option.some.inj hmd]
          unfold e8
          rw [Rat.intCast_add, c2]; grind
        rw [es]
    · rintro ρ ⟨hh, x2, x3, x4, rfl, hmd, h1, h2⟩
      exfalso
      rw [List.length_map, show (qR L).length = L.length from List.length_map _, List.drop_length] at hmd
      cases hmd
theorem law_middle_ok {L : Lot} {o : Bool} (h : LotOk L) (hne : 0 < L.length) {m : Int} (h1 : 2 * xI L 0 ≤ m) (h2 : m ≤ 2 * vI L (L.length - 1)) (h3 : tot L ≤ gG L m) (h4 : ∀ a, 2 * xI L 0 ≤ a → a < m → gG L a < tot L) : F_law_middle [.lst o (L.map pI)] = some (rt (e8 m), [.lst o (L.map pI)]) := by
  have hl := h.len
  obtain ⟨_, _, r3, r4, r5⟩ := lot_ends h (List.getElem_mem hne)
  apply of_W
  unfold F_law_middle
  rw [W_fnD rfl]
  unfold d_law_middle
  walk_at "ev"
  refine W_compM pI L (fun _ => true) (fun e => .int (e.2 - e.1)) (by omega) (fun k => itK_lst rfl (frz_pI L) k) ?_ ?_
  · rintro e he
    walk_at "ev"
  rw [List.filter_eq_self.mpr (fun _ _ => rfl), show L.map (fun e : Int × Int => D.int (e.2 - e.1)) = (L.map fun e : Int × Int => e.2 - e.1).map D.int by rw [List.map_map]; rfl]
  walk_at "ev"
  rw [show atF (L.map pI) 0 = some (pI (xI L 0, vI L 0)) from curve_at (k := 0) hne]
  walk_at "ev"
  rw [W_ok (MulOk.left (by decide))]
  walk_at "ev"
  rw [show atF (L.map pI) (-1) = some (pI (xI L (L.length - 1), vI L (L.length - 1))) from curve_neg (j := 1) (Nat.le_refl _) hne]
  walk_at "ev"
  rw [W_ok (MulOk.left (by decide))]
  walk_at "ev"
  rw [W_ok (by omega)]
  rw [show (L.map fun e : Int × Int => e.2 - e.1).sum = tot L from rfl]
  refine W_range (lo := 2 * xI L 0) (fun k ρ => ∃ x2 x3, ρ = [.lst o (L.map pI), .int (tot L), x2, x3] ∧ 2 * xI L 0 + (k : Int) ≤ m) ⟨_, _, rfl, by omega⟩ ?_ ?_
  · rintro k ρ hk ⟨x2, x3, rfl, hle⟩
    generalize ha : 2 * xI L 0 + (k : Int) = a at *
    walk_at "ev"
    refine W_compM pI L (fun _ => true) (fun e => .int (gT e a)) (by omega) (fun k => itK_lst rfl (frz_pI L) k) ?_ ?_
    · rintro e he
      walk_at "ev"
      rw [W_ok (MulOk.left (by decide))]
      walk_at "ev"
      rw [W_ok (MulOk.left (by decide))]
      walk_at "ev"
      rfl
    rw [List.filter_eq_self.mpr (fun _ _ => rfl), show L.map (fun e : Int × Int => D.int (gT e a)) = (L.map fun e : Int × Int => gT e a).map D.int by rw [List.map_map]; rfl]
    walk_at "ev"
    rw [show (L.map fun e : Int × Int => gT e a).sum = gG L a from rfl]
    split
    · rename_i c
      have : a = m := by
        by_cases z : a < m
        · have := h4 a (by omega) z; omega
        · omega
      rw [W_eq q8]
      walk_at "ev"
      rw [this]
      rfl
    · rename_i c
      refine ⟨_, _, rfl, ?_⟩
      by_cases z : a = m
      · rw [z] at c; omega
      · omega
  · rintro ρ ⟨x2, x3, rfl, hle⟩
    exfalso
    omega
end Lk18
end
section
set_option Elab.async false
set_option linter.all false
set_option maxRecDepth 100000
set_option maxHeartbeats 4000000
set_option exponentiation.threshold 5000
open PySem Mv Mv.PreA
local macro_rules | `(tactic| walk_at "ev") => `(tactic| try simp only [↓W_bCons, ↓W_bNil, ↓W_bBrk, ↓W_bCnt, ↓W_bExp, ↓W_bRet, ↓W_bRetN, ↓W_bIf, ↓W_bAsg, ↓W_bPar, ↓W_bAug, ↓W_eC, ↓W_eV, ↓W_eM, ↓W_hV, ↓W_hE, ↓W_eFz, ↓W_e1, ↓W_e2, ↓W_aNil, ↓W_aCons, ↓W_eN, ↓W_eTup, ↓W_eLst, ↓W_eCall, ↓W_eMut, ↓W_eMt, ↓W_eIf, ↓W_eAn, ↓W_eOr, ↓W_eNo, ↓W_eJ0, ↓W_eJ1, ↓W_tT, ↓W_tB, ↓W_tNo, ↓W_tAn, ↓W_tOr, ↓W_tAll, ↓W_gNm, ↓W_gsNil, ↓W_gsCons, ↓W_gTp, ↓W_gTpL, ↓W_gIx, ↓W_bFor, ↓W_bWhile, ↓W_iRg1, ↓W_iRg2, ↓W_iSq, ↓W_eLc, ↓W_eSl, ↓W_pN, ↓W_pS, ↓W_iEn, ↓W_iZp, ↓W_iRv, ↓W_iRg3, ↓W_iRgV, ↓W_eCh, ↓W_chIf, ↓W_bind, ↓W_map, ↓W_some, ↓W_none,
  Hd.get, List.getElem?_cons_zero, List.getElem?_cons_succ, List.getD_cons_zero, List.getD_cons_succ, List.set_cons_zero, List.set_cons_succ, List.length_cons, List.length_nil, List.map_cons, List.map_nil, List.replicate, List.cons_append, List.nil_append, Nat.reduceAdd, Nat.reduceSub, Nat.reduceLeDiff, Nat.zero_add,
  D.frz, D.frzL, D.fz, D.fzL, tru_b, tru_i, tru_n, tru_l, tru_t, tru_c, tms, wipeD, unw, lend, unlend, keepL, Option.map_some, Option.bind_some, Bool.and_true, Bool.true_and, Bool.not_true, Bool.not_false, ↓reduceIte, if_true, if_false, Bool.false_eq_true, true_and, and_true, ite_b, ite_nb, vv_fmtI, vv_fmtS, vv_reprI, vv_reprS, vv_addS, vv_augI, vv_augS, vv_lenS, vv_eqS, vv_neS, vv_addL, vv_addT,
  vv_add, vv_sub, vv_mul, vv_div, vv_mod, vv_pow, vv_shl, vv_shr, vv_neg, vv_lt, vv_le, vv_gt, vv_ge, vv_int, vv_intS, vv_intb, vv_abs, vv_gcd, vv_max2, vv_min2, vv_lenL, vv_lenC, vv_lenT, vv_idxL, vv_idxC, vv_idxT, vv_eqI, vv_eqB, vv_neI, vv_list, vv_listT, vv_tuple, vv_tupleT, vv_sum, vv_slL, vv_slS, vv_slT, vv_range, vv_index, vv_count, isL_l, isL_c, lenL_l, lenL_c, kindL, vv_maxL, vv_minL, vv_strI, vv_app, vv_isNN, vv_isIN, vv_isSN, vv_isBN, vv_isLN, vv_isTN, vv_isBB, vv_isNB, vv_isIB, vv_isSB, vv_isLB, vv_isTB, vv_inNN, vv_inIN, vv_inSN, vv_inBN, vv_inLN, vv_inTN, vv_inBB, atF0, atF1, atF2, atF3, atF4, atF5, okI, okB, okS, okN, okL, ix0, ix1, ix2, frzL_int, fzL_int, intsD_map, isiI_int, isiI_str, isiI_bool, isiI_list, isiI_tuple, isiS_int, isiS_str, isiS_bool, isiS_list, isiS_tuple, isiB_int, isiB_str, isiB_bool, isiB_list, isiB_tuple, isiL_int, isiL_str, isiL_bool, isiL_list, isiL_tuple, isiT_int, isiT_str, isiT_bool, isiT_list, isiT_tuple, isiN_int, isiN_str, isiN_bool, isiN_list, isiN_tuple])
local macro_rules | `(tactic| walk_at "mu") => `(tactic| repeat (first | (rw [W_ok (MulOk.right (by omega))]; walk_at "ev") | (rw [W_ok (MulOk.left (by omega))]; walk_at "ev") | (rw [W_ok (divok (by omega) (by omega))]; walk_at "ev") | (rw [W_ok (by omega)]; walk_at "ev")))
namespace Lk18
noncomputable def drT : Ev → Option Out := bCons (bExp (eMut 3 gApp (aCons (hE (eFz (eTup (aCons (hE (eV 2)) (aCons (hE (eV 5)) aNil))))) aNil))) (bCons (bAsg (e2 gAdd (hE (e2 gAdd (hV 5) (hE (eC (.int 1))))) (hE (eCall 2 F_law_pick (aCons (hV 0) (aCons (hE (eFz (eLst (aCons (hE (eC (.int 0))) (aCons (hE (eC (.int 0))) (aCons (hE (eC (.int 1))) (aCons (hE (eC (.int 4))) aNil))))))) aNil))))) (gNm 2)) (bIf (tAn (tB' (e2 gEq (hE (eCall 2 F_law_draw (aCons (hV 0) (aCons (hE (eC (.int 3))) aNil)))) (hE (eC (.int 0))))) (tB' (e2 gNe (hE (eLc [6] (iSq (hV 1)) (gNm 6) (tB' (e2 gGt (hV 6) (hV 5))) (eV 6))) (hE (eLst (aNil)))))) (bAsg (eN gMinL (aCons (hE (eLc [6] (iSq (hV 1)) (gNm 6) (tB' (e2 gGt (hV 6) (hV 5))) (eV 6))) aNil)) (gNm 2)) (bNil)))
theorem d_law_drawn_cut : d_law_drawn = bCons (bAsg (eTup (aCons (hE (e2 gSubt (hE (eCall 2 F_law_draw (aCons (hV 0) (aCons (hE (eC (.int 9))) aNil)))) (hE (eC (.int 4))))) (aCons (hE (eLst (aNil))) aNil))) (gTp 2 (gsCons (gNm 2) (gsCons (gNm 3) gsNil)))) (bCons (bFor (iRg1 (aCons (hE (eCall 2 F_law_draw (aCons (hV 0) (aCons (hE (eC (.int 6))) aNil)))) aNil)) (gNm 4) (bCons (bAsg (e2 gAdd (hV 2) (hE (eCall 2 F_law_pick (aCons (hV 0) (aCons (hE (eFz (eLst (aCons (hE (eC (.int 0))) (aCons (hE (eC (.int 1))) (aCons (hE (eC (.int 2))) (aCons (hE (eC (.int 5))) (aCons (hE (eC (.int 9))) aNil)))))))) aNil))))) (gNm 5)) (bCons (bIf (tAn (tB' (e2 gEq (hE (eCall 2 F_law_draw (aCons (hV 0) (aCons (hE (eC (.int 2))) aNil)))) (hE (eC (.int 0))))) (tB' (e2 gNe (hE (eLc [6] (iSq (hV 1)) (gNm 6) (tB' (e2 gGe (hV 6) (hV 2))) (eV 6))) (hE (eLst (aNil)))))) (bAsg (eN gMinL (aCons (hE (eLc [6] (iSq (hV 1)) (gNm 6) (tB' (e2 gGe (hV 6) (hV 2))) (eV 6))) aNil)) (gNm 5)) (bNil)) drT))) (bRet (eM 3))) := rfl
theorem min_of {l : List Int} (h : l ≠ []) : ∃ m ∈ l, l.min? = some m := by
  cases hm : l.min? with
  | none => exact absurd (List.min?_eq_none_iff.mp hm) h
  | some m => exact ⟨m, List.min?_mem hm, rfl⟩
/-- a list that has begun -/
structure DI (M : Int) (k : Nat) (L : Lot) (at' : Int) : Prop where
  le : ∀ e ∈ L, e.1 ≤ e.2
  srt : L.Pairwise fun e f => e.2 < f.1
  b : ∀ e ∈ L, -4 ≤ e.1 ∧ e.2 ≤ M + 14 * (k : Int)
  lt : ∀ e ∈ L, e.2 < at'
  a : -4 ≤ at' ∧ at' ≤ M + 14 * (k : Int)
  len : L.length = k
theorem di_next {M : Int} {k : Nat} {L : Lot} {at' last nx : Int} (h : DI M k L at') (h1 : at' ≤ last) (h2 : last ≤ M + 14 * (k : Int) + 9) (h3 : last < nx) (h4 : nx ≤ M + 14 * (k : Int) + 14) : DI M (k + 1) (L ++ [(at', last)]) nx := by
  have ha := h.a
  refine ⟨fun e he => ?_, ?_, fun e he => ?_, fun e he => ?_, ⟨by omega, by omega⟩, by rw [List.length_append, h.len]; rfl⟩
  · rcases List.mem_append.mp he with he | he
    · exact h.le e he
    · rw [List.mem_singleton.mp he]; exact h1
  · rw [List.pairwise_append]
    refine ⟨h.srt, List.pairwise_singleton _ _, fun e he f hf => ?_⟩
    rw [List.mem_singleton.mp hf]
    exact h.lt e he
  · rcases List.mem_append.mp he with he | he
    · have := h.b e he; omega
    · rw [List.mem_singleton.mp he]; show -4 ≤ at' ∧ last ≤ _; omega
  · rcases List.mem_append.mp he with he | he
    · have := h.lt e he; omega
    · rw [List.mem_singleton.mp he]; exact h3
theorem comp_ends {E : List Int} {p : Int → Bool} : (E.filter p) ≠ [] → ∃ m, m ∈ E ∧ p m = true ∧ (E.filter p).min? = some m := fun h => by
  obtain ⟨m, hm, e⟩ := min_of h
  obtain ⟨h1, h2⟩ := List.mem_filter.mp hm
  exact ⟨m, h1, h2, e⟩
theorem drT_ok {ds : List Int} {E : List Int} {M n at' last : Int} {k : Nat} {L : Lot} {x4 x6 : D} {Q : Out → Prop} (hn : 0 ≤ n) (hE : ∀ x ∈ E, -4 ≤ x ∧ x ≤ M) (hEl : E.length ≤ 100) (hk : k ≤ 5) (h : DI M k L at') (h1 : at' ≤ last) (h2 : last ≤ M + 14 * (k : Int) + 9)
    (hQ : ∀ n' nx x6, 0 ≤ n' → DI M (k + 1) (L ++ [(at', last)]) nx → Q (.nx [bx ds n', .lst false (E.map D.int), .int nx, .lst true ((L ++ [(at', last)]).map pI), x4, .int last, x6])) :
    W (drT [bx ds n, .lst false (E.map D.int), .int at', .lst true (L.map pI), x4, .int last, x6]) Q := by
  have hLl := h.len
  unfold drT
  walk_at "ev"
  rw [W_ok (by rw [List.length_map]; omega)]
  walk_at "ev"
  obtain ⟨s, hs, e⟩ := pick_ex (ds := ds) (n := n) (o := false) [0, 0, 1, 4] (by omega) (by decide)
  simp only [List.map_cons, List.map_nil] at e
  rw [W_eq e]
  simp only [List.mem_cons, List.not_mem_nil, or_false] at hs
  have hs : 0 ≤ s ∧ s ≤ 4 := by omega
  walk_at "ev"
  obtain ⟨d, e, d1, d2⟩ := draw_ex (ds := ds) (n := n + 1) (m := 3) (by omega) (by omega)
  rw [W_eq e]
  walk_at "ev"
  have fin : ∀ n' nx x6, 0 ≤ n' → last < nx → nx ≤ M + 14 * (k : Int) + 14 → Q (.nx [bx ds n', .lst false (E.map D.int), .int nx, .lst true (L.map pI ++ [.tup [.int at', .int last]]), x4, .int last, x6]) := fun n' nx x6 q1 q2 q3 => by
    have := hQ n' nx x6 q1 (di_next h h1 h2 q2 q3)
    rw [List.map_append] at this
    exact this
  split
  · refine W_compM D.int E (fun x => decide (x > last)) D.int (by omega) (fun k => itK_lst rfl (frzL_int _) k) ?_ ?_
    · intro x hx
      walk_at "ev"
      split <;> trivial
    walk_at "ev"
    rw [gNe_nil (ok_mono (emb_lok emb_int _) (by decide))]
    walk_at "ev"
    by_cases c : E.filter (fun x => decide (x > last)) = []
    · rw [c, if_neg (by decide)]
      exact fin _ _ _ (by omega) (by omega) (by omega)
    · rw [if_pos (by simpa using c)]
      obtain ⟨m, m1, m2, m3⟩ := comp_ends c
      have := hE m m1
      have m2 := of_decide_eq_true m2
      refine W_compM D.int E (fun x => decide (x > last)) D.int (by omega) (fun k => itK_lst rfl (frzL_int _) k) ?_ ?_
      · intro x hx
        walk_at "ev"
        split <;> trivial
      walk_at "ev"
      rw [m3]
      walk_at "ev"
      exact fin _ _ _ (by omega) (by omega) (by omega)
  · exact fin _ _ _ (by omega) (by omega) (by omega)
theorem drawn_ok {ds : List Int} {E : List Int} {M n : Int} (hn : 0 ≤ n) (hM : 4 ≤ M) (hM2 : M ≤ 300) (hE : ∀ x ∈ E, -4 ≤ x ∧ x ≤ M) (hEl : E.length ≤ 100) :
    W (F_law_drawn [bx ds n, .lst false (E.map D.int)]) fun r => ∃ L n', r = (.lst true (L.map pI), [bx ds n', .lst false (E.map D.int)]) ∧ 0 ≤ n' ∧ LotOk L ∧ ∀ e ∈ L, -4 ≤ e.1 ∧ e.2 ≤ M + 70 := by
  unfold F_law_drawn
  rw [W_fnD rfl, d_law_drawn_cut]
  walk_at "ev"
  obtain ⟨a, e, a1, a2⟩ := draw_ex (ds := ds) (n := n) (m := 9) (by omega) (by omega)
  rw [W_eq e]
  walk_at "ev"
  obtain ⟨t, e, t1, t2⟩ := draw_ex (ds := ds) (n := n + 1) (m := 6) (by omega) (by omega)
  rw [W_eq e]
  walk_at "ev"
  rw [W_ok (by omega)]
  refine W_range (lo := 0) (fun k ρ => ∃ L : Lot, ∃ at' n' x4 x5 x6, ρ = [bx ds n', .lst false (E.map D.int), .int at', .lst true (L.map pI), x4, x5, x6] ∧ 0 ≤ n' ∧ DI M k L at') ⟨[], _, _, _, _, _, rfl, by omega, ⟨fun _ z => absurd z List.not_mem_nil, List.Pairwise.nil, fun _ z => absurd z List.not_mem_nil, fun _ z => absurd z List.not_mem_nil, ⟨by omega, by omega⟩, rfl⟩⟩ ?_ ?_
  · rintro k ρ hk ⟨L, at', n', x4, x5, x6, rfl, hn', hI⟩
    have hk5 : k < 5 := by omega
    have hIa := hI.a
    walk_at "ev"
    obtain ⟨s, hs, e⟩ := pick_ex (ds := ds) (n := n') (o := false) [0, 1, 2, 5, 9] (by omega) (by decide)
    simp only [List.map_cons, List.map_nil] at e
    rw [W_eq e]
    simp only [List.mem_cons, List.not_mem_nil, or_false] at hs
    have hs : 0 ≤ s ∧ s ≤ 9 := by omega
    walk_at "ev"
    obtain ⟨d, e, d1, d2⟩ := draw_ex (ds := ds) (n := n' + 1) (m := 2) (by omega) (by omega)
    rw [W_eq e]
    walk_at "ev"
    have fin : ∀ n' last x4 x6, 0 ≤ n' → at' ≤ last → last ≤ M + 14 * (k : Int) + 9 → W (drT [bx ds n', .lst false (E.map D.int), .int at', .lst true (L.map pI), x4, .int last, x6]) fun o => match o with
        | .nx ρ => ∃ L : Lot, ∃ at' n' x4 x5 x6, ρ = [bx ds n', .lst false (E.map D.int), .int at', .lst true (L.map pI), x4, x5, x6] ∧ 0 ≤ n' ∧ DI M (k + 1) L at'
        | _ => False := fun n' last x4 x6 q1 q2 q3 => drT_ok q1 hE hEl (by omega) hI q2 q3 fun n'' nx x6 z1 z2 => ⟨_, _, _, _, _, _, rfl, z1, z2⟩
    split
    · refine W_compM D.int E (fun x => decide (x ≥ at')) D.int (by omega) (fun k => itK_lst rfl (frzL_int _) k) ?_ ?_
      · intro x hx
        walk_at "ev"
        split <;> trivial
      walk_at "ev"
      rw [gNe_nil (ok_mono (emb_lok emb_int _) (by decide))]
      walk_at "ev"
      by_cases c : E.filter (fun x => decide (x ≥ at')) = []
      · rw [c, if_neg (by decide)]
        refine W_mono (fin _ _ _ _ (by omega) (by omega) (by omega)) fun o ho => ?_
        cases o
        · exact ho
        all_goals exact ho.elim
      · rw [if_pos (by simpa using c)]
        obtain ⟨m, m1, m2, m3⟩ := comp_ends c
        have := hE m m1
        have m2 := of_decide_eq_true m2
        refine W_compM D.int E (fun x => decide (x ≥ at')) D.int (by omega) (fun k => itK_lst rfl (frzL_int _) k) ?_ ?_
        · intro x hx
          walk_at "ev"
          split <;> trivial
        walk_at "ev"
        rw [m3]
        walk_at "ev"
        refine W_mono (fin _ _ _ _ (by omega) (by omega) (by omega)) fun o ho => ?_
        cases o
        · exact ho
        all_goals exact ho.elim
    · refine W_mono (fin _ _ _ _ (by omega) (by omega) (by omega)) fun o ho => ?_
      cases o
      · exact ho
      all_goals exact ho.elim
  · rintro ρ ⟨L, at', n', x4, x5, x6, rfl, hn', hI⟩
    have hLl := hI.len
    walk_at "ev"
    have hk5 : ((t.toNat : Nat) : Int) ≤ 5 := by omega
    refine ⟨L, n', rfl, hn', ⟨hI.le, hI.srt, fun e he => ?_, by omega⟩, fun e he => ?_⟩
    · have := hI.b e he; omega
    · have := hI.b e he; omega
end Lk18
end
section
set_option Elab.async false
set_option linter.all false
set_option maxRecDepth 100000
set_option maxHeartbeats 4000000
set_option exponentiation.threshold 5000
open PySem Mv Mv.PreA
local macro_rules | `(tactic| walk_at "ev") => `(tactic| try simp only [↓W_bCons, ↓W_bNil, ↓W_bBrk, ↓W_bCnt, ↓W_bExp, ↓W_bRet, ↓W_bRetN, ↓W_bIf, ↓W_bAsg, ↓W_bPar, ↓W_bAug, ↓W_eC, ↓W_eV, ↓W_eM, ↓W_hV, ↓W_hE, ↓W_eFz, ↓W_e1, ↓W_e2, ↓W_aNil, ↓W_aCons, ↓W_eN, ↓W_eTup, ↓W_eLst, ↓W_eCall, ↓W_eMut, ↓W_eMt, ↓W_eIf, ↓W_eAn, ↓W_eOr, ↓W_eNo, ↓W_eJ0, ↓W_eJ1, ↓W_tT, ↓W_tB, ↓W_tNo, ↓W_tAn, ↓W_tOr, ↓W_tAll, ↓W_gNm, ↓W_gsNil, ↓W_gsCons, ↓W_gTp, ↓W_gTpL, ↓W_gIx, ↓W_bFor, ↓W_bWhile, ↓W_iRg1, ↓W_iRg2, ↓W_iSq, ↓W_eLc, ↓W_eSl, ↓W_pN, ↓W_pS, ↓W_iEn, ↓W_iZp, ↓W_iRv, ↓W_iRg3, ↓W_iRgV, ↓W_eCh, ↓W_chIf, ↓W_bind, ↓W_map, ↓W_some, ↓W_none,
  Hd.get, List.getElem?_cons_zero, List.getElem?_cons_succ, List.getD_cons_zero, List.getD_cons_succ, List.set_cons_zero, List.set_cons_succ, List.length_cons, List.length_nil, List.map_cons, List.map_nil, List.replicate, List.cons_append, List.nil_append, Nat.reduceAdd, Nat.reduceSub, Nat.reduceLeDiff, Nat.zero_add,
  D.frz, D.frzL, D.fz, D.fzL, tru_b, tru_i, tru_n, tru_l, tru_t, tru_c, tms, wipeD, unw, lend, unlend, keepL, Option.map_some, Option.bind_some, Bool.and_true, Bool.true_and, Bool.not_true, Bool.not_false, ↓reduceIte, if_true, if_false, Bool.false_eq_true, true_and, and_true, ite_b, ite_nb, vv_fmtI, vv_fmtS, vv_reprI, vv_reprS, vv_addS, vv_augI, vv_augS, vv_lenS, vv_eqS, vv_neS, vv_addL, vv_addT,
  vv_add, vv_sub, vv_mul, vv_div, vv_mod, vv_pow, vv_shl, vv_shr, vv_neg, vv_lt, vv_le, vv_gt, vv_ge, vv_int, vv_intS, vv_intb, vv_abs, vv_gcd, vv_max2, vv_min2, vv_lenL, vv_lenC, vv_lenT, vv_idxL, vv_idxC, vv_idxT, vv_eqI, vv_eqB, vv_neI, vv_list, vv_listT, vv_tuple, vv_tupleT, vv_sum, vv_slL, vv_slS, vv_slT, vv_range, vv_index, vv_count, isL_l, isL_c, lenL_l, lenL_c, kindL, vv_maxL, vv_minL, vv_strI, vv_app, vv_isNN, vv_isIN, vv_isSN, vv_isBN, vv_isLN, vv_isTN, vv_isBB, vv_isNB, vv_isIB, vv_isSB, vv_isLB, vv_isTB, vv_inNN, vv_inIN, vv_inSN, vv_inBN, vv_inLN, vv_inTN, vv_inBB, atF0, atF1, atF2, atF3, atF4, atF5, okI, okB, okS, okN, okL, ix0, ix1, ix2, frzL_int, fzL_int, intsD_map, isiI_int, isiI_str, isiI_bool, isiI_list, isiI_tuple, isiS_int, isiS_str, isiS_bool, isiS_list, isiS_tuple, isiB_int, isiB_str, isiB_bool, isiB_list, isiB_tuple, isiL_int, isiL_str, isiL_bool, isiL_list, isiL_tuple, isiT_int, isiT_str, isiT_bool, isiT_list, isiT_tuple, isiN_int, isiN_str, isiN_bool, isiN_list, isiN_tuple])
local macro_rules | `(tactic| walk_at "mu") => `(tactic| repeat (first | (rw [W_ok (MulOk.right (by omega))]; walk_at "ev") | (rw [W_ok (MulOk.left (by omega))]; walk_at "ev") | (rw [W_ok (divok (by omega) (by omega))]; walk_at "ev") | (rw [W_ok (by omega)]; walk_at "ev")))
namespace Lk18
noncomputable def lfB : Ev → Option Out := bCons (bAsg (eCall 1 F_law_told (aCons (hV 6) aNil)) (gNm 7)) (bCons (bIf (tNo (tT (hE (eCall 2 F_law_same (aCons (hE (eFz (eCall 1 F_length_of (aCons (hV 7) aNil)))) (aCons (hE (eFz (eCall 2 F_law_low (aCons (hE (eN gSum (aCons (hE (eLc [3] (iSq (hV 6)) (gNm 3) (tAll) (e2 gSubt (hE (e2 gIdx (hV 3) (hE (eC (.int 1))))) (hE (e2 gIdx (hV 3) (hE (eC (.int 0)))))))) aNil))) (aCons (hE (eC (.int 4))) aNil))))) aNil)))))) (bRet (eC (.bl false))) (bNil)) (bIf (tOr' (tAn (tB' (e2 gNe (hV 6) (hE (eLst (aNil))))) (tNo (tT (hE (eCall 2 F_law_same (aCons (hE (eFz (eCall 1 F_middle_year (aCons (hV 7) aNil)))) (aCons (hE (eFz (eCall 1 F_law_middle (aCons (hV 6) aNil)))) aNil))))))) (tB' (e2 gNe (hV 7) (hE (eCall 1 F_law_told (aCons (hV 6) aNil)))))) (bRet (eC (.bl false))) (bNil)))
theorem d_law_lists_fit_cut : d_law_lists_fit = bCons (bAsg (eCall 2 F_law_drawn (aCons (hV 0) (aCons (hE (eFz (eLst (aNil)))) aNil))) (gNm 1)) (bCons (bAsg (eCall 2 F_law_drawn (aCons (hV 0) (aCons (hE (eFz (e2 gAdd (hE (eLc [3] (iSq (hV 1)) (gNm 3) (tAll) (e2 gIdx (hV 3) (hE (eC (.int 0)))))) (hE (eLc [3] (iSq (hV 1)) (gNm 3) (tAll) (e2 gIdx (hV 3) (hE (eC (.int 1))))))))) aNil))) (gNm 2)) (bCons (bPar 4 5 (aCons (hE (eCall 1 F_law_told (aCons (hV 1) aNil))) (aCons (hE (eCall 1 F_law_told (aCons (hV 2) aNil))) aNil))) (bCons (bIf (tNo (tT (hE (eCall 3 F_law_twice (aCons (hE (eCall 2 F_both (aCons (hV 4) (aCons (hV 5) aNil)))) (aCons (hE (eFz (eCall 2 F_both (aCons (hV 5) (aCons (hV 4) aNil))))) (aCons (hE (eFz (eCall 2 F_law_both (aCons (hV 1) (aCons (hV 2) aNil))))) aNil))))))) (bRet (eC (.bl false))) (bNil)) (bCons (bIf (tOr' (tB' (e2 gNe (hV 4) (hE (eCall 1 F_law_told (aCons (hV 1) aNil))))) (tB' (e2 gNe (hV 5) (hE (eCall 1 F_law_told (aCons (hV 2) aNil)))))) (bRet (eC (.bl false))) (bNil)) (bCons (bFor (iSq (hE (eLst (aCons (hE (eV 1)) (aCons (hE (eV 2)) aNil))))) (gNm 6) lfB) (bRet (eC (.bl true)))))))) := rfl
theorem emb_pR : Emb pR := emb_tup2 (fun x => ok_tup fun d hd => by
    simp only [List.mem_cons, List.not_mem_nil, or_false] at hd
    rcases hd with rfl | rfl <;> exact ok_int) (fun x => ok_tup fun d hd => by
    simp only [List.mem_cons, List.not_mem_nil, or_false] at hd
    rcases hd with rfl | rfl <;> exact ok_int) emb_rt.eq emb_rt.eq
theorem sm_pR {n : Nat} {e : Rat × Rat} (h : Sz 21 e.1 ∧ Sz 21 e.2) : Sm (n + 3) (pR e) (pR e) := sm_t2 (sm_rt h.1 (by decide)) (sm_rt h.2 (by decide)) ⟨rfl, rfl⟩ ⟨rfl, rfl⟩
theorem sm_St {o o' : Bool} {F : St} (hl : F.length ≤ 3000) (h : ∀ e ∈ F, Sz 21 e.1 ∧ Sz 21 e.2) : Sm 8 (.lst o (F.map pR)) (.lst o' (F.map pR)) := sm_lst F pR (by omega) fun e he => ⟨sm_pR (h e he), rfl⟩
theorem q_sz {L : Lot} (h : LotOk L) : ∀ e ∈ qR L, Sz 21 e.1 ∧ Sz 21 e.2 := by
  intro e he
  obtain ⟨x, hx, rfl⟩ := List.mem_map.mp he
  have := h.b x hx
  have := h.le x hx
  exact ⟨q4_sz (by omega), q4_sz (by omega)⟩
theorem e8_big {m : Int} (h : -2000 ≤ m ∧ m ≤ 2000) : Sz 21 (e8 m) := e8_sz' (by omega)
theorem fzL_pI : ∀ l : Cu, D.fzL (l.map pI) = l.map pI
  | [] => rfl
  | r :: l => by show pI r :: D.fzL (l.map pI) = _; rw [fzL_pI l]; rfl
theorem lfB_ok {L : Lot} {x0 x1 x2 x3 x4 x5 x7 : D} {Q : Out → Prop} (h : LotOk L) (hQ : ∀ x3 x7, Q (.nx [x0, x1, x2, x3, x4, x5, .lst false (L.map pI), x7])) :
    W (lfB [x0, x1, x2, x3, x4, x5, .lst false (L.map pI), x7]) Q := by
  have hl := h.len
  have tb := tot_bd h.le h.b
  unfold lfB
  walk_at "ev"
  rw [W_eq (told_ok (L := L) (o := false) (by omega))]
  walk_at "ev"
  rw [W_eq (length_ok h)]
  walk_at "ev"
  refine W_compM pI L (fun _ => true) (fun e => .int (e.2 - e.1)) (by omega) (fun k => itK_lst rfl (frz_pI L) k) ?_ ?_
  · rintro e he
    walk_at "ev"
  rw [List.filter_eq_self.mpr (fun _ _ => rfl), show L.map (fun e : Int × Int => D.int (e.2 - e.1)) = (L.map fun e : Int × Int => e.2 - e.1).map D.int by rw [List.map_map]; rfl]
  walk_at "ev"
  rw [show (L.map fun e : Int × Int => e.2 - e.1).sum = tot L from rfl]
  rw [W_eq q4]
  walk_at "ev"
  rw [W_eq (same_ex _ _ (sm_rt (n := 6) (q4_sz (n := tot L) (by omega)) (by decide)))]
  walk_at "ev"
  rw [gNe_nil (ok_mono (emb_lok emb_int2 _) (by decide))]
  walk_at "ev"
  by_cases hL : L = []
  · subst hL
    rw [if_neg (by decide)]
    rw [W_eq (told_ok (L := []) (o := false) (by decide))]
    walk_at "ev"
    rw [gNe_emb emb_pR]
    walk_at "ev"
    exact hQ _ _
  · rw [if_pos (by simpa using hL)]
    have hne : 0 < L.length := List.length_pos_iff.mpr hL
    obtain ⟨m, hm, m1, m2, m3, m4⟩ := mid_law h hne
    obtain ⟨_, _, r3, r4, r5⟩ := lot_ends h (List.getElem_mem hne)
    rw [W_eq (middle_ok h hne hm)]
    walk_at "ev"
    rw [W_eq (law_middle_ok h hne m1 m2 m3 m4)]
    walk_at "ev"
    rw [W_eq (same_ex _ _ (sm_rt (n := 6) (e8_big (m := m) (by omega)) (by decide)))]
    walk_at "ev"
    rw [W_eq (told_ok (L := L) (o := false) (by omega))]
    walk_at "ev"
    rw [gNe_emb emb_pR]
    walk_at "ev"
    exact hQ _ _
theorem lists_ok {ds : List Int} {n : Int} (hn : 0 ≤ n) : W (F_law_lists_fit [bx ds n]) fun r => ∃ n', r = (.bl true, [bx ds n']) ∧ 0 ≤ n' := by
  unfold F_law_lists_fit
  rw [W_fnD rfl, d_law_lists_fit_cut]
  walk_at "ev"
  refine W_mono (drawn_ok (ds := ds) (E := []) (M := 4) hn (by omega) (by omega) (fun _ z => absurd z List.not_mem_nil) (by decide)) ?_
  rintro r ⟨A, n1, rfl, hn1, hA, bA⟩
  have la := hA.len
  walk_at "ev"
  refine W_compM pI A (fun _ => true) (fun e => .int e.1) (by omega) (fun k => itK_lst rfl (frz_pI A) k) ?_ ?_
  · rintro e he
    walk_at "ev"
  rw [List.filter_eq_self.mpr (fun _ _ => rfl), show A.map (fun e : Int × Int => D.int e.1) = (A.map fun e : Int × Int => e.1).map D.int by rw [List.map_map]; rfl]
  walk_at "ev"
  refine W_compM pI A (fun _ => true) (fun e => .int e.2) (by omega) (fun k => itK_lst rfl (frz_pI A) k) ?_ ?_
  · rintro e he
    walk_at "ev"
  rw [List.filter_eq_self.mpr (fun _ _ => rfl), show A.map (fun e : Int × Int => D.int e.2) = (A.map fun e : Int × Int => e.2).map D.int by rw [List.map_map]; rfl]
  walk_at "ev"
  rw [W_ok (by simp only [List.length_map]; omega)]
  walk_at "ev"
  rw [← List.map_append, fzL_int]
  refine W_mono (drawn_ok (ds := ds) (E := (A.map fun e : Int × Int => e.1) ++ A.map fun e : Int × Int => e.2) (M := 80) hn1 (by omega) (by omega) (fun x hx => ?_) (by rw [List.length_append, List.length_map, List.length_map]; omega)) ?_
  · rcases List.mem_append.mp hx with hx | hx
    · obtain ⟨e, he, rfl⟩ := List.mem_map.mp hx
      have := bA e he; have := hA.le e he; omega
    · obtain ⟨e, he, rfl⟩ := List.mem_map.mp hx
      have := bA e he; have := hA.le e he; omega
  rintro r ⟨B, n2, rfl, hn2, hB, bB⟩
  have lb := hB.len
  walk_at "ev"
  rw [W_eq (told_ok (L := A) (o := true) (by omega))]
  walk_at "ev"
  rw [W_eq (told_ok (L := B) (o := true) (by omega))]
  walk_at "ev"
  have lqA : (qR A).length = A.length := List.length_map _
  have lqB : (qR B).length = B.length := List.length_map _
  have hAB : ((qR A).length + 1) * ((qR B).length + 1) ≤ 100000 := by
    rw [lqA, lqB]
    have := Nat.mul_le_mul (show A.length + 1 ≤ 6 by omega) (show B.length + 1 ≤ 6 by omega)
    omega
  refine W_mono (both_ok (o := true) (can_q hA) (can_q hB) (q_sz hA) (q_sz hB) (by decide) hAB) ?_
  rintro r ⟨F1, rfl, ⟨c1, i1⟩, _, _⟩
  walk_at "ev"
  refine W_mono (both_ok (o := true) (can_q hB) (can_q hA) (q_sz hB) (q_sz hA) (by decide) (by rw [Nat.mul_comm]; exact hAB)) ?_
  rintro r ⟨F2, rfl, ⟨c2', i2⟩, _, l2⟩
  have l2' : F2.length ≤ 30 := by
    rw [lqA, lqB] at l2
    have := Nat.mul_le_mul lb (show A.length + 1 ≤ 6 by omega)
    omega
  walk_at "ev"
  rw [fzL_pR]
  refine W_mono (law_both_ok hA hB) ?_
  rintro r ⟨F3, rfl, ⟨c3, i3⟩, l3, s3⟩
  obtain rfl : F1 = F3 := uniq c1 c3 fun u => by rw [i1, i3]
  obtain rfl : F2 = F1 := uniq c2' c1 fun u => by rw [i2, i1]; exact ⟨fun z => ⟨z.2, z.1⟩, fun z => ⟨z.2, z.1⟩⟩
  walk_at "ev"
  rw [fzL_pR]
  refine W_mono (twice_ok (by omega) (sm_St (by omega) s3) (sm_St (by omega) s3) ⟨_, rfl⟩) ?_
  rintro ⟨d, ps⟩ ⟨e1, x, y, e2⟩
  obtain rfl : d = _ := e1
  obtain rfl : ps = _ := e2
  walk_at "ev"
  rw [W_eq (told_ok (L := A) (o := true) (by omega))]
  walk_at "ev"
  rw [gNe_emb emb_pR]
  walk_at "ev"
  rw [W_eq (told_ok (L := B) (o := true) (by omega))]
  walk_at "ev"
  rw [gNe_emb emb_pR]
  walk_at "ev"
  rw [fzL_pI, fzL_pI, show [D.lst false (A.map pI), D.lst false (B.map pI)] = [A, B].map fun M : Lot => D.lst false (M.map pI) from rfl]
  generalize hMs : [A, B] = Ms
  have hMo : ∀ M ∈ Ms, LotOk M := by
    rw [← hMs]
    intro M hM
    simp only [List.mem_cons, List.not_mem_nil, or_false] at hM
    rcases hM with rfl | rfl
    · exact hA
    · exact hB
  refine W_list (ds := Ms.map fun M : Lot => D.lst false (M.map pI)) (fun k ρ => ∃ x3 x6 x7, ρ = [bx ds n2, .lst false (A.map pI), .lst false (B.map pI), x3, .lst true ((qR A).map pR), .lst true ((qR B).map pR), x6, x7]) ⟨_, _, _, rfl⟩ ?_ ?_ ?_
  · rintro k ρ ⟨x3, x6, x7, rfl⟩
    exact itK_tm (frzL_of fun d hd => by obtain ⟨x, _, rfl⟩ := List.mem_map.mp hd; simp [D.frz, frz_pI]) k
  · rintro k d ρ hd ⟨x3, x6, x7, rfl⟩
    rw [List.getElem?_map] at hd
    obtain ⟨M, hM, rfl⟩ := Option.map_eq_some_iff.mp hd
    have hMk := hMo M (List.mem_of_getElem? hM)
    walk_at "ev"
    refine lfB_ok hMk fun x3 x7 => ?_
    exact ⟨_, _, _, rfl⟩
  · rintro ρ ⟨x3, x6, x7, rfl⟩
    walk_at "ev"
    exact ⟨_, rfl, hn2⟩
end Lk18
end
section
set_option Elab.async false
set_option linter.all false
set_option maxRecDepth 100000
set_option maxHeartbeats 4000000
set_option exponentiation.threshold 5000
open PySem Mv Mv.PreA
local macro_rules | `(tactic| walk_at "ev") => `(tactic| try simp only [↓W_bCons, ↓W_bNil, ↓W_bBrk, ↓W_bCnt, ↓W_bExp, ↓W_bRet, ↓W_bRetN, ↓W_bIf, ↓W_bAsg, ↓W_bPar, ↓W_bAug, ↓W_eC, ↓W_eV, ↓W_eM, ↓W_hV, ↓W_hE, ↓W_eFz, ↓W_e1, ↓W_e2, ↓W_aNil, ↓W_aCons, ↓W_eN, ↓W_eTup, ↓W_eLst, ↓W_eCall, ↓W_eMut, ↓W_eMt, ↓W_eIf, ↓W_eAn, ↓W_eOr, ↓W_eNo, ↓W_eJ0, ↓W_eJ1, ↓W_tT, ↓W_tB, ↓W_tNo, ↓W_tAn, ↓W_tOr, ↓W_tAll, ↓W_gNm, ↓W_gsNil, ↓W_gsCons, ↓W_gTp, ↓W_gTpL, ↓W_gIx, ↓W_bFor, ↓W_bWhile, ↓W_iRg1, ↓W_iRg2, ↓W_iSq, ↓W_eLc, ↓W_eSl, ↓W_pN, ↓W_pS, ↓W_iEn, ↓W_iZp, ↓W_iRv, ↓W_iRg3, ↓W_iRgV, ↓W_eCh, ↓W_chIf, ↓W_bind, ↓W_map, ↓W_some, ↓W_none,
  Hd.get, List.getElem?_cons_zero, List.getElem?_cons_succ, List.getD_cons_zero, List.getD_cons_succ, List.set_cons_zero, List.set_cons_succ, List.length_cons, List.length_nil, List.map_cons, List.map_nil, List.replicate, List.cons_append, List.nil_append, Nat.reduceAdd, Nat.reduceSub, Nat.reduceLeDiff, Nat.zero_add,
  D.frz, D.frzL, D.fz, D.fzL, tru_b, tru_i, tru_n, tru_l, tru_t, tru_c, tms, wipeD, unw, lend, unlend, keepL, Option.map_some, Option.bind_some, Bool.and_true, Bool.true_and, Bool.not_true, Bool.not_false, ↓reduceIte, if_true, if_false, Bool.false_eq_true, true_and, and_true, ite_b, ite_nb, vv_fmtI, vv_fmtS, vv_reprI, vv_reprS, vv_addS, vv_augI, vv_augS, vv_lenS, vv_eqS, vv_neS, vv_addL, vv_addT,
  vv_add, vv_sub, vv_mul, vv_div, vv_mod, vv_pow, vv_shl, vv_shr, vv_neg, vv_lt, vv_le, vv_gt, vv_ge, vv_int, vv_intS, vv_intb, vv_abs, vv_gcd, vv_max2, vv_min2, vv_lenL, vv_lenC, vv_lenT, vv_idxL, vv_idxC, vv_idxT, vv_eqI, vv_eqB, vv_neI, vv_list, vv_listT, vv_tuple, vv_tupleT, vv_sum, vv_slL, vv_slS, vv_slT, vv_range, vv_index, vv_count, isL_l, isL_c, lenL_l, lenL_c, kindL, vv_maxL, vv_minL, vv_strI, vv_app, vv_isNN, vv_isIN, vv_isSN, vv_isBN, vv_isLN, vv_isTN, vv_isBB, vv_isNB, vv_isIB, vv_isSB, vv_isLB, vv_isTB, vv_inNN, vv_inIN, vv_inSN, vv_inBN, vv_inLN, vv_inTN, vv_inBB, atF0, atF1, atF2, atF3, atF4, atF5, okI, okB, okS, okN, okL, ix0, ix1, ix2, frzL_int, fzL_int, intsD_map, isiI_int, isiI_str, isiI_bool, isiI_list, isiI_tuple, isiS_int, isiS_str, isiS_bool, isiS_list, isiS_tuple, isiB_int, isiB_str, isiB_bool, isiB_list, isiB_tuple, isiL_int, isiL_str, isiL_bool, isiL_list, isiL_tuple, isiT_int, isiT_str, isiT_bool, isiT_list, isiT_tuple, isiN_int, isiN_str, isiN_bool, isiN_list, isiN_tuple])
local macro_rules | `(tactic| walk_at "mu") => `(tactic| repeat (first | (rw [W_ok (MulOk.right (by omega))]; walk_at "ev") | (rw [W_ok (MulOk.left (by omega))]; walk_at "ev") | (rw [W_ok (divok (by omega) (by omega))]; walk_at "ev") | (rw [W_ok (by omega)]; walk_at "ev")))
namespace Lk18
theorem bnd_one {l : Cu} {lo hi : Rat} (h1 : Lev lo) (h2 : Lev hi) : Bnd l [(lo, hi)] lo hi := by
  refine ⟨fun e he => ?_, (by show 1 ≤ 10; omega), fun k t _ => ?_, fun k t _ h => ?_⟩
  · rw [List.mem_singleton.mp he]; exact ⟨h1, h2⟩
  · constructor
    · intro q; exact q (lo, hi) (List.mem_singleton.mpr rfl)
    · intro q e he; rw [List.mem_singleton.mp he]; exact q
  · show _ ∈ [lo, hi]
    rcases h with h | h <;> rw [h] <;> simp

theorem stretch_same {l : Cu} {lo hi : Rat} {F F' : St} (h : Sofar l lo hi (l.length - 1) F) (k1 : Can F') (k2 : ∀ u, inL F' u ↔ InS l lo hi u) : F = F' := uniq h.can k1 fun u => by rw [h.eq, k2]; rfl
theorem sofar_sz {l : Cu} (h : Low l) {lo hi : Rat} {F : St} (h1 : Lev lo) (h2 : Lev hi) (hF : Sofar l lo hi (l.length - 1) F) : F.length ≤ 6 ∧ ∀ e ∈ F, Sz 21 e.1 ∧ Sz 21 e.2 := by
  obtain ⟨r, _, F', _, c1, c2, _, c4⟩ := stretches_ok h (bnd_one (l := l) h1 h2)
  obtain rfl := stretch_same hF c1 c2
  have := hF.len
  have := h.c.n2
  exact ⟨by omega, c4⟩
theorem lev_int {n : Int} (h : n.natAbs ≤ 256) : Lev (n : Rat) := ⟨by rw [Rat.num_intCast]; exact h, by rw [Rat.den_intCast]; decide⟩
/-- samples -/
def SOk (S : List (Int × Int)) : Prop := ∀ e ∈ S, 0 ≤ e.1 ∧ e.1 ≤ 60 ∧ 0 ≤ e.2 ∧ e.2 ≤ 5
def AllS (l : Cu) (S : List (Int × Int)) (u : Rat) : Prop := ((xI l 0 : Rat) ≤ u ∧ u ≤ (xI l (l.length - 1) : Rat)) ∧ ∀ e ∈ S, InS l ((e.1 - e.2 : Int) : Rat) ((e.1 + e.2 : Int) : Rat) u
theorem dated_ok {l : Cu} {S : List (Int × Int)} (h : Low l) (hS : SOk S) (hSl : S.length ≤ 3) : W (F_dated [.lst true (l.map pI), .lst true (S.map pI)]) fun r => ∃ F, r = (.lst true (F.map pR), [.lst true (l.map pI), .lst true (S.map pI)]) ∧ (Can F ∧ ∀ u, inL F u ↔ AllS l S u) ∧ F.length ≤ 1000 ∧ ∀ e ∈ F, Sz 21 e.1 ∧ Sz 21 e.2 := by
  have hn1 := h.c.n1
  have hn2 := h.c.n2
  have b0 := h.c.xb 0 (by omega)
  have b1 := h.c.xb (l.length - 1) (by omega)
  have x01 := x_le h.c (Nat.zero_le (l.length - 1)) (by omega)
  unfold F_dated
  rw [W_fnD rfl]
  unfold d_dated
  walk_at "ev"
  rw [show atF (l.map pI) 0 = some (pI (xI l 0, vI l 0)) from curve_at (k := 0) (by omega)]
  walk_at "ev"
  rw [W_eq (whole_ok (n := xI l 0))]
  walk_at "ev"
  rw [show atF (l.map pI) (-1) = some (pI (xI l (l.length - 1), vI l (l.length - 1))) from curve_neg (j := 1) (Nat.le_refl _) (by omega)]
  walk_at "ev"
  rw [W_eq (whole_ok (n := xI l (l.length - 1)))]
  walk_at "ev"
  refine W_list (ds := S.map pI) (fun k ρ => ∃ F x3 x4, ρ = [.lst true (l.map pI), .lst true (S.map pI), .lst true (F.map pR), x3, x4] ∧ (Can F ∧ ∀ u, inL F u ↔ AllS l (S.take k) u) ∧ F.length ≤ 7 ^ k ∧ ∀ e ∈ F, Sz 21 e.1 ∧ Sz 21 e.2) ⟨[((xI l 0 : Rat), (xI l (l.length - 1) : Rat))], _, _, rfl, ⟨can_snoc (L := []) can_nil x01 fun _ z => absurd z List.not_mem_nil, fun u => ?_⟩, Nat.le_refl _, fun e he => ?_⟩ ?_ ?_ ?_
  · rw [show [((xI l 0 : Rat), (xI l (l.length - 1) : Rat))] = [] ++ [((xI l 0 : Rat), (xI l (l.length - 1) : Rat))] from rfl, inL_snoc]
    unfold AllS
    rw [List.take_zero]
    exact ⟨fun z => z.elim (fun y => absurd y inL_nil) fun y => ⟨y, fun _ w => absurd w List.not_mem_nil⟩, fun z => .inr z.1⟩
  · rw [List.mem_singleton.mp he]
    exact ⟨sz_int (by omega) (by decide), sz_int (by omega) (by decide)⟩
  · rintro k ρ ⟨F, x3, x4, rfl, _⟩
    exact itK_lst rfl (frz_pI S) k
  · rintro k d ρ hd ⟨F, x3, x4, rfl, ⟨c1, i1⟩, l1, s1⟩
    rw [List.getElem?_map] at hd
    obtain ⟨e, he, rfl⟩ := Option.map_eq_some_iff.mp hd
    have hk := (List.getElem?_eq_some_iff.mp he).1
    obtain ⟨e1, e2, e3, e4⟩ := hS e (List.mem_of_getElem? he)
    have htk : S.take (k + 1) = S.take k ++ [e] := by rw [List.take_add_one, he]; rfl
    walk_at "ev"
    rw [W_eq (whole_ok (n := e.1 - e.2))]
    walk_at "ev"
    rw [W_eq (whole_ok (n := e.1 + e.2))]
    walk_at "ev"
    have v1 : Lev ((e.1 - e.2 : Int) : Rat) := lev_int (by omega)
    have v2 : Lev ((e.1 + e.2 : Int) : Rat) := lev_int (by omega)
    refine W_mono (between_ok h.c (lev_sz v1 (m := 9) (by decide)) (lev_sz v2 (m := 9) (by decide)) (by decide) (Rat.intCast_le_intCast.mpr (by omega))) ?_
    rintro r ⟨F2, rfl, sf⟩
    obtain ⟨l2, s2⟩ := sofar_sz h v1 v2 sf
    walk_at "ev"
    rw [fzL_pR]
    have p7 : 7 ^ k ≤ 7 ^ 2 := Nat.pow_le_pow_right (by decide) (by omega)
    have hb : (F.length + 1) * (F2.length + 1) ≤ 100000 := by
      have := Nat.mul_le_mul (show F.length + 1 ≤ 50 by omega) (show F2.length + 1 ≤ 7 by omega)
      omega
    refine W_mono (both_ok (o := false) c1 sf.can s1 s2 (by decide) hb) ?_
    rintro r ⟨F3, rfl, ⟨c3, i3⟩, s3, l3⟩
    walk_at "ev"
    refine ⟨F3, _, _, rfl, ⟨c3, fun u => ?_⟩, ?_, s3⟩
    · rw [i3, i1, htk, sf.eq]
      unfold AllS
      constructor
      · rintro ⟨⟨a, b⟩, c⟩
        refine ⟨a, fun f hf => ?_⟩
        rcases List.mem_append.mp hf with hf | hf
        · exact b f hf
        · rw [List.mem_singleton.mp hf]; exact c
      · rintro ⟨a, b⟩
        exact ⟨⟨a, fun f hf => b f (List.mem_append_left _ hf)⟩, b e (List.mem_append_right _ (List.mem_singleton.mpr rfl))⟩
    · have := Nat.mul_le_mul l1 (show F2.length + 1 ≤ 7 by omega)
      rw [Nat.pow_succ]
      omega
  · rintro ρ ⟨F, x3, x4, rfl, ⟨c1, i1⟩, l1, s1⟩
    rw [List.length_map] at i1 l1
    rw [List.take_length] at i1
    walk_at "ev"
    have p7 : 7 ^ S.length ≤ 7 ^ 3 := Nat.pow_le_pow_right (by decide) hSl
    exact ⟨F, rfl, ⟨c1, i1⟩, by omega, s1⟩
end Lk18
end
section
set_option Elab.async false
set_option linter.all false
set_option maxRecDepth 100000
set_option maxHeartbeats 4000000
set_option exponentiation.threshold 5000
open PySem Mv Mv.PreA
local macro_rules | `(tactic| walk_at "ev") => `(tactic| try simp only [↓W_bCons, ↓W_bNil, ↓W_bBrk, ↓W_bCnt, ↓W_bExp, ↓W_bRet, ↓W_bRetN, ↓W_bIf, ↓W_bAsg, ↓W_bPar, ↓W_bAug, ↓W_eC, ↓W_eV, ↓W_eM, ↓W_hV, ↓W_hE, ↓W_eFz, ↓W_e1, ↓W_e2, ↓W_aNil, ↓W_aCons, ↓W_eN, ↓W_eTup, ↓W_eLst, ↓W_eCall, ↓W_eMut, ↓W_eMt, ↓W_eIf, ↓W_eAn, ↓W_eOr, ↓W_eNo, ↓W_eJ0, ↓W_eJ1, ↓W_tT, ↓W_tB, ↓W_tNo, ↓W_tAn, ↓W_tOr, ↓W_tAll, ↓W_gNm, ↓W_gsNil, ↓W_gsCons, ↓W_gTp, ↓W_gTpL, ↓W_gIx, ↓W_bFor, ↓W_bWhile, ↓W_iRg1, ↓W_iRg2, ↓W_iSq, ↓W_eLc, ↓W_eSl, ↓W_pN, ↓W_pS, ↓W_iEn, ↓W_iZp, ↓W_iRv, ↓W_iRg3, ↓W_iRgV, ↓W_eCh, ↓W_chIf, ↓W_bind, ↓W_map, ↓W_some, ↓W_none,
  Hd.get, List.getElem?_cons_zero, List.getElem?_cons_succ, List.getD_cons_zero, List.getD_cons_succ, List.set_cons_zero, List.set_cons_succ, List.length_cons, List.length_nil, List.map_cons, List.map_nil, List.replicate, List.cons_append, List.nil_append, Nat.reduceAdd, Nat.reduceSub, Nat.reduceLeDiff, Nat.zero_add,
  D.frz, D.frzL, D.fz, D.fzL, tru_b, tru_i, tru_n, tru_l, tru_t, tru_c, tms, wipeD, unw, lend, unlend, keepL, Option.map_some, Option.bind_some, Bool.and_true, Bool.true_and, Bool.not_true, Bool.not_false, ↓reduceIte, if_true, if_false, Bool.false_eq_true, true_and, and_true, ite_b, ite_nb, vv_fmtI, vv_fmtS, vv_reprI, vv_reprS, vv_addS, vv_augI, vv_augS, vv_lenS, vv_eqS, vv_neS, vv_addL, vv_addT,
  vv_add, vv_sub, vv_mul, vv_div, vv_mod, vv_pow, vv_shl, vv_shr, vv_neg, vv_lt, vv_le, vv_gt, vv_ge, vv_int, vv_intS, vv_intb, vv_abs, vv_gcd, vv_max2, vv_min2, vv_lenL, vv_lenC, vv_lenT, vv_idxL, vv_idxC, vv_idxT, vv_eqI, vv_eqB, vv_neI, vv_list, vv_listT, vv_tuple, vv_tupleT, vv_sum, vv_slL, vv_slS, vv_slT, vv_range, vv_index, vv_count, isL_l, isL_c, lenL_l, lenL_c, kindL, vv_maxL, vv_minL, vv_strI, vv_app, vv_isNN, vv_isIN, vv_isSN, vv_isBN, vv_isLN, vv_isTN, vv_isBB, vv_isNB, vv_isIB, vv_isSB, vv_isLB, vv_isTB, vv_inNN, vv_inIN, vv_inSN, vv_inBN, vv_inLN, vv_inTN, vv_inBB, atF0, atF1, atF2, atF3, atF4, atF5, okI, okB, okS, okN, okL, ix0, ix1, ix2, frzL_int, fzL_int, intsD_map, isiI_int, isiI_str, isiI_bool, isiI_list, isiI_tuple, isiS_int, isiS_str, isiS_bool, isiS_list, isiS_tuple, isiB_int, isiB_str, isiB_bool, isiB_list, isiB_tuple, isiL_int, isiL_str, isiL_bool, isiL_list, isiL_tuple, isiT_int, isiT_str, isiT_bool, isiT_list, isiT_tuple, isiN_int, isiN_str, isiN_bool, isiN_list, isiN_tuple])
local macro_rules | `(tactic| walk_at "mu") => `(tactic| repeat (first | (rw [W_ok (MulOk.right (by omega))]; walk_at "ev") | (rw [W_ok (MulOk.left (by omega))]; walk_at "ev") | (rw [W_ok (divok (by omega) (by omega))]; walk_at "ev") | (rw [W_ok (by omega)]; walk_at "ev")))
namespace Lk18
/-! all samples as one bound -/
def bS (S : List (Int × Int)) : St := S.map fun e => (((e.1 - e.2 : Int) : Rat), ((e.1 + e.2 : Int) : Rat))
def loS : List (Int × Int) → Int
  | [] => -1000
  | e :: S => if loS S < e.1 - e.2 then e.1 - e.2 else loS S
def hiS : List (Int × Int) → Int
  | [] => 1000
  | e :: S => if e.1 + e.2 < hiS S then e.1 + e.2 else hiS S
theorem inB_iff {v : Rat} (h1 : -1000 ≤ v) (h2 : v ≤ 1000) : ∀ S : List (Int × Int), InB (bS S) v ↔ ((loS S : Int) : Rat) ≤ v ∧ v ≤ ((hiS S : Int) : Rat)
  | [] => ⟨fun _ => ⟨h1, h2⟩, fun _ _ z => absurd z List.not_mem_nil⟩
  | e :: S => by
    have ih := inB_iff h1 h2 S
    have st : InB (bS (e :: S)) v ↔ (((e.1 - e.2 : Int) : Rat) ≤ v ∧ v ≤ ((e.1 + e.2 : Int) : Rat)) ∧ InB (bS S) v := by
      constructor
      · intro h
        exact ⟨h _ List.mem_cons_self, fun f hf => h f (List.mem_cons_of_mem _ hf)⟩
      · rintro ⟨a, b⟩ f hf
        rcases List.mem_cons.mp hf with rfl | hf
        · exact a
        · exact b f hf
    rw [st, ih]
    have l1 : ((loS (e :: S) : Int) : Rat) ≤ v ↔ ((e.1 - e.2 : Int) : Rat) ≤ v ∧ ((loS S : Int) : Rat) ≤ v := by
      rw [show loS (e :: S) = if loS S < e.1 - e.2 then e.1 - e.2 else loS S from rfl]
      clear ih st
      generalize loS S = z at *
      split
      · rename_i c
        have := Rat.intCast_lt_intCast.mpr c
        constructor
        · intro q; exact ⟨q, by grind⟩
        · exact fun q => q.1
      · rename_i c
        have := Rat.intCast_le_intCast.mpr (show e.1 - e.2 ≤ z by omega)
        constructor
        · intro q; exact ⟨by grind, q⟩
        · exact fun q => q.2
    have l2 : v ≤ ((hiS (e :: S) : Int) : Rat) ↔ v ≤ ((e.1 + e.2 : Int) : Rat) ∧ v ≤ ((hiS S : Int) : Rat) := by
      rw [show hiS (e :: S) = if e.1 + e.2 < hiS S then e.1 + e.2 else hiS S from rfl]
      clear ih st l1
      generalize hiS S = z at *
      split
      · rename_i c
        have := Rat.intCast_lt_intCast.mpr c
        constructor
        · intro q; exact ⟨q, by grind⟩
        · exact fun q => q.1
      · rename_i c
        have := Rat.intCast_le_intCast.mpr (show z ≤ e.1 + e.2 by omega)
        constructor
        · intro q; exact ⟨by grind, q⟩
        · exact fun q => q.2
    rw [l1, l2]
    constructor
    · rintro ⟨⟨a, b⟩, c, d⟩; exact ⟨⟨a, c⟩, b, d⟩
    · rintro ⟨⟨a, c⟩, b, d⟩; exact ⟨⟨a, b⟩, c, d⟩
theorem levs_sub {e : Rat × Rat} {B : St} {r : Rat} (h : r ∈ levs B) : r ∈ levs (e :: B) := List.mem_cons_of_mem _ (List.mem_cons_of_mem _ h)
theorem loS_lev : ∀ S : List (Int × Int), loS S = -1000 ∨ ((loS S : Int) : Rat) ∈ levs (bS S)
  | [] => .inl rfl
  | e :: S => by
    rw [show loS (e :: S) = if loS S < e.1 - e.2 then e.1 - e.2 else loS S from rfl]
    split
    · exact .inr List.mem_cons_self
    · rcases loS_lev S with h | h
      · exact .inl h
      · exact .inr (levs_sub h)
theorem hiS_lev : ∀ S : List (Int × Int), hiS S = 1000 ∨ ((hiS S : Int) : Rat) ∈ levs (bS S)
  | [] => .inl rfl
  | e :: S => by
    rw [show hiS (e :: S) = if e.1 + e.2 < hiS S then e.1 + e.2 else hiS S from rfl]
    split
    · exact .inr (List.mem_cons_of_mem _ List.mem_cons_self)
    · rcases hiS_lev S with h | h
      · exact .inl h
      · exact .inr (levs_sub h)
theorem lin_rng {l : Cu} (h : Low l) {k : Nat} {t : Rat} (ho : On l k t) : -100 ≤ lin l k t ∧ lin l k t ≤ 100 := by
  have hk := ho.1
  have hs := sz_ne h.c hk
  have b3 := h.v k (by omega)
  have b4 := h.v (k + 1) hk
  have c1 : (-100 : Rat) ≤ (vI l k : Rat) := (Rat.intCast_le_intCast (a := -100)).mpr b3.1
  have c2 : (vI l k : Rat) ≤ 100 := (Rat.intCast_le_intCast (b := 100)).mpr b3.2
  have c3 : (-100 : Rat) ≤ (vI l (k + 1) : Rat) := (Rat.intCast_le_intCast (a := -100)).mpr b4.1
  have c4 : (vI l (k + 1) : Rat) ≤ 100 := (Rat.intCast_le_intCast (b := 100)).mpr b4.2
  have o1 := ho.2.1
  have o2 := ho.2.2
  unfold lin
  rw [Rat.intCast_sub (a := vI l (k + 1))]
  rw [Rat.intCast_sub] at hs
  rw [Rat.intCast_sub]
  generalize (xI l (k + 1) : Rat) = Y at *
  generalize (xI l k : Rat) = X at *
  generalize (vI l (k + 1) : Rat) = W at *
  generalize (vI l k : Rat) = V at *
  have e : (t - X) / (Y - X) * (Y - X) = t - X := by grind
  generalize (t - X) / (Y - X) = w at *
  have w0 : 0 ≤ w := (mul_le_iff (a := 0) (b := w) hs).mp (by grind)
  have w1 : w ≤ 1 := (mul_le_iff (a := w) (b := 1) hs).mp (by grind)
  have m1 := Rat.mul_nonneg w0 (show (0 : Rat) ≤ W + 100 by grind)
  have m2 := Rat.mul_nonneg w0 (show (0 : Rat) ≤ 100 - W by grind)
  have m3 := Rat.mul_nonneg (show (0 : Rat) ≤ 1 - w by grind) (show (0 : Rat) ≤ V + 100 by grind)
  have m4 := Rat.mul_nonneg (show (0 : Rat) ≤ 1 - w by grind) (show (0 : Rat) ≤ 100 - V by grind)
  constructor <;> grind
theorem bnd_S {l : Cu} (h : Low l) {S : List (Int × Int)} (hS : SOk S) (hSl : S.length ≤ 3) : Bnd l (bS S) ((loS S : Int) : Rat) ((hiS S : Int) : Rat) := by
  refine ⟨fun e he => ?_, by show (S.map _).length ≤ 10; rw [List.length_map]; omega, fun k t ho => ?_, fun k t ho q => ?_⟩
  · obtain ⟨x, hx, rfl⟩ := List.mem_map.mp he
    obtain ⟨e1, e2, e3, e4⟩ := hS x hx
    exact ⟨lev_int (by omega), lev_int (by omega)⟩
  · obtain ⟨r1, r2⟩ := lin_rng h ho
    exact inB_iff (by grind) (by grind) S
  · obtain ⟨r1, r2⟩ := lin_rng h ho
    rcases q with q | q
    · rcases loS_lev S with z | z
      · rw [z] at q
        have : ((-1000 : Int) : Rat) = -1000 := rfl
        grind
      · rw [q]; exact z
    · rcases hiS_lev S with z | z
      · rw [z] at q
        have : ((1000 : Int) : Rat) = 1000 := rfl
        grind
      · rw [q]; exact z
theorem allS_iff {l : Cu} (h : Low l) {S : List (Int × Int)} (hS : SOk S) (hSl : S.length ≤ 3) {u : Rat} : AllS l S u ↔ InS l ((loS S : Int) : Rat) ((hiS S : Int) : Rat) u := by
  have hb := bnd_S h hS hSl
  have hn := h.c.n1
  constructor
  · rintro ⟨⟨a, b⟩, c⟩
    obtain ⟨k, hk, ho⟩ := seg_of h.c a (m := l.length - 1) (by omega) (by omega) b
    refine (inS_on h.c hb ho).mp fun e he => ?_
    obtain ⟨x, hx, rfl⟩ := List.mem_map.mp he
    obtain ⟨j, _, hj, q1, q2⟩ := c x hx
    rw [lin_same h.c ho hj]
    exact ⟨q1, q2⟩
  · intro q
    refine ⟨inS_rng h.c q, fun e he => ?_⟩
    obtain ⟨k, hk, ho, q1, q2⟩ := q
    have := (hb.eq k u ho).mpr ⟨q1, q2⟩
    have := this _ (List.mem_map.mpr ⟨e, he, rfl⟩)
    exact ⟨k, hk, ho, this⟩
end Lk18
end
section
set_option Elab.async false
set_option linter.all false
set_option maxRecDepth 100000
set_option maxHeartbeats 4000000
set_option exponentiation.threshold 5000
open PySem Mv Mv.PreA
local macro_rules | `(tactic| walk_at "ev") => `(tactic| try simp only [↓W_bCons, ↓W_bNil, ↓W_bBrk, ↓W_bCnt, ↓W_bExp, ↓W_bRet, ↓W_bRetN, ↓W_bIf, ↓W_bAsg, ↓W_bPar, ↓W_bAug, ↓W_eC, ↓W_eV, ↓W_eM, ↓W_hV, ↓W_hE, ↓W_eFz, ↓W_e1, ↓W_e2, ↓W_aNil, ↓W_aCons, ↓W_eN, ↓W_eTup, ↓W_eLst, ↓W_eCall, ↓W_eMut, ↓W_eMt, ↓W_eIf, ↓W_eAn, ↓W_eOr, ↓W_eNo, ↓W_eJ0, ↓W_eJ1, ↓W_tT, ↓W_tB, ↓W_tNo, ↓W_tAn, ↓W_tOr, ↓W_tAll, ↓W_gNm, ↓W_gsNil, ↓W_gsCons, ↓W_gTp, ↓W_gTpL, ↓W_gIx, ↓W_bFor, ↓W_bWhile, ↓W_iRg1, ↓W_iRg2, ↓W_iSq, ↓W_eLc, ↓W_eSl, ↓W_pN, ↓W_pS, ↓W_iEn, ↓W_iZp, ↓W_iRv, ↓W_iRg3, ↓W_iRgV, ↓W_eCh, ↓W_chIf, ↓W_bind, ↓W_map, ↓W_some, ↓W_none,
  Hd.get, List.getElem?_cons_zero, List.getElem?_cons_succ, List.getD_cons_zero, List.getD_cons_succ, List.set_cons_zero, List.set_cons_succ, List.length_cons, List.length_nil, List.map_cons, List.map_nil, List.replicate, List.cons_append, List.nil_append, Nat.reduceAdd, Nat.reduceSub, Nat.reduceLeDiff, Nat.zero_add,
  D.frz, D.frzL, D.fz, D.fzL, tru_b, tru_i, tru_n, tru_l, tru_t, tru_c, tms, wipeD, unw, lend, unlend, keepL, Option.map_some, Option.bind_some, Bool.and_true, Bool.true_and, Bool.not_true, Bool.not_false, ↓reduceIte, if_true, if_false, Bool.false_eq_true, true_and, and_true, ite_b, ite_nb, vv_fmtI, vv_fmtS, vv_reprI, vv_reprS, vv_addS, vv_augI, vv_augS, vv_lenS, vv_eqS, vv_neS, vv_addL, vv_addT,
  vv_add, vv_sub, vv_mul, vv_div, vv_mod, vv_pow, vv_shl, vv_shr, vv_neg, vv_lt, vv_le, vv_gt, vv_ge, vv_int, vv_intS, vv_intb, vv_abs, vv_gcd, vv_max2, vv_min2, vv_lenL, vv_lenC, vv_lenT, vv_idxL, vv_idxC, vv_idxT, vv_eqI, vv_eqB, vv_neI, vv_list, vv_listT, vv_tuple, vv_tupleT, vv_sum, vv_slL, vv_slS, vv_slT, vv_range, vv_index, vv_count, isL_l, isL_c, lenL_l, lenL_c, kindL, vv_maxL, vv_minL, vv_strI, vv_app, vv_isNN, vv_isIN, vv_isSN, vv_isBN, vv_isLN, vv_isTN, vv_isBB, vv_isNB, vv_isIB, vv_isSB, vv_isLB, vv_isTB, vv_inNN, vv_inIN, vv_inSN, vv_inBN, vv_inLN, vv_inTN, vv_inBB, atF0, atF1, atF2, atF3, atF4, atF5, okI, okB, okS, okN, okL, ix0, ix1, ix2, frzL_int, fzL_int, intsD_map, isiI_int, isiI_str, isiI_bool, isiI_list, isiI_tuple, isiS_int, isiS_str, isiS_bool, isiS_list, isiS_tuple, isiB_int, isiB_str, isiB_bool, isiB_list, isiB_tuple, isiL_int, isiL_str, isiL_bool, isiL_list, isiL_tuple, isiT_int, isiT_str, isiT_bool, isiT_list, isiT_tuple, isiN_int, isiN_str, isiN_bool, isiN_list, isiN_tuple])
local macro_rules | `(tactic| walk_at "mu") => `(tactic| repeat (first | (rw [W_ok (MulOk.right (by omega))]; walk_at "ev") | (rw [W_ok (MulOk.left (by omega))]; walk_at "ev") | (rw [W_ok (divok (by omega) (by omega))]; walk_at "ev") | (rw [W_ok (by omega)]; walk_at "ev")))
namespace Lk18
/-! how many stretches a value has -/
def FFy (l : Cu) (v : Rat) : Nat → St
  | 0 => []
  | k + 1 => match pieceY l k v with
    | none => FFy l v k
    | some e => putIn (FFy l v k) e.1 e.2
theorem ffy_sofar {l : Cu} (h : Curve l) {v : Rat} : ∀ k, k < l.length → Sofar l v v k (FFy l v k)
  | 0, _ => sofar0
  | k + 1, hk => by
    have ih := ffy_sofar h (v := v) k (by omega)
    have hs := pieceY_says h hk (v := v)
    show Sofar l v v (k + 1) (match pieceY l k v with | none => FFy l v k | some e => putIn (FFy l v k) e.1 e.2)
    cases hp : pieceY l k v with
    | none => rw [hp] at hs; exact sofar_none h hk ih hs
    | some e => rw [hp] at hs; exact sofar_some h hk ih hs
theorem lin_x {l : Cu} {k : Nat} : lin l k (xI l k : Rat) = (vI l k : Rat) := lin_left
theorem on_x {l : Cu} (h : Curve l) {k : Nat} (hk : k + 1 < l.length) : On l k (xI l k : Rat) ∧ On l k (xI l (k + 1) : Rat) := by
  have := x_le h (show k ≤ k + 1 by omega) hk
  exact ⟨⟨hk, by grind, this⟩, ⟨hk, this, by grind⟩⟩
/-- what a piece does -/
theorem pY_left {l : Cu} (h : Curve l) {k : Nat} (hk : k + 1 < l.length) {v : Rat} (hv : (vI l k : Rat) = v) : ∃ b, pieceY l k v = some ((xI l k : Rat), b) := by
  have hs := pieceY_says h hk (v := v)
  have ho := (on_x h hk).1
  have hl := lin_x (l := l) (k := k)
  cases hp : pieceY l k v with
  | none => rw [hp] at hs; exact absurd ⟨by grind, by grind⟩ (hs _ ho)
  | some e =>
    rw [hp] at hs
    obtain ⟨s1, s2, s3, s4⟩ := hs
    have := (s4 (xI l k : Rat)).mp ⟨ho, by grind, by grind⟩
    obtain ⟨a, b⟩ := e
    exact ⟨b, by rw [show a = (xI l k : Rat) from by have := this.1; have s1 : (xI l k : Rat) ≤ a := s1; have this : a ≤ (xI l k : Rat) := this; grind]⟩
theorem pY_not {l : Cu} (h : Curve l) {k : Nat} (hk : k + 1 < l.length) {v : Rat} (hv : (vI l k : Rat) ≠ v) {a b : Rat} (hp : pieceY l k v = some (a, b)) : (xI l k : Rat) < a := by
  have hs := pieceY_says h hk (v := v)
  rw [hp] at hs
  obtain ⟨s1, s2, s3, s4⟩ := hs
  have s1 : (xI l k : Rat) ≤ a := s1
  have s2 : a ≤ b := s2
  have := (s4 a).mpr ⟨by grind, s2⟩
  by_cases c : (xI l k : Rat) < a
  · exact c
  · exfalso
    have e : a = (xI l k : Rat) := by grind
    rw [e, lin_x] at this
    exact hv (by grind)
theorem pY_some {l : Cu} (h : Curve l) {k : Nat} (hk : k + 1 < l.length) {v : Rat} (hv : (vI l k : Rat) ≠ v) : (∃ e, pieceY l k v = some e) ↔ ((vI l (k + 1) : Rat) = v ∨ ((vI l (k + 1) : Rat) - v) * ((vI l k : Rat) - v) < 0) := by
  have hs := pieceY_says h hk (v := v)
  have sh := share_of h hk
  have lx := lin_right h hk
  have o2 := (on_x h hk).2
  constructor
  · rintro ⟨e, hp⟩
    rw [hp] at hs
    obtain ⟨s1, s2, s3, s4⟩ := hs
    obtain ⟨ho, q1, q2⟩ := (s4 e.1).mpr ⟨by grind, s2⟩
    obtain ⟨w, hw⟩ := to_share sh e.1
    rw [hw] at ho q1 q2
    rw [lin_share sh] at q1 q2
    rw [on_share sh hk] at ho
    obtain ⟨w0, w1⟩ := ho
    by_cases c : (vI l (k + 1) : Rat) = v
    · exact .inl c
    · right
      rw [Rat.intCast_sub] at q1 q2
      generalize (vI l (k + 1) : Rat) = W at *
      generalize (vI l k : Rat) = V at *
      -- v = V + w (W - V), 0 <= w <= 1
      have e1 : (1 - w) * (V - v) = - (w * (W - v)) := by grind
      have hw0 : 0 < w := by
        by_cases z : w = 0
        · subst z; exfalso; exact hv (by grind)
        · grind
      have hw1 : 0 < 1 - w := by
        by_cases z : w = 1
        · subst z; exfalso; exact c (by grind)
        · grind
      by_cases g : (W - v) * (V - v) < 0
      · exact g
      · exfalso
        have g : 0 ≤ (W - v) * (V - v) := by grind
        have m1 := Rat.mul_nonneg (Rat.mul_nonneg (show 0 ≤ w by grind) g) (show (0 : Rat) ≤ 1 by grind)
        -- w (W - v) (V - v) >= 0 but = - (1 - w) (V - v)^2 < 0
        have e2 : w * ((W - v) * (V - v)) = - ((1 - w) * ((V - v) * (V - v))) := by grind
        have p1 : 0 < (V - v) * (V - v) := by
          rcases (show V - v < 0 ∨ 0 < V - v by grind) with z | z
          · have := Rat.mul_pos (show 0 < -(V - v) by grind) (show 0 < -(V - v) by grind); grind
          · exact Rat.mul_pos z z
        have p2 := Rat.mul_pos hw1 p1
        grind
  · intro q
    cases hp : pieceY l k v with
    | some e => exact ⟨e, rfl⟩
    | none =>
      exfalso
      rw [hp] at hs
      rcases q with q | q
      · exact hs _ o2 ⟨by grind, by grind⟩
      · -- the crossing
        have hR : (vI l (k + 1) : Rat) - (vI l k : Rat) ≠ 0 := by
          intro z
          have : (vI l (k + 1) : Rat) = (vI l k : Rat) := by grind
          rw [this] at q
          have := Rat.mul_nonneg (a := (vI l k : Rat) - v) (b := (vI l k : Rat) - v)
          rcases (show (vI l k : Rat) - v < 0 ∨ 0 ≤ (vI l k : Rat) - v by grind) with y | y
          · have := Rat.mul_nonneg (show 0 ≤ -((vI l k : Rat) - v) by grind) (show 0 ≤ -((vI l k : Rat) - v) by grind); grind
          · have := Rat.mul_nonneg y y; grind
        have key : ∃ w : Rat, 0 ≤ w ∧ w ≤ 1 ∧ (vI l k : Rat) + w * (((vI l (k + 1) : Rat)) - (vI l k : Rat)) = v := by
          generalize (vI l (k + 1) : Rat) = W at *
          generalize (vI l k : Rat) = V at *
          have em : (v - V) / (W - V) * (W - V) = v - V := by grind
          generalize (v - V) / (W - V) = w at em
          refine ⟨w, ?_, ?_, by grind⟩
          · rcases (show V - v < 0 ∨ 0 < V - v by grind) with y | y
            · have : 0 < W - v := by
                by_cases z : 0 < W - v
                · exact z
                · exfalso; have := Rat.mul_nonneg (show 0 ≤ -(W - v) by grind) (show 0 ≤ -(V - v) by grind); grind
              have hp : 0 < W - V := by grind
              exact (mul_le_iff (a := 0) hp).mp (by grind)
            · have : W - v < 0 := by
                by_cases z : W - v < 0
                · exact z
                · exfalso; have := Rat.mul_nonneg (show 0 ≤ W - v by grind) (show 0 ≤ V - v by grind); grind
              have hp : 0 < V - W := by grind
              exact (mul_le_iff (a := 0) hp).mp (by grind)
          · rcases (show V - v < 0 ∨ 0 < V - v by grind) with y | y
            · have : 0 < W - v := by
                by_cases z : 0 < W - v
                · exact z
                · exfalso; have := Rat.mul_nonneg (show 0 ≤ -(W - v) by grind) (show 0 ≤ -(V - v) by grind); grind
              have hp : 0 < W - V := by grind
              exact (mul_le_iff (b := 1) hp).mp (by grind)
            · have : W - v < 0 := by
                by_cases z : W - v < 0
                · exact z
                · exfalso; have := Rat.mul_nonneg (show 0 ≤ W - v by grind) (show 0 ≤ V - v by grind); grind
              have hp : 0 < V - W := by grind
              exact (mul_le_iff (b := 1) hp).mp (by grind)
        obtain ⟨w, w0, w1, we⟩ := key
        have ho := (on_share sh hk (w := w)).mpr ⟨w0, w1⟩
        refine hs _ ho ?_
        rw [lin_share sh, Rat.intCast_sub]
        exact ⟨by grind, by grind⟩
end Lk18
end
section
set_option Elab.async false
set_option linter.all false
set_option maxRecDepth 100000
set_option maxHeartbeats 4000000
set_option exponentiation.threshold 5000
open PySem Mv Mv.PreA
local macro_rules | `(tactic| walk_at "ev") => `(tactic| try simp only [↓W_bCons, ↓W_bNil, ↓W_bBrk, ↓W_bCnt, ↓W_bExp, ↓W_bRet, ↓W_bRetN, ↓W_bIf, ↓W_bAsg, ↓W_bPar, ↓W_bAug, ↓W_eC, ↓W_eV, ↓W_eM, ↓W_hV, ↓W_hE, ↓W_eFz, ↓W_e1, ↓W_e2, ↓W_aNil, ↓W_aCons, ↓W_eN, ↓W_eTup, ↓W_eLst, ↓W_eCall, ↓W_eMut, ↓W_eMt, ↓W_eIf, ↓W_eAn, ↓W_eOr, ↓W_eNo, ↓W_eJ0, ↓W_eJ1, ↓W_tT, ↓W_tB, ↓W_tNo, ↓W_tAn, ↓W_tOr, ↓W_tAll, ↓W_gNm, ↓W_gsNil, ↓W_gsCons, ↓W_gTp, ↓W_gTpL, ↓W_gIx, ↓W_bFor, ↓W_bWhile, ↓W_iRg1, ↓W_iRg2, ↓W_iSq, ↓W_eLc, ↓W_eSl, ↓W_pN, ↓W_pS, ↓W_iEn, ↓W_iZp, ↓W_iRv, ↓W_iRg3, ↓W_iRgV, ↓W_eCh, ↓W_chIf, ↓W_bind, ↓W_map, ↓W_some, ↓W_none,
  Hd.get, List.getElem?_cons_zero, List.getElem?_cons_succ, List.getD_cons_zero, List.getD_cons_succ, List.set_cons_zero, List.set_cons_succ, List.length_cons, List.length_nil, List.map_cons, List.map_nil, List.replicate, List.cons_append, List.nil_append, Nat.reduceAdd, Nat.reduceSub, Nat.reduceLeDiff, Nat.zero_add,
  D.frz, D.frzL, D.fz, D.fzL, tru_b, tru_i, tru_n, tru_l, tru_t, tru_c, tms, wipeD, unw, lend, unlend, keepL, Option.map_some, Option.bind_some, Bool.and_true, Bool.true_and, Bool.not_true, Bool.not_false, ↓reduceIte, if_true, if_false, Bool.false_eq_true, true_and, and_true, ite_b, ite_nb, vv_fmtI, vv_fmtS, vv_reprI, vv_reprS, vv_addS, vv_augI, vv_augS, vv_lenS, vv_eqS, vv_neS, vv_addL, vv_addT,
  vv_add, vv_sub, vv_mul, vv_div, vv_mod, vv_pow, vv_shl, vv_shr, vv_neg, vv_lt, vv_le, vv_gt, vv_ge, vv_int, vv_intS, vv_intb, vv_abs, vv_gcd, vv_max2, vv_min2, vv_lenL, vv_lenC, vv_lenT, vv_idxL, vv_idxC, vv_idxT, vv_eqI, vv_eqB, vv_neI, vv_list, vv_listT, vv_tuple, vv_tupleT, vv_sum, vv_slL, vv_slS, vv_slT, vv_range, vv_index, vv_count, isL_l, isL_c, lenL_l, lenL_c, kindL, vv_maxL, vv_minL, vv_strI, vv_app, vv_isNN, vv_isIN, vv_isSN, vv_isBN, vv_isLN, vv_isTN, vv_isBB, vv_isNB, vv_isIB, vv_isSB, vv_isLB, vv_isTB, vv_inNN, vv_inIN, vv_inSN, vv_inBN, vv_inLN, vv_inTN, vv_inBB, atF0, atF1, atF2, atF3, atF4, atF5, okI, okB, okS, okN, okL, ix0, ix1, ix2, frzL_int, fzL_int, intsD_map, isiI_int, isiI_str, isiI_bool, isiI_list, isiI_tuple, isiS_int, isiS_str, isiS_bool, isiS_list, isiS_tuple, isiB_int, isiB_str, isiB_bool, isiB_list, isiB_tuple, isiL_int, isiL_str, isiL_bool, isiL_list, isiL_tuple, isiT_int, isiT_str, isiT_bool, isiT_list, isiT_tuple, isiN_int, isiN_str, isiN_bool, isiN_list, isiN_tuple])
local macro_rules | `(tactic| walk_at "mu") => `(tactic| repeat (first | (rw [W_ok (MulOk.right (by omega))]; walk_at "ev") | (rw [W_ok (MulOk.left (by omega))]; walk_at "ev") | (rw [W_ok (divok (by omega) (by omega))]; walk_at "ev") | (rw [W_ok (by omega)]; walk_at "ev")))
namespace Lk18
def dl (l : Cu) (v : Int) (k : Nat) : Nat := if vI l k = v then (if k = 0 ∨ vI l (k - 1) ≠ v then 1 else 0) else (if 0 < k ∧ (vI l k - v) * (vI l (k - 1) - v) < 0 then 1 else 0)
def cn (l : Cu) (v : Int) : Nat → Nat
  | 0 => 0
  | k + 1 => cn l v k + dl l v k
theorem cast_eq {a v : Int} : ((a : Rat) = (v : Rat)) ↔ a = v := Rat.intCast_inj
theorem cast_prod {a b v : Int} : ((a : Rat) - (v : Rat)) * ((b : Rat) - (v : Rat)) < 0 ↔ (a - v) * (b - v) < 0 := by
  rw [← Rat.intCast_sub, ← Rat.intCast_sub, ← Rat.intCast_mul]
  exact Rat.intCast_lt_intCast (b := 0)
theorem pY_iff {l : Cu} (h : Curve l) {k : Nat} (hk : k + 1 < l.length) {v : Int} (hv : vI l k ≠ v) : (∃ e, pieceY l k (v : Rat) = some e) ↔ dl l v (k + 1) = 1 := by
  rw [pY_some h hk (fun z => hv (cast_eq.mp z)), cast_eq, cast_prod]
  unfold dl
  rw [Nat.add_sub_cancel]
  by_cases c : vI l (k + 1) = v
  · rw [if_pos c, if_pos (.inr hv)]
    exact ⟨fun _ => rfl, fun _ => .inl c⟩
  · rw [if_neg c]
    by_cases d : (vI l (k + 1) - v) * (vI l k - v) < 0
    · rw [if_pos ⟨by omega, d⟩]
      exact ⟨fun _ => rfl, fun _ => .inr d⟩
    · rw [if_neg (fun z => d z.2)]
      constructor
      · rintro (z | z)
        · exact absurd z c
        · exact absurd z d
      · intro z; cases z
theorem dl_flat {l : Cu} {k : Nat} {v : Int} (hv : vI l k = v) : dl l v (k + 1) = 0 := by
  unfold dl
  rw [Nat.add_sub_cancel]
  by_cases c : vI l (k + 1) = v
  · rw [if_pos c, if_neg (by rintro (z | z); · omega
                             · exact z hv)]
  · rw [if_neg c, if_neg]
    rintro ⟨_, z⟩
    rw [hv, Int.sub_self, Int.mul_zero] at z
    omega
theorem dl_le {l : Cu} {k : Nat} {v : Int} : dl l v k = 0 ∨ dl l v k = 1 := by
  unfold dl
  split <;> split <;> simp
theorem ffy_succ {l : Cu} {v : Rat} {k : Nat} : FFy l v (k + 1) = match pieceY l k v with
    | none => FFy l v k
    | some e => putIn (FFy l v k) e.1 e.2 := rfl
theorem len_put_yes {R : St} {f : Rat × Rat} {b : Rat} : (putIn (R ++ [f]) f.2 b).length = (R ++ [f]).length := by
  rw [putIn_snoc, if_pos rfl]; simp
theorem len_put_no {F : St} {a b : Rat} (h : ∀ f ∈ F, f.2 ≠ a) : (putIn F a b).length = F.length + 1 := by
  rcases ps_cases F with rfl | ⟨R, f, rfl⟩
  · rfl
  · rw [putIn_snoc, if_neg (h f (List.mem_append_right _ (List.mem_singleton.mpr rfl)))]; simp
/-- where the curve has the value at its point, the last stretch ends there -/
theorem ends_at {l : Cu} (h : Curve l) {k : Nat} {v : Rat} {F : St} (hk : k + 1 < l.length) (hF : Sofar l v v (k + 1) F) (hv : (vI l (k + 1) : Rat) = v) : ∃ R f, F = R ++ [f] ∧ f.2 = (xI l (k + 1) : Rat) := by
  have hin : inL F (xI l (k + 1) : Rat) := (hF.eq _).mpr ⟨k, by omega, (on_x h hk).2, by rw [lin_right h hk]; grind, by rw [lin_right h hk]; grind⟩
  obtain ⟨e, he, q1, q2⟩ := hin
  have e2 : e.2 = (xI l (k + 1) : Rat) := by have := hF.le e he; grind
  rcases ps_cases F with rfl | ⟨R, f, rfl⟩
  · exact absurd he List.not_mem_nil
  · refine ⟨R, f, rfl, ?_⟩
    rcases List.mem_append.mp he with he | he
    · exfalso
      have h1 := (List.pairwise_append.mp hF.can.2).2.2 e he f (List.mem_singleton.mpr rfl)
      have h2 := hF.can.1 f (List.mem_append_right _ (List.mem_singleton.mpr rfl))
      have h3 := hF.le f (List.mem_append_right _ (List.mem_singleton.mpr rfl))
      grind
    · rw [← List.mem_singleton.mp he]; exact e2
theorem ffy_len {l : Cu} (h : Curve l) {v : Int} : ∀ k, k + 1 < l.length → (FFy l (v : Rat) (k + 1)).length = cn l v (k + 2)
  | 0, hk => by
    rw [ffy_succ]
    show (match pieceY l 0 (v : Rat) with | none => [] | some e => putIn [] e.1 e.2).length = 0 + dl l v 0 + dl l v 1
    have d0 : dl l v 0 = if vI l 0 = v then 1 else 0 := by unfold dl; split <;> simp
    by_cases c : vI l 0 = v
    · obtain ⟨b, hb⟩ := pY_left h hk (cast_eq.mpr c)
      rw [hb, d0, if_pos c, dl_flat c]
      rfl
    · rw [d0, if_neg c]
      have hi := pY_iff h hk c
      cases hp : pieceY l 0 (v : Rat) with
      | none =>
        have : dl l v 1 = 0 := by
          rcases dl_le (l := l) (k := 1) (v := v) with z | z
          · exact z
          · obtain ⟨e, he⟩ := hi.mpr z; rw [hp] at he; cases he
        rw [this]; rfl
      | some e => rw [hi.mp ⟨e, hp⟩]; rfl
  | k + 1, hk => by
    have ih := ffy_len h (v := v) k (by omega)
    have hF := ffy_sofar h (v := (v : Rat)) (k + 1) (by omega)
    rw [ffy_succ]
    show (match pieceY l (k + 1) (v : Rat) with | none => FFy l (v : Rat) (k + 1) | some e => putIn (FFy l (v : Rat) (k + 1)) e.1 e.2).length = cn l v (k + 2) + dl l v (k + 2)
    by_cases c : vI l (k + 1) = v
    · obtain ⟨b, hb⟩ := pY_left h hk (cast_eq.mpr c)
      obtain ⟨R, f, e1, e2⟩ := ends_at h (by omega) hF (cast_eq.mpr c)
      rw [hb, dl_flat c, ← ih]
      show (putIn (FFy l (v : Rat) (k + 1)) (xI l (k + 1) : Rat) b).length = _
      rw [e1, ← e2, len_put_yes]
      rfl
    · have hi := pY_iff h hk c
      cases hp : pieceY l (k + 1) (v : Rat) with
      | none =>
        have : dl l v (k + 2) = 0 := by
          rcases dl_le (l := l) (k := k + 2) (v := v) with z | z
          · exact z
          · obtain ⟨e, he⟩ := hi.mpr z; rw [hp] at he; cases he
        rw [this, ← ih]; rfl
      | some e =>
        rw [hi.mp ⟨e, hp⟩, ← ih]
        obtain ⟨a, b⟩ := e
        have := pY_not h hk (fun z => c (cast_eq.mp z)) hp
        exact len_put_no fun f hf => by have := hF.le f hf; grind
theorem years_len {l : Cu} (h : Curve l) {v : Int} {F : St} (hF : Sofar l (v : Rat) (v : Rat) (l.length - 1) F) : F.length = cn l v l.length := by
  have hn := h.n1
  have hG := ffy_sofar h (v := (v : Rat)) (l.length - 1) (by omega)
  have : F = FFy l (v : Rat) (l.length - 1) := uniq hF.can hG.can fun u => by rw [hF.eq, hG.eq]
  rw [this]
  have := ffy_len h (v := v) (l.length - 2) (by omega)
  rw [show l.length - 2 + 1 = l.length - 1 by omega, show l.length - 2 + 2 = l.length by omega] at this
  exact this
end Lk18
end
section
set_option Elab.async false
set_option linter.all false
set_option maxRecDepth 100000
set_option maxHeartbeats 4000000
set_option exponentiation.threshold 5000
open PySem Mv Mv.PreA
local macro_rules | `(tactic| walk_at "ev") => `(tactic| try simp only [↓W_bCons, ↓W_bNil, ↓W_bBrk, ↓W_bCnt, ↓W_bExp, ↓W_bRet, ↓W_bRetN, ↓W_bIf, ↓W_bAsg, ↓W_bPar, ↓W_bAug, ↓W_eC, ↓W_eV, ↓W_eM, ↓W_hV, ↓W_hE, ↓W_eFz, ↓W_e1, ↓W_e2, ↓W_aNil, ↓W_aCons, ↓W_eN, ↓W_eTup, ↓W_eLst, ↓W_eCall, ↓W_eMut, ↓W_eMt, ↓W_eIf, ↓W_eAn, ↓W_eOr, ↓W_eNo, ↓W_eJ0, ↓W_eJ1, ↓W_tT, ↓W_tB, ↓W_tNo, ↓W_tAn, ↓W_tOr, ↓W_tAll, ↓W_gNm, ↓W_gsNil, ↓W_gsCons, ↓W_gTp, ↓W_gTpL, ↓W_gIx, ↓W_bFor, ↓W_bWhile, ↓W_iRg1, ↓W_iRg2, ↓W_iSq, ↓W_eLc, ↓W_eSl, ↓W_pN, ↓W_pS, ↓W_iEn, ↓W_iZp, ↓W_iRv, ↓W_iRg3, ↓W_iRgV, ↓W_eCh, ↓W_chIf, ↓W_bind, ↓W_map, ↓W_some, ↓W_none,
  Hd.get, List.getElem?_cons_zero, List.getElem?_cons_succ, List.getD_cons_zero, List.getD_cons_succ, List.set_cons_zero, List.set_cons_succ, List.length_cons, List.length_nil, List.map_cons, List.map_nil, List.replicate, List.cons_append, List.nil_append, Nat.reduceAdd, Nat.reduceSub, Nat.reduceLeDiff, Nat.zero_add,
  D.frz, D.frzL, D.fz, D.fzL, tru_b, tru_i, tru_n, tru_l, tru_t, tru_c, tms, wipeD, unw, lend, unlend, keepL, Option.map_some, Option.bind_some, Bool.and_true, Bool.true_and, Bool.not_true, Bool.not_false, ↓reduceIte, if_true, if_false, Bool.false_eq_true, true_and, and_true, ite_b, ite_nb, vv_fmtI, vv_fmtS, vv_reprI, vv_reprS, vv_addS, vv_augI, vv_augS, vv_lenS, vv_eqS, vv_neS, vv_addL, vv_addT,
  vv_add, vv_sub, vv_mul, vv_div, vv_mod, vv_pow, vv_shl, vv_shr, vv_neg, vv_lt, vv_le, vv_gt, vv_ge, vv_int, vv_intS, vv_intb, vv_abs, vv_gcd, vv_max2, vv_min2, vv_lenL, vv_lenC, vv_lenT, vv_idxL, vv_idxC, vv_idxT, vv_eqI, vv_eqB, vv_neI, vv_list, vv_listT, vv_tuple, vv_tupleT, vv_sum, vv_slL, vv_slS, vv_slT, vv_range, vv_index, vv_count, isL_l, isL_c, lenL_l, lenL_c, kindL, vv_maxL, vv_minL, vv_strI, vv_app, vv_isNN, vv_isIN, vv_isSN, vv_isBN, vv_isLN, vv_isTN, vv_isBB, vv_isNB, vv_isIB, vv_isSB, vv_isLB, vv_isTB, vv_inNN, vv_inIN, vv_inSN, vv_inBN, vv_inLN, vv_inTN, vv_inBB, atF0, atF1, atF2, atF3, atF4, atF5, okI, okB, okS, okN, okL, ix0, ix1, ix2, frzL_int, fzL_int, intsD_map, isiI_int, isiI_str, isiI_bool, isiI_list, isiI_tuple, isiS_int, isiS_str, isiS_bool, isiS_list, isiS_tuple, isiB_int, isiB_str, isiB_bool, isiB_list, isiB_tuple, isiL_int, isiL_str, isiL_bool, isiL_list, isiL_tuple, isiT_int, isiT_str, isiT_bool, isiT_list, isiT_tuple, isiN_int, isiN_str, isiN_bool, isiN_list, isiN_tuple])
local macro_rules | `(tactic| walk_at "mu") => `(tactic| repeat (first | (rw [W_ok (MulOk.right (by omega))]; walk_at "ev") | (rw [W_ok (MulOk.left (by omega))]; walk_at "ev") | (rw [W_ok (divok (by omega) (by omega))]; walk_at "ev") | (rw [W_ok (by omega)]; walk_at "ev")))
namespace Lk18
def bst (f : Int → Nat) (lo : Int) : Nat → Option (Nat × Int)
  | 0 => none
  | k + 1 => match bst f lo k with
    | none => some (f (lo + (k : Int)), lo + (k : Int))
    | some b => if b.1 < f (lo + (k : Int)) then some (f (lo + (k : Int)), lo + (k : Int)) else some b
theorem bst_some {f : Int → Nat} {lo : Int} : ∀ {k : Nat}, 0 < k → ∃ b, bst f lo k = some b
  | k + 1, _ => by
    unfold bst
    split
    · exact ⟨_, rfl⟩
    · split <;> exact ⟨_, rfl⟩
theorem bst_rng {f : Int → Nat} {lo : Int} : ∀ {k : Nat} {b : Nat × Int}, bst f lo k = some b → lo ≤ b.2 ∧ b.2 < lo + (k : Int)
  | 0, b, h => by cases h
  | k + 1, b, h => by
    unfold bst at h
    split at h
    · rw [← Option.some.inj h]; show lo ≤ lo + (k : Int) ∧ lo + (k : Int) < _; omega
    · rename_i b' e
      have := bst_rng e
      split at h
      · rw [← Option.some.inj h]; show lo ≤ lo + (k : Int) ∧ lo + (k : Int) < _; omega
      · rw [← Option.some.inj h]; omega
def optB : Option (Nat × Int) → D
  | none => .non
  | some b => .tup [.int (b.1 : Int), .int b.2]
def vals (l : Cu) : List Int := l.map fun e => e.2
theorem vals_at {l : Cu} {k : Nat} (h : k < l.length) : atF ((vals l).map D.int) (k : Int) = some (.int (vI l k)) := by
  unfold vals
  rw [atF_nat, List.map_map, List.getElem?_map, List.getElem?_eq_getElem h]
  unfold vI
  rw [List.getD_eq_getElem?_getD, List.getElem?_eq_getElem h]
  rfl
theorem vals_mm {l : Cu} (h : Drawn l) : ∃ m M : Int, (vals l).min? = some m ∧ (vals l).max? = some M ∧ m ≤ M ∧ 0 ≤ m ∧ M ≤ 24 := by
  have hn := h.low.c.n1
  have hne : vals l ≠ [] := fun z => by have := congrArg List.length z; unfold vals at this; rw [List.length_map] at this; simp at this; rw [this] at hn; simp at hn
  have b : ∀ x ∈ vals l, 0 ≤ x ∧ x ≤ 24 := by
    intro x hx
    obtain ⟨e, he, rfl⟩ := List.mem_map.mp hx
    obtain ⟨i, hi, e1⟩ := List.getElem_of_mem he
    have := h.v i hi
    unfold vI at this
    rw [List.getD_eq_getElem?_getD, List.getElem?_eq_getElem hi] at this
    rw [← e1]
    exact this
  obtain ⟨m, hm, e⟩ := min_of hne
  cases hM : (vals l).max? with
  | none => exact absurd (List.max?_eq_none_iff.mp hM) hne
  | some M =>
    have h1 := List.max?_mem hM
    have h2 := (List.max?_le_iff hM).mp (Int.le_refl M) m hm
    exact ⟨m, M, e, rfl, h2, (b m hm).1, (b M h1).2⟩
theorem worst_ok {l : Cu} (h : Drawn l) {m M : Int} (e1 : (vals l).min? = some m) (e2 : (vals l).max? = some M) (hm : m ≤ M) (m0 : 0 ≤ m) (m1 : M ≤ 24) :
    W (F_worst_value [.lst true (l.map pI)]) fun r => ∃ b, bst (fun v => cn l v l.length) m (M + 1 - m).toNat = some b ∧ r = (.int b.2, [.lst true (l.map pI)]) := by
  have hn1 := h.low.c.n1
  have hn2 := h.low.c.n2
  unfold F_worst_value
  rw [W_fnD rfl]
  unfold d_worst_value
  walk_at "ev"
  refine W_compM pI l (fun _ => true) (fun e => .int e.2) (by omega) (fun k => itK_lst rfl (frz_pI l) k) ?_ ?_
  · rintro e he
    walk_at "ev"
  rw [List.filter_eq_self.mpr (fun _ _ => rfl), show l.map (fun e : Int × Int => D.int e.2) = (vals l).map D.int by unfold vals; rw [List.map_map]; rfl]
  walk_at "ev"
  rw [e1, e2]
  walk_at "ev"
  rw [W_ok (by omega)]
  refine W_range (lo := m) (fun k ρ => ∃ x2 x3 x5, ρ = [.lst true (l.map pI), .lst true ((vals l).map D.int), x2, x3, optB (bst (fun v => cn l v l.length) m k), x5]) ⟨_, _, _, rfl⟩ ?_ ?_
  · rintro k ρ hk ⟨x2, x3, x5, rfl⟩
    have hv : m + (k : Int) ≤ 24 := by omega
    walk_at "ev"
    rw [W_eq (whole_ok (n := m + (k : Int)))]
    walk_at "ev"
    refine W_mono (years_ok h.low.c (lev_sz (lev_int (n := m + (k : Int)) (by omega)) (m := 9) (by decide)) (by decide)) ?_
    rintro r ⟨F, rfl, sf⟩
    have hl := years_len h.low.c sf
    walk_at "ev"
    rw [List.length_map, hl]
    have st : bst (fun v => cn l v l.length) m (k + 1) = match bst (fun v => cn l v l.length) m k with
      | none => some (cn l (m + (k : Int)) l.length, m + (k : Int))
      | some b => if b.1 < cn l (m + (k : Int)) l.length then some (cn l (m + (k : Int)) l.length, m + (k : Int)) else some b := rfl
    cases hb : bst (fun v => cn l v l.length) m k with
    | none =>
      rw [hb] at st
      rw [show optB none = D.non from rfl]
      walk_at "ev"
      rw [st]
      exact ⟨_, _, _, rfl⟩
    | some b =>
      rw [hb] at st
      rw [show optB (some b) = D.tup [.int (b.1 : Int), .int b.2] from rfl]
      walk_at "ev"
      replace st : bst (fun v => cn l v l.length) m (k + 1) = if b.1 < cn l (m + (k : Int)) l.length then some (cn l (m + (k : Int)) l.length, m + (k : Int)) else some b := st
      split
      · rename_i c
        rw [if_pos (by omega)] at st
        rw [st]
        exact ⟨_, _, _, rfl⟩
      · rename_i c
        rw [if_neg (by omega)] at st
        rw [st]
        exact ⟨_, _, _, rfl⟩
  · rintro ρ ⟨x2, x3, x5, rfl⟩
    obtain ⟨b, hb⟩ := bst_some (f := fun v => cn l v l.length) (lo := m) (k := (M + 1 - m).toNat) (by omega)
    rw [hb, show optB (some b) = D.tup [.int (b.1 : Int), .int b.2] from rfl]
    walk_at "ev"
    exact ⟨b, rfl, rfl⟩
end Lk18
end
section
set_option Elab.async false
set_option linter.all false
set_option maxRecDepth 100000
set_option maxHeartbeats 4000000
set_option exponentiation.threshold 5000
open PySem Mv Mv.PreA
local macro_rules | `(tactic| walk_at "ev") => `(tactic| try simp only [↓W_bCons, ↓W_bNil, ↓W_bBrk, ↓W_bCnt, ↓W_bExp, ↓W_bRet, ↓W_bRetN, ↓W_bIf, ↓W_bAsg, ↓W_bPar, ↓W_bAug, ↓W_eC, ↓W_eV, ↓W_eM, ↓W_hV, ↓W_hE, ↓W_eFz, ↓W_e1, ↓W_e2, ↓W_aNil, ↓W_aCons, ↓W_eN, ↓W_eTup, ↓W_eLst, ↓W_eCall, ↓W_eMut, ↓W_eMt, ↓W_eIf, ↓W_eAn, ↓W_eOr, ↓W_eNo, ↓W_eJ0, ↓W_eJ1, ↓W_tT, ↓W_tB, ↓W_tNo, ↓W_tAn, ↓W_tOr, ↓W_tAll, ↓W_gNm, ↓W_gsNil, ↓W_gsCons, ↓W_gTp, ↓W_gTpL, ↓W_gIx, ↓W_bFor, ↓W_bWhile, ↓W_iRg1, ↓W_iRg2, ↓W_iSq, ↓W_eLc, ↓W_eSl, ↓W_pN, ↓W_pS, ↓W_iEn, ↓W_iZp, ↓W_iRv, ↓W_iRg3, ↓W_iRgV, ↓W_eCh, ↓W_chIf, ↓W_bind, ↓W_map, ↓W_some, ↓W_none,
  Hd.get, List.getElem?_cons_zero, List.getElem?_cons_succ, List.getD_cons_zero, List.getD_cons_succ, List.set_cons_zero, List.set_cons_succ, List.length_cons, List.length_nil, List.map_cons, List.map_nil, List.replicate, List.cons_append, List.nil_append, Nat.reduceAdd, Nat.reduceSub, Nat.reduceLeDiff, Nat.zero_add,
  D.frz, D.frzL, D.fz, D.fzL, tru_b, tru_i, tru_n, tru_l, tru_t, tru_c, tms, wipeD, unw, lend, unlend, keepL, Option.map_some, Option.bind_some, Bool.and_true, Bool.true_and, Bool.not_true, Bool.not_false, ↓reduceIte, if_true, if_false, Bool.false_eq_true, true_and, and_true, ite_b, ite_nb, vv_fmtI, vv_fmtS, vv_reprI, vv_reprS, vv_addS, vv_augI, vv_augS, vv_lenS, vv_eqS, vv_neS, vv_addL, vv_addT,
  vv_add, vv_sub, vv_mul, vv_div, vv_mod, vv_pow, vv_shl, vv_shr, vv_neg, vv_lt, vv_le, vv_gt, vv_ge, vv_int, vv_intS, vv_intb, vv_abs, vv_gcd, vv_max2, vv_min2, vv_lenL, vv_lenC, vv_lenT, vv_idxL, vv_idxC, vv_idxT, vv_eqI, vv_eqB, vv_neI, vv_list, vv_listT, vv_tuple, vv_tupleT, vv_sum, vv_slL, vv_slS, vv_slT, vv_range, vv_index, vv_count, isL_l, isL_c, lenL_l, lenL_c, kindL, vv_maxL, vv_minL, vv_strI, vv_app, vv_isNN, vv_isIN, vv_isSN, vv_isBN, vv_isLN, vv_isTN, vv_isBB, vv_isNB, vv_isIB, vv_isSB, vv_isLB, vv_isTB, vv_inNN, vv_inIN, vv_inSN, vv_inBN, vv_inLN, vv_inTN, vv_inBB, atF0, atF1, atF2, atF3, atF4, atF5, okI, okB, okS, okN, okL, ix0, ix1, ix2, frzL_int, fzL_int, intsD_map, isiI_int, isiI_str, isiI_bool, isiI_list, isiI_tuple, isiS_int, isiS_str, isiS_bool, isiS_list, isiS_tuple, isiB_int, isiB_str, isiB_bool, isiB_list, isiB_tuple, isiL_int, isiL_str, isiL_bool, isiL_list, isiL_tuple, isiT_int, isiT_str, isiT_bool, isiT_list, isiT_tuple, isiN_int, isiN_str, isiN_bool, isiN_list, isiN_tuple])
local macro_rules | `(tactic| walk_at "mu") => `(tactic| repeat (first | (rw [W_ok (MulOk.right (by omega))]; walk_at "ev") | (rw [W_ok (MulOk.left (by omega))]; walk_at "ev") | (rw [W_ok (divok (by omega) (by omega))]; walk_at "ev") | (rw [W_ok (by omega)]; walk_at "ev")))
namespace Lk18
noncomputable def sfB : Ev → Option Out := bCons (bAsg (eCall 2 F_law_pick (aCons (hV 0) (aCons (hE (eFz (eLst (aCons (hE (eC (.int 0))) (aCons (hE (eC (.int 1))) (aCons (hE (eC (.int 2))) (aCons (hE (eC (.int 5))) aNil))))))) aNil))) (gNm 6)) (bCons (bAsg (e2 gSubt (hE (e2 gAdd (hV 3) (hE (eCall 2 F_law_draw (aCons (hV 0) (aCons (hE (e2 gAdd (hE (e2 gMul (hE (eC (.int 2))) (hV 6))) (hE (eC (.int 1))))) aNil)))))) (hV 6)) (gNm 7)) (bCons (bIf (tB' (e2 gEq (hE (eCall 2 F_law_draw (aCons (hV 0) (aCons (hE (eC (.int 6))) aNil)))) (hE (eC (.int 0))))) (bAsg (eCall 2 F_law_draw (aCons (hV 0) (aCons (hE (eC (.int 30))) aNil))) (gNm 7)) (bNil)) (bExp (eMut 4 gApp (aCons (hE (eFz (eTup (aCons (hE (eN gMax2 (aCons (hE (eC (.int 0))) (aCons (hV 7) aNil)))) (aCons (hE (eV 6)) aNil))))) aNil)))))
noncomputable def sfI : Ev → Option Out := bIf (tB' (e2 gEq (hE (e2 gIdx (hV 12) (hV 16))) (hV 7))) (bAsg (e2 gAdd (hV 15) (hE (eN gInt (aCons (hE (eOr (e2 gEq (hV 16) (hE (eC (.int 0)))) (e2 gNe (hE (e2 gIdx (hV 12) (hE (e2 gSubt (hV 16) (hE (eC (.int 1))))))) (hV 7)))) aNil)))) (gNm 15)) (bIf (tAn (tB' (e2 gGt (hV 16) (hE (eC (.int 0))))) (tB' (e2 gLt (hE (e2 gMul (hE (e2 gSubt (hE (e2 gIdx (hV 12) (hV 16))) (hV 7))) (hE (e2 gSubt (hE (e2 gIdx (hV 12) (hE (e2 gSubt (hV 16) (hE (eC (.int 1))))))) (hV 7))))) (hE (eC (.int 0)))))) (bAsg (e2 gAdd (hV 15) (hE (eC (.int 1)))) (gNm 15)) (bNil))
noncomputable def sfV : Ev → Option Out := bCons (bAsg (eC (.int 0)) (gNm 15)) (bCons (bFor (iRg1 (aCons (hE (eN gLen (aCons (hV 12) aNil))) aNil)) (gNm 16) sfI) (bIf (tOr' (tB' (e2 (gIsB false) (hV 14) (hE (eC .non)))) (tB' (e2 gGt (hV 15) (hE (e2 gIdx (hV 14) (hE (eC (.int 0)))))))) (bAsg (eTup (aCons (hE (eV 15)) (aCons (hE (eV 7)) aNil))) (gNm 14)) (bNil)))
theorem d_law_samples_fit_cut : d_law_samples_fit = bCons (bAsg (eCall 1 F_law_curve (aCons (hV 0) aNil)) (gNm 1)) (bCons (bAsg (eN gList (aCons (hV 1) aNil)) (gNm 2)) (bCons (bAsg (e2 gIdx (hE (eCall 2 F_law_pick (aCons (hV 0) (aCons (hV 1) aNil)))) (hE (eC (.int 1)))) (gNm 3)) (bCons (bAsg (eLst (aNil)) (gNm 4)) (bCons (bFor (iRg1 (aCons (hE (eCall 2 F_law_draw (aCons (hV 0) (aCons (hE (eC (.int 4))) aNil)))) aNil)) (gNm 5) sfB) (bCons (bAsg (eLc [9] (iSq (hV 4)) (gNm 9) (tAll) (eFz (eTup (aCons (hE (eFz (eTup (aCons (hE (e2 gSubt (hE (e2 gIdx (hV 9) (hE (eC (.int 0))))) (hE (e2 gIdx (hV 9) (hE (eC (.int 1))))))) (aCons (hE (eC (.int 1))) aNil))))) (aCons (hE (eFz (eTup (aCons (hE (e2 gAdd (hE (e2 gIdx (hV 9) (hE (eC (.int 0))))) (hE (e2 gIdx (hV 9) (hE (eC (.int 1))))))) (aCons (hE (eC (.int 1))) aNil))))) aNil))))) (gNm 8)) (bCons (bAsg (eN gList (aCons (hV 4) aNil)) (gNm 10)) (bCons (bAsg (eCall 2 F_law_stretches (aCons (hV 1) (aCons (hV 8) aNil))) (gNm 11)) (bCons (bIf (tOr' (tNo (tT (hE (eCall 3 F_law_twice (aCons (hE (eCall 2 F_dated (aCons (hV 2) (aCons (hV 10) aNil)))) (aCons (hE (eFz (eCall 2 F_dated (aCons (hV 2) (aCons (hV 10) aNil))))) (aCons (hV 11) aNil))))))) (tB' (e2 gNe (hV 10) (hV 4)))) (bRet (eC (.bl false))) (bNil)) (bCons (bAsg (eLc [13] (iSq (hV 1)) (gNm 13) (tAll) (e2 gIdx (hV 13) (hE (eC (.int 1))))) (gNm 12)) (bCons (bAsg (eC .non) (gNm 14)) (bCons (bFor (iRg2 (aCons (hE (eN gMinL (aCons (hV 12) aNil))) (aCons (hE (e2 gAdd (hE (eN gMaxL (aCons (hV 12) aNil))) (hE (eC (.int 1))))) aNil))) (gNm 7) sfV) (bRet (eAn (eCall 2 F_law_same (aCons (hE (eFz (eCall 1 F_worst_value (aCons (hV 2) aNil)))) (aCons (hE (e2 gIdx (hV 14) (hE (eC (.int 1))))) aNil))) (e2 gEq (hV 2) (hV 1))))))))))))))) := rfl
theorem levs_at {l : Cu} {k : Nat} (h : k < l.length) : atF ((vals l).map D.int) (k : Int) = some (.int (vI l k)) := vals_at h
theorem levs_pr {l : Cu} {k : Nat} (h : k < l.length) (h0 : 0 < k) : atF ((vals l).map D.int) ((k : Int) - 1) = some (.int (vI l (k - 1))) := by
  rw [show (k : Int) - 1 = ((k - 1 : Nat) : Int) by omega]
  exact vals_at (by omega)
theorem vals_len {l : Cu} : (vals l).length = l.length := List.length_map _
theorem cn_succ {l : Cu} {v : Int} {k : Nat} : cn l v (k + 1) = cn l v k + dl l v k := rfl
theorem sfI_ok {l : Cu} {v : Int} {k : Nat} {x0 x1 x2 x3 x4 x5 x6 x8 x9 x10 x11 x12 x13 x14 : D} {Q : Out → Prop} (h : Drawn l) (hk : k < l.length) (hv : 0 ≤ v ∧ v ≤ 24)
    (hQ : Q (.nx [x0, x1, x2, x3, x4, x5, x6, .int v, x8, x9, x10, x11, .lst true ((vals l).map D.int), x13, x14, .int (cn l v (k + 1) : Nat), .int k])) :
    W (sfI [x0, x1, x2, x3, x4, x5, x6, .int v, x8, x9, x10, x11, .lst true ((vals l).map D.int), x13, x14, .int (cn l v k : Nat), .int k]) Q := by
  have b1 := h.v k hk
  rw [cn_succ] at hQ
  unfold sfI
  walk_at "ev"
  rw [levs_at hk]
  walk_at "ev"
  unfold dl at hQ
  by_cases c : vI l k = v
  · rw [if_pos (by simpa using c)]
    rw [if_pos c] at hQ
    by_cases c0 : k = 0
    · subst c0
      walk_at "ev"
      rw [if_pos (Or.inl rfl)] at hQ
      exact hQ
    · rw [if_neg (by simpa using c0)]
      rw [levs_pr hk (by omega)]
      walk_at "ev"
      by_cases c1 : vI l (k - 1) = v
      · rw [if_neg (by omega)] at hQ
        simp only [c1, decide_true, Bool.not_true, Bool.false_eq_true, if_false]
        exact hQ
      · rw [if_pos (Or.inr c1)] at hQ
        simp only [c1, decide_false, Bool.not_false, if_true]
        exact hQ
  · rw [if_neg (by simpa using c)]
    rw [if_neg c] at hQ
    by_cases c0 : 0 < k
    · have b2 := h.v (k - 1) (by omega)
      rw [if_pos (by simpa using c0)]
      rw [levs_at hk]
      walk_at "ev"
      rw [levs_pr hk c0]
      walk_at "ev"
      rw [W_ok (MulOk.right (by omega))]
      walk_at "ev"
      by_cases c1 : (vI l k - v) * (vI l (k - 1) - v) < 0
      · rw [if_pos ⟨c0, c1⟩] at hQ
        rw [if_pos (by simpa using c1)]
        exact hQ
      · rw [if_neg (by simp [c1])] at hQ
        rw [if_neg (by simpa using c1)]
        exact hQ
    · rw [if_neg (by simp [c0])] at hQ
      rw [if_neg (by simpa using c0)]
      exact hQ
theorem bst_succ (f : Int → Nat) (lo : Int) (k : Nat) : bst f lo (k + 1) = match bst f lo k with
    | none => some (f (lo + (k : Int)), lo + (k : Int))
    | some b => if b.1 < f (lo + (k : Int)) then some (f (lo + (k : Int)), lo + (k : Int)) else some b := rfl
theorem sfV_ok {l : Cu} {m : Int} {j : Nat} {x0 x1 x2 x3 x4 x5 x6 x8 x9 x10 x11 x13 x15 x16 : D} {Q : Out → Prop} (h : Drawn l) (hv : 0 ≤ m + (j : Int) ∧ m + (j : Int) ≤ 24)
    (hQ : ∀ x15 x16, Q (.nx [x0, x1, x2, x3, x4, x5, x6, .int (m + (j : Int)), x8, x9, x10, x11, .lst true ((vals l).map D.int), x13, optB (bst (fun v => cn l v l.length) m (j + 1)), x15, x16])) :
    W (sfV [x0, x1, x2, x3, x4, x5, x6, .int (m + (j : Int)), x8, x9, x10, x11, .lst true ((vals l).map D.int), x13, optB (bst (fun v => cn l v l.length) m j), x15, x16]) Q := by
  have hn2 := h.low.c.n2
  rw [bst_succ] at hQ
  generalize m + (j : Int) = v at *
  generalize bst (fun v => cn l v l.length) m j = o at *
  unfold sfV
  walk_at "ev"
  rw [List.length_map, vals_len]
  rw [W_ok (by omega)]
  refine W_range (lo := 0) (fun k ρ => ∃ x16, ρ = [x0, x1, x2, x3, x4, x5, x6, .int v, x8, x9, x10, x11, .lst true ((vals l).map D.int), x13, optB o, .int (cn l v k : Nat), x16]) ⟨_, rfl⟩ ?_ ?_
  · rintro k ρ hk ⟨x16, rfl⟩
    rw [Int.toNat_natCast] at hk
    walk_at "ev"
    rw [Int.zero_add]
    exact sfI_ok (x12 := x0) h hk hv ⟨_, rfl⟩
  · rintro ρ ⟨x16, rfl⟩
    rw [Int.toNat_natCast]
    cases o with
    | none =>
      rw [show optB none = D.non from rfl]
      walk_at "ev"
      exact hQ _ _
    | some b =>
      rw [show optB (some b) = D.tup [.int (b.1 : Int), .int b.2] from rfl]
      walk_at "ev"
      by_cases c : b.1 < cn l v l.length
      · rw [if_pos (by simpa using c)]
        simp only [if_pos c] at hQ
        exact hQ _ _
      · rw [if_neg (by simpa using c)]
        simp only [if_neg c] at hQ
        exact hQ _ _
theorem sok_snoc {S : List (Int × Int)} {a b : Int} (h : SOk S) (ha : 0 ≤ a ∧ a ≤ 60) (hb : 0 ≤ b ∧ b ≤ 5) : SOk (S ++ [(a, b)]) := by
  intro e he
  rcases List.mem_append.mp he with he | he
  · exact h e he
  · rw [List.mem_singleton.mp he]; exact ⟨ha.1, ha.2, hb.1, hb.2⟩
theorem sfB_ok {ds : List Int} {n tl : Int} {S : List (Int × Int)} {x1 x2 x5 x6 x7 x8 x9 x10 x11 x12 x13 x14 x15 x16 : D} {Q : Out → Prop} (hn : 0 ≤ n) (ht : 0 ≤ tl ∧ tl ≤ 24) (hS : SOk S) (hl : S.length < 10)
    (hQ : ∀ n' e x6 x7, 0 ≤ n' → SOk (S ++ [e]) → Q (.nx [bx ds n', x1, x2, .int tl, .lst true ((S ++ [e]).map pI), x5, x6, x7, x8, x9, x10, x11, x12, x13, x14, x15, x16])) :
    W (sfB [bx ds n, x1, x2, .int tl, .lst true (S.map pI), x5, x6, x7, x8, x9, x10, x11, x12, x13, x14, x15, x16]) Q := by
  unfold sfB
  walk_at "ev"
  obtain ⟨er, he, e⟩ := pick_ex (ds := ds) (n := n) (o := false) [0, 1, 2, 5] (by omega) (by decide)
  simp only [List.map_cons, List.map_nil] at e
  rw [W_eq e]
  simp only [List.mem_cons, List.not_mem_nil, or_false] at he
  walk_at "ev"
  rw [W_ok (MulOk.right (by omega))]
  walk_at "ev"
  obtain ⟨d, e, d1, d2⟩ := draw_ex (ds := ds) (n := n + 1) (m := 2 * er + 1) (by omega) (by omega)
  rw [W_eq e]
  walk_at "ev"
  obtain ⟨c, e, c1, c2⟩ := draw_ex (ds := ds) (n := n + 1 + 1) (m := 6) (by omega) (by omega)
  rw [W_eq e]
  walk_at "ev"
  have key : ∀ n' v x, 0 ≤ n' → v ≤ 60 → Q (.nx [bx ds n', x1, x2, .int tl, .lst true (S.map pI ++ [.tup [.int (if v > 0 then v else 0), .int er]]), x5, .int er, x, x8, x9, x10, x11, x12, x13, x14, x15, x16]) := by
    intro n' v x hn' hv
    have := hQ n' ((if v > 0 then v else 0), er) (.int er) x hn' (sok_snoc hS (by split <;> omega) (by omega))
    rw [List.map_append] at this
    exact this
  have hl2 : (S.map pI).length < 16777216 := by rw [List.length_map]; omega
  split
  · obtain ⟨v, e, v1, v2⟩ := draw_ex (ds := ds) (n := n + 1 + 1 + 1) (m := 30) (by omega) (by omega)
    rw [W_eq e]
    walk_at "ev"
    try rw [W_ok hl2]
    exact key _ _ _ (by omega) (by omega)
  · walk_at "ev"
    try rw [W_ok hl2]
    exact key _ _ _ (by omega) (by omega)
theorem bS_map (S : List (Int × Int)) : S.map (fun e => D.tup [.tup [.int (e.1 - e.2), .int 1], .tup [.int (e.1 + e.2), .int 1]]) = (bS S).map pR := by
  unfold bS
  rw [List.map_map]
  refine List.map_congr_left fun e _ => ?_
  show _ = D.tup [rt _, rt _]
  rw [rt_int, rt_int]
theorem samples_ok {ds : List Int} {n : Int} (hn : 0 ≤ n) : W (F_law_samples_fit [bx ds n]) fun r => ∃ n', r = (.bl true, [bx ds n']) ∧ 0 ≤ n' := by
  unfold F_law_samples_fit
  rw [W_fnD rfl, d_law_samples_fit_cut]
  walk_at "ev"
  refine W_mono (curve_ok hn) ?_
  rintro r ⟨l, n1, rfl, hn1, hD⟩
  have hl1 := hD.low.c.n1
  have hl2 := hD.low.c.n2
  walk_at "ev"
  rw [W_ok (frz_pI l)]
  walk_at "ev"
  obtain ⟨j, hj, e⟩ := pickP (ds := ds) (n := n1) (o := true) (l := l) hn1 (by intro z; rw [z] at hl1; simp at hl1)
  rw [W_eq e]
  have hvj := hD.v j hj
  walk_at "ev"
  obtain ⟨m, e, m1, m2⟩ := draw_ex (ds := ds) (n := n1 + 1) (m := 4) (by omega) (by omega)
  rw [W_eq e]
  walk_at "ev"
  rw [W_ok (by omega)]
  refine W_range (lo := 0) (fun k ρ => ∃ n' S x5 x6 x7, ρ = [bx ds n', .lst true (l.map pI), .lst true (l.map pI), .int (vI l j), .lst true (S.map pI), x5, x6, x7, .any, .any, .any, .any, .any, .any, .any, .any, .any] ∧ 0 ≤ n' ∧ SOk S ∧ S.length = k) ⟨_, [], _, _, _, rfl, by omega, fun _ z => absurd z List.not_mem_nil, rfl⟩ ?_ ?_
  · rintro k ρ hk ⟨n', S, x5, x6, x7, rfl, hn', hS, hSl⟩
    walk_at "ev"
    exact sfB_ok hn' hvj hS (by omega) fun n2 e x6 x7 h1 h2 => ⟨_, _, _, _, _, rfl, h1, h2, by rw [List.length_append, hSl]; rfl⟩
  rintro ρ ⟨n', S, x5, x6, x7, rfl, hn', hS, hSl⟩
  have hSl3 : S.length ≤ 3 := by omega
  walk_at "ev"
  refine W_compM pI S (fun _ => true) (fun e => .tup [.tup [.int (e.1 - e.2), .int 1], .tup [.int (e.1 + e.2), .int 1]]) (by omega) (fun k => itK_lst rfl (frz_pI S) k) ?_ ?_
  · rintro e he
    walk_at "ev"
  rw [List.filter_eq_self.mpr (fun _ _ => rfl), bS_map]
  walk_at "ev"
  rw [W_ok (frz_pI S)]
  walk_at "ev"
  refine W_mono (stretches_ok hD.low (bnd_S hD.low hS hSl3)) ?_
  rintro r ⟨F, rfl, c1, i1, l1, s1⟩
  walk_at "ev"
  refine W_mono (dated_ok hD.low hS hSl3) ?_
  rintro r ⟨F1, rfl, ⟨c2', i2⟩, _, _⟩
  walk_at "ev"
  refine W_mono (dated_ok hD.low hS hSl3) ?_
  rintro r ⟨F2, rfl, ⟨c3, i3⟩, _, _⟩
  obtain rfl : F1 = F := uniq c2' c1 fun u => by rw [i1, i2, allS_iff hD.low hS hSl3]
  obtain rfl : F2 = F1 := uniq c3 c1 fun u => by rw [i1, i3, allS_iff hD.low hS hSl3]
  walk_at "ev"
  rw [fzL_pR]
  refine W_mono (twice_ok (by omega) (sm_St (by omega) s1) (sm_St (by omega) s1) ⟨_, rfl⟩) ?_
  rintro ⟨d, ps⟩ ⟨e1, x, y, e2⟩
  obtain rfl : d = _ := e1
  obtain rfl : ps = _ := e2
  walk_at "ev"
  rw [gNe_emb emb_int2]
  walk_at "ev"
  refine W_compM pI l (fun _ => true) (fun e => .int e.2) (by omega) (fun k => itK_lst rfl (frz_pI l) k) ?_ ?_
  · rintro e he
    walk_at "ev"
  rw [List.filter_eq_self.mpr (fun _ _ => rfl), show l.map (fun e : Int × Int => D.int e.2) = (vals l).map D.int by unfold vals; rw [List.map_map]; rfl]
  walk_at "ev"
  obtain ⟨mn, M, q1, q2, q3, q4', q5⟩ := vals_mm hD
  rw [q1, q2]
  walk_at "ev"
  rw [W_ok (by omega)]
  refine W_range (lo := mn) (fun k ρ => ∃ x5 x6 x7 x8 x9 x10 x11 x13 x15 x16, ρ = [bx ds n', .lst true (l.map pI), .lst true (l.map pI), .int (vI l j), .lst true (S.map pI), x5, x6, x7, x8, x9, x10, x11, .lst true ((vals l).map D.int), x13, optB (bst (fun v => cn l v l.length) mn k), x15, x16]) ⟨_, _, _, _, _, _, _, _, _, _, rfl⟩ ?_ ?_
  · rintro k ρ hk ⟨x5, x6, x7, x8, x9, x10, x11, x13, x15, x16, rfl⟩
    walk_at "ev"
    exact sfV_ok hD (by omega) fun x15 x16 => ⟨_, _, _, _, _, _, _, _, _, _, rfl⟩
  rintro ρ ⟨x5, x6, x7, x8, x9, x10, x11, x13, x15, x16, rfl⟩
  walk_at "ev"
  refine W_mono (worst_ok hD q1 q2 q3 q4' q5) ?_
  rintro r ⟨b, hb, rfl⟩
  have br := bst_rng hb
  rw [hb, show optB (some b) = D.tup [.int (b.1 : Int), .int b.2] from rfl]
  walk_at "ev"
  rw [W_eq (same_ex _ _ (sm_int (n := 7) (by omega)))]
  walk_at "ev"
  rw [gEq_emb emb_int2]
  walk_at "ev"
  exact ⟨_, rfl, hn'⟩
end Lk18
end
section
set_option Elab.async false
set_option linter.all false
set_option maxRecDepth 100000
set_option maxHeartbeats 4000000
set_option exponentiation.threshold 5000
open PySem Mv Mv.PreA
local macro_rules | `(tactic| walk_at "ev") => `(tactic| try simp only [↓W_bCons, ↓W_bNil, ↓W_bBrk, ↓W_bCnt, ↓W_bExp, ↓W_bRet, ↓W_bRetN, ↓W_bIf, ↓W_bAsg, ↓W_bPar, ↓W_bAug, ↓W_eC, ↓W_eV, ↓W_eM, ↓W_hV, ↓W_hE, ↓W_eFz, ↓W_e1, ↓W_e2, ↓W_aNil, ↓W_aCons, ↓W_eN, ↓W_eTup, ↓W_eLst, ↓W_eCall, ↓W_eMut, ↓W_eMt, ↓W_eIf, ↓W_eAn, ↓W_eOr, ↓W_eNo, ↓W_eJ0, ↓W_eJ1, ↓W_tT, ↓W_tB, ↓W_tNo, ↓W_tAn, ↓W_tOr, ↓W_tAll, ↓W_gNm, ↓W_gsNil, ↓W_gsCons, ↓W_gTp, ↓W_gTpL, ↓W_gIx, ↓W_bFor, ↓W_bWhile, ↓W_iRg1, ↓W_iRg2, ↓W_iSq, ↓W_eLc, ↓W_eSl, ↓W_pN, ↓W_pS, ↓W_iEn, ↓W_iZp, ↓W_iRv, ↓W_iRg3, ↓W_iRgV, ↓W_eCh, ↓W_chIf, ↓W_bind, ↓W_map, ↓W_some, ↓W_none,
  Hd.get, List.getElem?_cons_zero, List.getElem?_cons_succ, List.getD_cons_zero, List.getD_cons_succ, List.set_cons_zero, List.set_cons_succ, List.length_cons, List.length_nil, List.map_cons, List.map_nil, List.replicate, List.cons_append, List.nil_append, Nat.reduceAdd, Nat.reduceSub, Nat.reduceLeDiff, Nat.zero_add,
  D.frz, D.frzL, D.fz, D.fzL, tru_b, tru_i, tru_n, tru_l, tru_t, tru_c, tms, wipeD, unw, lend, unlend, keepL, Option.map_some, Option.bind_some, Bool.and_true, Bool.true_and, Bool.not_true, Bool.not_false, ↓reduceIte, if_true, if_false, Bool.false_eq_true, true_and, and_true, ite_b, ite_nb, vv_fmtI, vv_fmtS, vv_reprI, vv_reprS, vv_addS, vv_augI, vv_augS, vv_lenS, vv_eqS, vv_neS, vv_addL, vv_addT,
  vv_add, vv_sub, vv_mul, vv_div, vv_mod, vv_pow, vv_shl, vv_shr, vv_neg, vv_lt, vv_le, vv_gt, vv_ge, vv_int, vv_intS, vv_intb, vv_abs, vv_gcd, vv_max2, vv_min2, vv_lenL, vv_lenC, vv_lenT, vv_idxL, vv_idxC, vv_idxT, vv_eqI, vv_eqB, vv_neI, vv_list, vv_listT, vv_tuple, vv_tupleT, vv_sum, vv_slL, vv_slS, vv_slT, vv_range, vv_index, vv_count, isL_l, isL_c, lenL_l, lenL_c, kindL, vv_maxL, vv_minL, vv_strI, vv_app, vv_isNN, vv_isIN, vv_isSN, vv_isBN, vv_isLN, vv_isTN, vv_isBB, vv_isNB, vv_isIB, vv_isSB, vv_isLB, vv_isTB, vv_inNN, vv_inIN, vv_inSN, vv_inBN, vv_inLN, vv_inTN, vv_inBB, atF0, atF1, atF2, atF3, atF4, atF5, okI, okB, okS, okN, okL, ix0, ix1, ix2, frzL_int, fzL_int, intsD_map, isiI_int, isiI_str, isiI_bool, isiI_list, isiI_tuple, isiS_int, isiS_str, isiS_bool, isiS_list, isiS_tuple, isiB_int, isiB_str, isiB_bool, isiB_list, isiB_tuple, isiL_int, isiL_str, isiL_bool, isiL_list, isiL_tuple, isiT_int, isiT_str, isiT_bool, isiT_list, isiT_tuple, isiN_int, isiN_str, isiN_bool, isiN_list, isiN_tuple])
local macro_rules | `(tactic| walk_at "mu") => `(tactic| repeat (first | (rw [W_ok (MulOk.right (by omega))]; walk_at "ev") | (rw [W_ok (MulOk.left (by omega))]; walk_at "ev") | (rw [W_ok (divok (by omega) (by omega))]; walk_at "ev") | (rw [W_ok (by omega)]; walk_at "ev")))
namespace Lk18
theorem q_of (a : Int) : (((4 * a : Int) : Rat)) / 4 = (a : Rat) := by
  rw [Rat.intCast_mul, show ((4 : Int) : Rat) = 4 from rfl]
  grind
theorem e8_of (a : Int) : e8 (8 * a) = (a : Rat) := by
  unfold e8
  rw [Rat.intCast_mul, show ((8 : Int) : Rat) = 8 from rfl]
  grind
def qL (L : Lot) : Lot := L.map fun e => (4 * e.1, 4 * e.2)
theorem q_map (L : Lot) : (qR (qL L)).map pR = L.map fun e => D.tup [.tup [.int e.1, .int 1], .tup [.int e.2, .int 1]] := by
  unfold qR qL
  rw [List.map_map, List.map_map]
  refine List.map_congr_left fun e _ => ?_
  show D.tup [rt _, rt _] = _
  dsimp only
  rw [q_of, q_of, rt_int, rt_int]
theorem mid_whole {L : Lot} {o : Bool} {m : Int} (h : LotOk (qL L)) (hne : 0 < L.length) (hm : midE (qL L) (tot (qL L)) = some (8 * m)) : F_middle_year [.lst o (L.map fun e => D.tup [.tup [.int e.1, .int 1], .tup [.int e.2, .int 1]])] = some (.tup [.int m, .int 1], [.lst o (L.map fun e => D.tup [.tup [.int e.1, .int 1], .tup [.int e.2, .int 1]])]) := by
  have := middle_ok (o := o) h (by unfold qL; rw [List.length_map]; exact hne) hm
  rw [q_map, e8_of, rt_int] at this
  exact this
theorem law_true (ns : List Int) (hns : ns.length ≤ 63) : ∃ bs, F_law [.cst (ns.map D.int)] = some (.bl true, bs) := by
  have key : W (F_law [.cst (ns.map D.int)]) fun r => r.1 = .bl true := by
    unfold F_law
    rw [W_fnD rfl]
    unfold d_law
    walk_at "ev"
    obtain ⟨ds, h0, _, e⟩ := digits_ex (ns := ns) (a := 0) (b := 24) hns (by omega) (by omega) (by omega)
    rw [W_eq e]
    walk_at "ev"
    rw [W_ok (by omega)]
    refine W_range (lo := 0) (fun k ρ => ∃ (n : Int) (x2 : D), ρ = [.cst (ns.map D.int), bx ds n, x2, .any, .any] ∧ 0 ≤ n) ⟨0, _, rfl, by omega⟩ ?_ ?_
    · rintro k ρ hk ⟨n, x2, rfl, hn⟩
      walk_at "ev"
      refine W_mono (samples_ok (ds := ds) hn) ?_
      rintro r ⟨n1, rfl, hn1⟩
      walk_at "ev"
      refine W_mono (lists_ok (ds := ds) hn1) ?_
      rintro r ⟨n2, rfl, hn2⟩
      walk_at "ev"
      exact ⟨_, _, rfl, hn2⟩
    rintro ρ ⟨n, x2, rfl, hn⟩
    walk_at "ev"
    obtain ⟨a, e, a1, a2⟩ := draw_ex (ds := ds) (n := n) (m := 40) hn (by omega)
    rw [W_eq e]
    walk_at "ev"
    have o1 : LotOk (qL [(a, a), (a + 1, a + 1)]) := ⟨by intro e he; simp [qL] at he; rcases he with rfl | rfl <;> (try dsimp only) <;> omega, by simp [qL]; try omega, by intro e he; simp [qL] at he; rcases he with rfl | rfl <;> (try dsimp only) <;> omega, by simp [qL]⟩
    have o3 : LotOk (qL [(a, a + 2), (a + 5, a + 7)]) := ⟨by intro e he; simp [qL] at he; rcases he with rfl | rfl <;> (try dsimp only) <;> omega, by simp [qL]; try omega, by intro e he; simp [qL] at he; rcases he with rfl | rfl <;> (try dsimp only) <;> omega, by simp [qL]⟩
    have q1 : midE (qL [(a, a), (a + 1, a + 1)]) (tot (qL [(a, a), (a + 1, a + 1)])) = some (8 * a) := by
      simp only [qL, List.map_cons, List.map_nil, tot, List.sum_cons, List.sum_nil, midE]
      rw [if_neg (by omega)]
      congr 1
      omega
    have q3 : midE (qL [(a, a + 2), (a + 5, a + 7)]) (tot (qL [(a, a + 2), (a + 5, a + 7)])) = some (8 * (a + 2)) := by
      simp only [qL, List.map_cons, List.map_nil, tot, List.sum_cons, List.sum_nil, midE]
      rw [if_neg (by omega)]
      congr 1
      omega
    have w1 := mid_whole (o := true) o1 (by simp) q1
    have w3 := mid_whole (o := false) o3 (by simp) q3
    simp only [List.map_cons, List.map_nil] at w1 w3
    rw [W_eq w1]
    walk_at "ev"
    have sm1 : ∀ b : Int, 0 ≤ b → b ≤ 100 → Sm 8 (.tup [.int b, .int 1]) (.tup [.int b, .int 1]) := fun b h1 h2 => sm_t2 (sm_int (by omega)) (sm_int (by decide)) ⟨rfl, rfl⟩ ⟨rfl, rfl⟩
    rw [W_eq (same_ex _ _ (sm1 a (by omega) (by omega)))]
    walk_at "ev"
    have w2 := length_ok (L := []) (o := false) ⟨fun _ z => absurd z List.not_mem_nil, List.Pairwise.nil, fun _ z => absurd z List.not_mem_nil, by decide⟩
    rw [show ((qR []).map pR) = [] from rfl, show (tot [] : Int) = 0 from rfl, ci0, show rt 0 = D.tup [.int 0, .int 1] from rt_zero.symm] at w2
    rw [W_eq w2]
    walk_at "ev"
    rw [W_eq (same_ex _ _ (sm1 0 (by omega) (by omega)))]
    walk_at "ev"
    rw [W_eq w3]
    walk_at "ev"
    rw [W_eq (same_ex _ _ (sm1 (a + 2) (by omega) (by omega)))]
    walk_at "ev"
  obtain ⟨⟨d, bs⟩, e, q⟩ := key
  have q' : d = .bl true := q
  subst q'
  exact ⟨bs, e⟩
end Lk18
end
section
set_option Elab.async false
set_option linter.all false
set_option maxRecDepth 100000
set_option maxHeartbeats 4000000
open PySem PySem.W PyProof.Rows
set_option maxHeartbeats 0 in
theorem PySem.Challenge.cw_museumlands_k18_whole_samples_dated_and_holds : PySem.Challenge.rw_museumlands_k18_whole_samples_dated_and.Holds := by
  w_on; o_law; k_head; (case hw => w_witness2)
  k_fill
  refine L2.walk_of (l := PySem.Challenge.rw_museumlands_k18_whole_samples_dated_and) (n := 63) (k := 11) (x := "script") (CX := fun _ => L2.CX0) (sp := fun w => Mv.spL _) rfl (by decide) rfl ⟨rfl, by decide, by decide⟩ (fun w h Y => PySem.W.kIn_of Y) ?F (fun _ _ a ns hl _ hS => ⟨a, ns, rfl, hS, hl, fun _ => rfl⟩) (fun _ _ _ _ _ h => h)
  case F =>
    intro w mg fa h KX G hmg
    refine' Lk18.all_mk KX G hmg Lk18.law_true ?a0 ?l0 ?c0 ?k0 ?a1 ?l1 ?c1 ?k1 ?a2 ?l2 ?c2 ?k2 ?a3 ?l3 ?c3 ?k3 ?a4 ?l4 ?c4 ?k4 ?a5 ?l5 ?c5 ?k5 ?a6 ?l6 ?c6 ?k6 ?a7 ?l7 ?c7 ?k7 ?a8 ?l8 ?c8 ?k8 ?a9 ?l9 ?c9 ?k9 ?a10 ?l10 ?c10 ?k10 ?a11 ?l11 ?c11 ?k11 ?a12 ?l12 ?c12 ?k12 ?a13 ?l13 ?c13 ?k13 ?a14 ?l14 ?c14 ?k14 ?a15 ?l15 ?c15 ?k15 ?a16 ?l16 ?c16 ?k16 ?a17 ?l17 ?c17 ?k17 ?a18 ?l18 ?c18 ?k18 ?a19 ?l19 ?c19 ?k19 ?a20 ?l20 ?c20 ?k20 ?a21 ?l21 ?c21 ?k21 ?a22 ?l22 ?c22 ?k22 ?a23 ?l23 ?c23 ?k23 ?a24 ?l24 ?c24 ?k24 ?a25 ?l25 ?c25 ?k25 ?a26 ?l26 ?c26 ?k26 ?a27 ?l27 ?c27 ?k27 ?a28 ?l28 ?c28 ?k28 ?a29 ?l29 ?c29 ?k29 ?a30 ?l30 ?c30 ?k30 ?a31 ?l31 ?c31 ?k31 ?a32 ?l32 ?c32 ?k32 ?a33 ?l33 ?c33 ?k33 ?a34 ?l34 ?c34 ?k34 ?a35 ?l35 ?c35 ?k35 ?a36 ?l36 ?c36 ?k36 ?z_abs ?z_bool ?z_int ?z_isinstance ?z_len ?z_list ?z_max ?z_min ?z_range ?z_repr ?z_str ?z_sum ?z_tuple ?z_zip ?z_gcd
    (case a0 => k_is); (case l0 => k_is); (case c0 => k_is); (case k0 => k_is); (case a1 => k_is); (case l1 => k_is); (case c1 => k_is); (case k1 => k_is)
    (case a2 => k_is); (case l2 => k_is); (case c2 => k_is); (case k2 => k_is); (case a3 => k_is); (case l3 => k_is); (case c3 => k_is); (case k3 => k_is)
    (case a4 => k_is); (case l4 => k_is); (case c4 => k_is); (case k4 => k_is); (case a5 => k_is); (case l5 => k_is); (case c5 => k_is); (case k5 => k_is)
    (case a6 => k_is); (case l6 => k_is); (case c6 => k_is); (case k6 => k_is); (case a7 => k_is); (case l7 => k_is); (case c7 => k_is); (case k7 => k_is)
    (case a8 => k_is); (case l8 => k_is); (case c8 => k_is); (case k8 => k_is); (case a9 => k_is); (case l9 => k_is); (case c9 => k_is); (case k9 => k_is)
    (case a10 => k_is); (case l10 => k_is); (case c10 => k_is); (case k10 => k_is); (case a11 => k_is); (case l11 => k_is); (case c11 => k_is); (case k11 => k_is)
    (case a12 => k_is); (case l12 => k_is); (case c12 => k_is); (case k12 => k_is); (case a13 => k_is); (case l13 => k_is); (case c13 => k_is); (case k13 => k_is)
    (case a14 => k_is); (case l14 => k_is); (case c14 => k_is); (case k14 => k_is); (case a15 => k_is); (case l15 => k_is); (case c15 => k_is); (case k15 => k_is)
    (case a16 => k_is); (case l16 => k_is); (case c16 => k_is); (case k16 => k_is); (case a17 => k_is); (case l17 => k_is); (case c17 => k_is); (case k17 => k_is)
    (case a18 => k_is); (case l18 => k_is); (case c18 => k_is); (case k18 => k_is); (case a19 => k_is); (case l19 => k_is); (case c19 => k_is); (case k19 => k_is)
    (case a20 => k_is); (case l20 => k_is); (case c20 => k_is); (case k20 => k_is); (case a21 => k_is); (case l21 => k_is); (case c21 => k_is); (case k21 => k_is)
    (case a22 => k_is); (case l22 => k_is); (case c22 => k_is); (case k22 => k_is); (case a23 => k_is); (case l23 => k_is); (case c23 => k_is); (case k23 => k_is)
    (case a24 => k_is); (case l24 => k_is); (case c24 => k_is); (case k24 => k_is); (case a25 => k_is); (case l25 => k_is); (case c25 => k_is); (case k25 => k_is)
    (case a26 => k_is); (case l26 => k_is); (case c26 => k_is); (case k26 => k_is); (case a27 => k_is); (case l27 => k_is); (case c27 => k_is); (case k27 => k_is)
    (case a28 => k_is); (case l28 => k_is); (case c28 => k_is); (case k28 => k_is); (case a29 => k_is); (case l29 => k_is); (case c29 => k_is); (case k29 => k_is)
    (case a30 => k_is); (case l30 => k_is); (case c30 => k_is); (case k30 => k_is); (case a31 => k_is); (case l31 => k_is); (case c31 => k_is); (case k31 => k_is)
    (case a32 => k_is); (case l32 => k_is); (case c32 => k_is); (case k32 => k_is); (case a33 => k_is); (case l33 => k_is); (case c33 => k_is); (case k33 => k_is)
    (case a34 => k_is); (case l34 => k_is); (case c34 => k_is); (case k34 => k_is); (case a35 => k_is); (case l35 => k_is); (case c35 => k_is); (case k35 => k_is)
    (case a36 => k_is); (case l36 => k_is); (case c36 => k_is); (case k36 => k_is); (case z_abs => k_is); (case z_bool => k_is); (case z_int => k_is); (case z_isinstance => k_is)
    (case z_len => k_is); (case z_list => k_is); (case z_max => k_is); (case z_min => k_is); (case z_range => k_is); (case z_repr => k_is); (case z_str => k_is); (case z_sum => k_is)
    (case z_tuple => k_is); (case z_zip => k_is); (case z_gcd => k_is)
end
