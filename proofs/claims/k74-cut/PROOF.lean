import PyProof.Rows.All
import Wide.All
import OpenK.AllK
import Wide.FinOn
import HandS.ForMost
import HandS.ForExc
import HandS.IsInst
import HandS.StrMore
import HandS.Style
import HandS.Wide
import HandS.Zip
import HandS.TupAny
import HandS.More
import PyProof.ListStr
import PyProof.TupleOfStr
import HandS.Conv
import HandS.NoneIn
import HandS.Deep
import HandS.TupSets
import HandS.Small
import KE.GoesZip
import KE.KDictZip
import KE.GoesMore
import HandS.ExcField
import HandS.ExcInit
import HandS.ExcIs
import HandS.Head0
import HandS.Head1
import HandS.Head2
import HandS.HeadHook1
import HandS.HeadHook2
import HandS.HeadHook3
import HandS.HeadHook4
import HandS.HeadWalk
import HandS.Lambda
import HandS.Text
import HandS.TryMany
import PySem.Challenge.RW_twinseam_k74_texts_cut_into_rows
set_option Elab.async false
set_option linter.all false
set_option autoImplicit false
set_option maxRecDepth 100000
set_option maxRecDepth 100000
namespace Tw
open PySem PySem.Spec PyProof.Rows L2

/-! ### trees -/
/-- the written part, and where the things of the top stand, by their numbers -/
structure Ct where
  K : PySem.W.Frag
  G : Nat → Addr
abbrev Ky := Sum Int (List Nat)
inductive Kd where
  | lst
  | ro
  | dct (ks : List Ky)
  | obj (C : Nat) (ns : List Str)
  | hole
inductive D where
  | non | bl (b : Bool) | int (i : Int) | str (l : List Nat) | glb (n : Nat)
  | tup (ds : List D)
  | nd (m : Bool) (k : Kd) (ds : List D)
abbrev D.lst (m : Bool) (ds : List D) : D := .nd m .lst ds

def mkS (l : List Nat) : Str := ⟨l.toArray⟩
theorem mkS_inj {a b : List Nat} (h : mkS a = mkS b) : a = b := by
  have := congrArg (fun s : Str => s.cps.toList) h
  simpa [mkS] using this
theorem mkS_eq (s : Str) : mkS s.cps.toList = s := by cases s; simp [mkS]
def mkK : Ky → Key
  | .inl i => .inl i
  | .inr l => .inr (mkS l)

mutual
def frz : D → D
  | .tup ds => .tup (frzs ds)
  | .nd _ k ds => .nd false k (frzs ds)
  | d => d
def frzs : List D → List D
  | [] => []
  | d :: ds => frz d :: frzs ds
end
theorem frzs_map (ds : List D) : frzs ds = ds.map frz := by
  induction ds with
  | nil => rfl
  | cons d r ih => simp [frzs, ih]
mutual
def isFrz : D → Bool
  | .tup ds => areFrz ds
  | .nd m _ ds => !m && areFrz ds
  | _ => true
def areFrz : List D → Bool
  | [] => true
  | d :: ds => isFrz d && areFrz ds
end

/-- how a cell of a kind lies -/
def Cell (K : Ct) (H : Hp) : Kd → Addr → List V → List Addr → Prop
  | .lst, a, vs, own => H a = some (.lst vs) ∧ own = [a]
  | .ro, _, _, _ => False
  | .hole, _, _, _ => False
  | .dct ks, a, vs, own => ks.length = vs.length ∧ H a = some (.dK ((ks.map mkK).zip vs)) ∧ own = [a]
  | .obj C ns, a, vs, own => ns.length = vs.length ∧ ∃ dx, H a = some (.ins (K.G (C + 1)) dx (ns.zip vs)) ∧ H dx = some (.own a) ∧ dx ≠ a ∧ own = [a, dx]
def FCell (K : Ct) (Z : Hp) : Kd → Addr → List V → Prop
  | .ro, a, vs => SqL K.K Z a vs
  | .hole, _, _ => True
  | k, a, vs => ∃ own, Cell K Z k a vs own

mutual
def Rp (K : Ct) (Z H : Hp) : D → V → List Addr → Prop
  | .non, v, fp => v = .non ∧ fp = []
  | .bl b, v, fp => v = .bl b ∧ fp = []
  | .int i, v, fp => v = .int i ∧ fp = []
  | .str l, v, fp => v = .str (mkS l) ∧ fp = []
  | .glb n, v, fp => v = .ref (K.G (n + 1)) ∧ fp = []
  | .tup ds, v, fp => ∃ a vs, v = .ref a ∧ SqT K.K Z a vs ∧ Rps K Z H ds vs fp
  | .nd false k ds, v, fp => ∃ a vs, v = .ref a ∧ FCell K Z k a vs ∧ Rps K Z H ds vs [] ∧ fp = []
  | .nd true k ds, v, fp => ∃ a vs own fp', v = .ref a ∧ Cell K H k a vs own ∧ Rps K Z H ds vs fp' ∧ fp = own ++ fp'
def Rps (K : Ct) (Z H : Hp) : List D → List V → List Addr → Prop
  | [], vs, fp => vs = [] ∧ fp = []
  | d :: ds, vs, fp => ∃ v vs' f1 f2, vs = v :: vs' ∧ fp = f1 ++ f2 ∧ Rp K Z H d v f1 ∧ Rps K Z H ds vs' f2
end

section
variable {K : Ct} {Z Z' H H' : Hp}
theorem Cell.keep {k : Kd} {a : Addr} {vs : List V} {own : List Addr} (c : Cell K H k a vs own) (h : ∀ b ∈ own, ∀ o, H b = some o → H' b = some o) : Cell K H' k a vs own := by
  cases k with
  | ro => exact c.elim
  | hole => exact c.elim
  | lst => obtain ⟨e, rfl⟩ := c; exact ⟨h _ (by simp) _ e, rfl⟩
  | dct ks => obtain ⟨l, e, rfl⟩ := c; exact ⟨l, h _ (by simp) _ e, rfl⟩
  | obj C ns => obtain ⟨l, dx, e, e2, n, rfl⟩ := c; exact ⟨l, dx, h _ (by simp) _ e, h _ (by simp) _ e2, n, rfl⟩
theorem Cell.there {k : Kd} {a : Addr} {vs : List V} {own : List Addr} (c : Cell K H k a vs own) : ∀ b ∈ own, ∃ o, H b = some o := by
  cases k with
  | ro => exact c.elim
  | hole => exact c.elim
  | lst => obtain ⟨e, rfl⟩ := c; intro b hb; simp at hb; subst hb; exact ⟨_, e⟩
  | dct ks => obtain ⟨l, e, rfl⟩ := c; intro b hb; simp at hb; subst hb; exact ⟨_, e⟩
  | obj C ns => obtain ⟨l, dx, e, e2, n, rfl⟩ := c; intro b hb; simp at hb; rcases hb with rfl | rfl; exact ⟨_, e⟩; exact ⟨_, e2⟩
theorem Cell.mem {k : Kd} {a : Addr} {vs : List V} {own : List Addr} (c : Cell K H k a vs own) : a ∈ own := by
  cases k with
  | ro => exact c.elim
  | hole => exact c.elim
  | lst => obtain ⟨e, rfl⟩ := c; simp
  | dct ks => obtain ⟨l, e, rfl⟩ := c; simp
  | obj C ns => obtain ⟨l, dx, e, e2, n, rfl⟩ := c; simp
theorem FCell.mono {k : Kd} {a : Addr} {vs : List V} (c : FCell K Z k a vs) (h : Same Z Z') : FCell K Z' k a vs := by
  cases k with
  | ro => exact h.seq c
  | hole => trivial
  | lst => obtain ⟨own, c⟩ := c; exact ⟨own, c.keep fun b _ o e => h b o e⟩
  | dct ks => obtain ⟨own, c⟩ := c; exact ⟨own, c.keep fun b _ o e => h b o e⟩
  | obj C ns => obtain ⟨own, c⟩ := c; exact ⟨own, c.keep fun b _ o e => h b o e⟩
theorem FCell.of {k : Kd} {a : Addr} {vs : List V} {own : List Addr} (c : Cell K Z k a vs own) : FCell K Z k a vs := by
  cases k with
  | ro => exact c.elim
  | hole => exact c.elim
  | lst => exact ⟨own, c⟩
  | dct ks => exact ⟨own, c⟩
  | obj C ns => exact ⟨own, c⟩
theorem sqT_mono {a : Addr} {vs : List V} (h : SqT K.K Z a vs) (e : Same Z Z') : SqT K.K Z' a vs := by
  rcases h with (h | ⟨o, h⟩) | h
  · exact .inl (.inl (e _ _ h))
  · exact .inl (.inr ⟨o, e _ _ h⟩)
  · exact .inr h

mutual
theorem Rp.keep (hz : Same Z Z') : ∀ {d : D} {v : V} {fp : List Addr}, Rp K Z H d v fp → (∀ b ∈ fp, ∀ o, H b = some o → H' b = some o) → Rp K Z' H' d v fp
  | .non, _, _, h, _ => h
  | .bl _, _, _, h, _ => h
  | .int _, _, _, h, _ => h
  | .str _, _, _, h, _ => h
  | .glb _, _, _, h, _ => h
  | .tup ds, v, fp, h, k => by
    obtain ⟨a, vs, e, s, r⟩ := h
    exact ⟨a, vs, e, sqT_mono s hz, Rps.keep hz r k⟩
  | .nd false c ds, v, fp, h, k => by
    obtain ⟨a, vs, e, s, r, q⟩ := h
    exact ⟨a, vs, e, s.mono hz, Rps.keep hz r (fun b hb => absurd hb (by simp)), q⟩
  | .nd true c ds, v, fp, h, k => by
    obtain ⟨a, vs, own, fp', e, s, r, rfl⟩ := h
    exact ⟨a, vs, own, fp', e, s.keep fun b hb => k b (List.mem_append_left _ hb), Rps.keep hz r fun b hb => k b (List.mem_append_right _ hb), rfl⟩
theorem Rps.keep (hz : Same Z Z') : ∀ {ds : List D} {vs : List V} {fp : List Addr}, Rps K Z H ds vs fp → (∀ b ∈ fp, ∀ o, H b = some o → H' b = some o) → Rps K Z' H' ds vs fp
  | [], _, _, h, _ => h
  | d :: ds, vs, fp, h, k => by
    obtain ⟨v, vs', f1, f2, e, rfl, r, r2⟩ := h
    exact ⟨v, vs', f1, f2, e, rfl, Rp.keep hz r fun b hb => k b (List.mem_append_left _ hb), Rps.keep hz r2 fun b hb => k b (List.mem_append_right _ hb)⟩
end
mutual
theorem Rp.there : ∀ {d : D} {v : V} {fp : List Addr}, Rp K Z H d v fp → ∀ b ∈ fp, ∃ o, H b = some o
  | .non, _, _, h => by rw [h.2]; simp
  | .bl _, _, _, h => by rw [h.2]; simp
  | .int _, _, _, h => by rw [h.2]; simp
  | .str _, _, _, h => by rw [h.2]; simp
  | .glb _, _, _, h => by rw [h.2]; simp
  | .tup ds, v, fp, h => by
    obtain ⟨a, vs, e, s, r⟩ := h
    exact Rps.there r
  | .nd false c ds, v, fp, h => by
    obtain ⟨a, vs, e, s, r, q⟩ := h
    rw [q]; simp
  | .nd true c ds, v, fp, h => by
    obtain ⟨a, vs, own, fp', e, s, r, rfl⟩ := h
    intro b hb
    rcases List.mem_append.mp hb with hb | hb
    · exact s.there b hb
    · exact Rps.there r b hb
theorem Rps.there : ∀ {ds : List D} {vs : List V} {fp : List Addr}, Rps K Z H ds vs fp → ∀ b ∈ fp, ∃ o, H b = some o
  | [], _, _, h => by rw [h.2]; simp
  | d :: ds, vs, fp, h => by
    obtain ⟨v, vs', f1, f2, e, rfl, r, r2⟩ := h
    intro b hb
    rcases List.mem_append.mp hb with hb | hb
    · exact Rp.there r b hb
    · exact Rps.there r2 b hb
end
theorem Rps.length : ∀ {ds : List D} {vs : List V} {fp : List Addr}, Rps K Z H ds vs fp → ds.length = vs.length
  | [], _, _, h => by rw [h.1]; rfl
  | d :: ds, vs, fp, h => by
    obtain ⟨v, vs', f1, f2, rfl, rfl, r, r2⟩ := h
    simp [r2.length]
/-! freezing -/
mutual
theorem Rp.frz (hz : Same Z Z') : ∀ {d : D} {v : V} {fp : List Addr}, Rp K Z H d v fp → (∀ b ∈ fp, ∀ o, H b = some o → Z' b = some o) → Rp K Z' H (frz d) v []
  | .non, _, _, h, _ => ⟨h.1, rfl⟩
  | .bl _, _, _, h, _ => ⟨h.1, rfl⟩
  | .int _, _, _, h, _ => ⟨h.1, rfl⟩
  | .str _, _, _, h, _ => ⟨h.1, rfl⟩
  | .glb _, _, _, h, _ => ⟨h.1, rfl⟩
  | .tup ds, v, fp, h, k => by
    obtain ⟨a, vs, e, s, r⟩ := h
    exact ⟨a, vs, e, sqT_mono s hz, Rps.frz hz r k⟩
  | .nd false c ds, v, fp, h, k => by
    obtain ⟨a, vs, e, s, r, q⟩ := h
    exact ⟨a, vs, e, s.mono hz, Rps.frz hz r (fun b hb => absurd hb (by simp)), rfl⟩
  | .nd true c ds, v, fp, h, k => by
    obtain ⟨a, vs, own, fp', e, s, r, rfl⟩ := h
    exact ⟨a, vs, e, FCell.of (s.keep fun b hb => k b (List.mem_append_left _ hb)), Rps.frz hz r fun b hb => k b (List.mem_append_right _ hb), rfl⟩
theorem Rps.frz (hz : Same Z Z') : ∀ {ds : List D} {vs : List V} {fp : List Addr}, Rps K Z H ds vs fp → (∀ b ∈ fp, ∀ o, H b = some o → Z' b = some o) → Rps K Z' H (frzs ds) vs []
  | [], _, _, h, _ => ⟨h.1, rfl⟩
  | d :: ds, vs, fp, h, k => by
    obtain ⟨v, vs', f1, f2, e, rfl, r, r2⟩ := h
    exact ⟨v, vs', [], [], e, rfl, Rp.frz hz r fun b hb => k b (List.mem_append_left _ hb), Rps.frz hz r2 fun b hb => k b (List.mem_append_right _ hb)⟩
end
mutual
theorem Rp.isFrz : ∀ {d : D} {v : V} {fp : List Addr}, Rp K Z H d v fp → isFrz d = true → fp = []
  | .non, _, _, h, _ => h.2
  | .bl _, _, _, h, _ => h.2
  | .int _, _, _, h, _ => h.2
  | .str _, _, _, h, _ => h.2
  | .glb _, _, _, h, _ => h.2
  | .tup ds, v, fp, h, k => by
    obtain ⟨a, vs, e, s, r⟩ := h
    exact Rps.isFrz r k
  | .nd false c ds, v, fp, h, k => by
    obtain ⟨a, vs, e, s, r, q⟩ := h
    exact q
  | .nd true c ds, v, fp, h, k => by simp [Tw.isFrz] at k
theorem Rps.isFrz : ∀ {ds : List D} {vs : List V} {fp : List Addr}, Rps K Z H ds vs fp → areFrz ds = true → fp = []
  | [], _, _, h, _ => h.2
  | d :: ds, vs, fp, h, k => by
    obtain ⟨v, vs', f1, f2, e, rfl, r, r2⟩ := h
    simp only [areFrz, Bool.and_eq_true] at k
    rw [Rp.isFrz r k.1, Rps.isFrz r2 k.2]; rfl
end
mutual
theorem frz_id : ∀ {d : D}, isFrz d = true → frz d = d
  | .non, _ => rfl
  | .bl _, _ => rfl
  | .int _, _ => rfl
  | .str _, _ => rfl
  | .glb _, _ => rfl
  | .tup ds, k => by
    show D.tup (frzs ds) = _
    rw [frzs_id (ds := ds) (by simpa [isFrz] using k)]
  | .nd m c ds, k => by
    simp only [isFrz, Bool.and_eq_true, Bool.not_eq_true'] at k
    show D.nd false c (frzs ds) = _
    rw [frzs_id k.2, k.1]
theorem frzs_id : ∀ {ds : List D}, areFrz ds = true → frzs ds = ds
  | [], _ => rfl
  | d :: ds, k => by
    simp only [areFrz, Bool.and_eq_true] at k
    show frz d :: frzs ds = _
    rw [frz_id k.1, frzs_id k.2]
end
mutual
theorem isFrz_frz : ∀ (d : D), isFrz (frz d) = true
  | .non => rfl
  | .bl _ => rfl
  | .int _ => rfl
  | .str _ => rfl
  | .glb _ => rfl
  | .tup ds => by show areFrz (frzs ds) = true; exact areFrz_frzs ds
  | .nd m c ds => by show (!false && areFrz (frzs ds)) = true; rw [areFrz_frzs ds]; rfl
theorem areFrz_frzs : ∀ (ds : List D), areFrz (frzs ds) = true
  | [] => rfl
  | d :: ds => by show (isFrz (frz d) && areFrz (frzs ds)) = true; rw [isFrz_frz d, areFrz_frzs ds]; rfl
end
end

/-! ### items: what is owned beside the frozen heap -/
inductive It where
  | tr (d : D) (v : V)
  | cl (k : Kd) (a : Addr) (vs : List V)
  | raw (a : Addr) (o : HO)
  | tab (a : Addr) (q : Str)
/-- the table of code objects, as it may stand -/
def TabZ (Z H : Hp) (P : Addr) (q : Str) : Prop := ∃ ps : Array Value, H P = some (.tbl ps) ∧ PySem.TriplesOk ps.toList ∧ ∀ (pos : Pos) (cv : Value), PySem.codeAmong pos ps.toList = some cv → ∃ c, cv = .ref c ∧ Z c = some (LamX.CodeO c q)
def Fp (K : Ct) (Z H : Hp) : List It → List Addr → Prop
  | [], fp => fp = []
  | .tr d v :: L, fp => ∃ f1 f2, fp = f1 ++ f2 ∧ Rp K Z H d v f1 ∧ Fp K Z H L f2
  | .cl k a vs :: L, fp => ∃ f1 f2, fp = f1 ++ f2 ∧ Cell K H k a vs f1 ∧ Fp K Z H L f2
  | .raw a o :: L, fp => ∃ f1 f2, fp = f1 ++ f2 ∧ (H a = some o ∧ f1 = [a]) ∧ Fp K Z H L f2
  | .tab a q :: L, fp => ∃ f1 f2, fp = f1 ++ f2 ∧ (TabZ Z H a q ∧ f1 = [a]) ∧ Fp K Z H L f2
/-- the name of the lambdas -/
def lamQ : Str := "law.<locals>.<lambda>"
/-- where the table stands: the thing of number 0, if it is there -/
def tabs (K : Ct) : List It := if K.G 0 = 0 then [] else [.tab (K.G 0) lamQ]
structure SI (K : Ct) (Z H : Hp) (L : List It) : Prop where
  zh : Same Z H
  fp : ∃ fp, Fp K Z H (L ++ tabs K) fp ∧ fp.Nodup ∧ ∀ a ∈ fp, Z a = none
def trs : List D → List V → List It
  | d :: ds, v :: vs => .tr d v :: trs ds vs
  | _, _ => []

section
variable {K : Ct} {Z Z' H H' : Hp} {L L' : List It}
theorem Fp.keep (hz : Same Z Z') : ∀ {L : List It} {fp : List Addr}, Fp K Z H L fp → (∀ b ∈ fp, ∀ o, H b = some o → H' b = some o) → Fp K Z' H' L fp
  | [], _, h, _ => h
  | .tr d v :: L, fp, h, k => by
    obtain ⟨f1, f2, rfl, r, r2⟩ := h
    exact ⟨f1, f2, rfl, r.keep hz fun b hb => k b (List.mem_append_left _ hb), r2.keep hz fun b hb => k b (List.mem_append_right _ hb)⟩
  | .cl c a vs :: L, fp, h, k => by
    obtain ⟨f1, f2, rfl, r, r2⟩ := h
    exact ⟨f1, f2, rfl, r.keep fun b hb => k b (List.mem_append_left _ hb), r2.keep hz fun b hb => k b (List.mem_append_right _ hb)⟩
  | .raw a o :: L, fp, h, k => by
    obtain ⟨f1, f2, rfl, ⟨e, rfl⟩, r2⟩ := h
    exact ⟨[a], f2, rfl, ⟨k _ (by simp) _ e, rfl⟩, r2.keep hz fun b hb => k b (List.mem_append_right _ hb)⟩
  | .tab a q :: L, fp, h, k => by
    obtain ⟨f1, f2, rfl, ⟨⟨ps, e, t, c⟩, rfl⟩, r2⟩ := h
    exact ⟨[a], f2, rfl, ⟨⟨ps, k _ (by simp) _ e, t, fun pos cv hc => let ⟨x, e1, e2⟩ := c pos cv hc; ⟨x, e1, hz _ _ e2⟩⟩, rfl⟩, r2.keep hz fun b hb => k b (List.mem_append_right _ hb)⟩
theorem Fp.there : ∀ {L : List It} {fp : List Addr}, Fp K Z H L fp → ∀ b ∈ fp, ∃ o, H b = some o
  | [], _, h => by rw [show _ = [] from h]; simp
  | .tr d v :: L, fp, h => by
    obtain ⟨f1, f2, rfl, r, r2⟩ := h
    intro b hb
    rcases List.mem_append.mp hb with hb | hb
    · exact r.there b hb
    · exact r2.there b hb
  | .cl c a vs :: L, fp, h => by
    obtain ⟨f1, f2, rfl, r, r2⟩ := h
    intro b hb
    rcases List.mem_append.mp hb with hb | hb
    · exact r.there b hb
    · exact r2.there b hb
  | .raw a o :: L, fp, h => by
    obtain ⟨f1, f2, rfl, ⟨e, rfl⟩, r2⟩ := h
    intro b hb
    rcases List.mem_append.mp hb with hb | hb
    · simp at hb; subst hb; exact ⟨o, e⟩
    · exact r2.there b hb
  | .tab a q :: L, fp, h => by
    obtain ⟨f1, f2, rfl, ⟨⟨ps, e, t, c⟩, rfl⟩, r2⟩ := h
    intro b hb
    rcases List.mem_append.mp hb with hb | hb
    · simp at hb; subst hb; exact ⟨_, e⟩
    · exact r2.there b hb
theorem Fp.app : ∀ {L L' : List It} {fp fp' : List Addr}, Fp K Z H L fp → Fp K Z H L' fp' → Fp K Z H (L ++ L') (fp ++ fp')
  | [], _, _, _, h, h' => by rw [show _ = [] from h]; exact h'
  | .tr d v :: L, L', fp, fp', h, h' => by
    obtain ⟨f1, f2, rfl, r, r2⟩ := h
    exact ⟨f1, f2 ++ fp', by simp, r, Fp.app r2 h'⟩
  | .cl c a vs :: L, L', fp, fp', h, h' => by
    obtain ⟨f1, f2, rfl, r, r2⟩ := h
    exact ⟨f1, f2 ++ fp', by simp, r, Fp.app r2 h'⟩
  | .raw a o :: L, L', fp, fp', h, h' => by
    obtain ⟨f1, f2, rfl, r, r2⟩ := h
    exact ⟨f1, f2 ++ fp', by simp, r, Fp.app r2 h'⟩
  | .tab a o :: L, L', fp, fp', h, h' => by
    obtain ⟨f1, f2, rfl, r, r2⟩ := h
    exact ⟨f1, f2 ++ fp', by simp, r, Fp.app r2 h'⟩
theorem Fp.unapp : ∀ {L L' : List It} {fp : List Addr}, Fp K Z H (L ++ L') fp → ∃ f1 f2, fp = f1 ++ f2 ∧ Fp K Z H L f1 ∧ Fp K Z H L' f2
  | [], _, fp, h => ⟨[], fp, rfl, rfl, h⟩
  | .tr d v :: L, L', fp, h => by
    obtain ⟨f1, f2, rfl, r, r2⟩ := h
    obtain ⟨g1, g2, rfl, q1, q2⟩ := Fp.unapp r2
    exact ⟨f1 ++ g1, g2, by simp, ⟨f1, g1, rfl, r, q1⟩, q2⟩
  | .cl c a vs :: L, L', fp, h => by
    obtain ⟨f1, f2, rfl, r, r2⟩ := h
    obtain ⟨g1, g2, rfl, q1, q2⟩ := Fp.unapp r2
    exact ⟨f1 ++ g1, g2, by simp, ⟨f1, g1, rfl, r, q1⟩, q2⟩
  | .raw a o :: L, L', fp, h => by
    obtain ⟨f1, f2, rfl, r, r2⟩ := h
    obtain ⟨g1, g2, rfl, q1, q2⟩ := Fp.unapp r2
    exact ⟨f1 ++ g1, g2, by simp, ⟨f1, g1, rfl, r, q1⟩, q2⟩
  | .tab a o :: L, L', fp, h => by
    obtain ⟨f1, f2, rfl, r, r2⟩ := h
    obtain ⟨g1, g2, rfl, q1, q2⟩ := Fp.unapp r2
    exact ⟨f1 ++ g1, g2, by simp, ⟨f1, g1, rfl, r, q1⟩, q2⟩
theorem Fp.perm (p : L.Perm L') : ∀ {fp : List Addr}, Fp K Z H L fp → ∃ fp', fp.Perm fp' ∧ Fp K Z H L' fp' := by
  induction p with
  | nil => intro fp h; exact ⟨fp, .refl _, h⟩
  | cons x p ih =>
    intro fp h
    cases x with
    | tr d v =>
      obtain ⟨f1, f2, rfl, r, r2⟩ := h
      obtain ⟨g, pg, q⟩ := ih r2
      exact ⟨f1 ++ g, pg.append_left _, f1, g, rfl, r, q⟩
    | cl c a vs =>
      obtain ⟨f1, f2, rfl, r, r2⟩ := h
      obtain ⟨g, pg, q⟩ := ih r2
      exact ⟨f1 ++ g, pg.append_left _, f1, g, rfl, r, q⟩
    | raw a o =>
      obtain ⟨f1, f2, rfl, r, r2⟩ := h
      obtain ⟨g, pg, q⟩ := ih r2
      exact ⟨f1 ++ g, pg.append_left _, f1, g, rfl, r, q⟩
    | tab a o =>
      obtain ⟨f1, f2, rfl, r, r2⟩ := h
      obtain ⟨g, pg, q⟩ := ih r2
      exact ⟨f1 ++ g, pg.append_left _, f1, g, rfl, r, q⟩
  | swap x y l =>
    intro fp h
    have one : ∀ (z : It) {M : List It} {fp : List Addr}, Fp K Z H (z :: M) fp → ∃ f1 f2, fp = f1 ++ f2 ∧ Fp K Z H [z] f1 ∧ Fp K Z H M f2 := fun z M fp h => Fp.unapp (L := [z]) h
    obtain ⟨f1, f2, rfl, r, r2⟩ := one _ h
    obtain ⟨g1, g2, rfl, q, q2⟩ := one _ r2
    refine ⟨g1 ++ (f1 ++ g2), ?_, Fp.app (L := [x]) q (Fp.app (L := [y]) r q2)⟩
    rw [← List.append_assoc, ← List.append_assoc]
    exact (List.perm_append_comm).append_right _
  | trans _ _ ih1 ih2 =>
    intro fp h
    obtain ⟨g, p1, h1⟩ := ih1 h
    obtain ⟨g', p2, h2⟩ := ih2 h1
    exact ⟨g', p1.trans p2, h2⟩
theorem SI.perm (s : SI K Z H L) (p : L.Perm L') : SI K Z H L' := by
  obtain ⟨z, fp, h, n, d⟩ := s
  obtain ⟨g, pg, h'⟩ := h.perm (p.append_right _)
  exact ⟨z, g, h', pg.nodup_iff.mp n, fun a ha => d a (pg.mem_iff.mpr ha)⟩
theorem SI.drop {x : It} (s : SI K Z H (x :: L)) : SI K Z H L := by
  obtain ⟨z, fp, h, n, d⟩ := s
  obtain ⟨f1, f2, rfl, _, h2⟩ := Fp.unapp (L := [x]) h
  exact ⟨z, f2, h2, (List.nodup_append.mp n).2.1, fun a ha => d a (List.mem_append_right _ ha)⟩
theorem SI.dropL (s : SI K Z H (L ++ L')) : SI K Z H L' := by
  obtain ⟨z, fp, h, n, d⟩ := s
  rw [List.append_assoc] at h
  obtain ⟨f1, f2, rfl, _, h2⟩ := Fp.unapp h
  exact ⟨z, f2, h2, (List.nodup_append.mp n).2.1, fun a ha => d a (List.mem_append_right _ ha)⟩
theorem SI.same (s : SI K Z H L) (e : Same H H') : SI K Z H' L := by
  obtain ⟨z, fp, h, n, d⟩ := s
  exact ⟨z.trans e, fp, h.keep (Same.refl _) fun b _ o q => e b o q, n, d⟩
/-- what is frozen may be had twice -/
theorem SI.dup {d : D} {v : V} (s : SI K Z H (.tr d v :: L)) (f : isFrz d = true) : SI K Z H (.tr d v :: .tr d v :: L) := by
  obtain ⟨z, fp, ⟨f1, f2, rfl, r, h2⟩, n, q⟩ := s
  have e := r.isFrz f
  subst e
  exact ⟨z, f2, ⟨[], f2, rfl, r, [], f2, rfl, r, h2⟩, n, q⟩
theorem SI.rp {d : D} {v : V} (s : SI K Z H (.tr d v :: L)) : ∃ fp, Rp K Z H d v fp := by
  obtain ⟨z, fp, ⟨f1, f2, rfl, r, h2⟩, n, q⟩ := s
  exact ⟨f1, r⟩
/-- a frozen thing joins -/
theorem SI.add {d : D} {v : V} (s : SI K Z H L) (r : Rp K Z H d v []) : SI K Z H (.tr d v :: L) := by
  obtain ⟨z, fp, h, n, q⟩ := s
  exact ⟨z, fp, ⟨[], fp, rfl, r, h⟩, n, q⟩
theorem SI.freeze {d : D} {v : V} (s : SI K Z H (.tr d v :: L)) : ∃ Z', Same Z Z' ∧ SI K Z' H (.tr (frz d) v :: L) := by
  obtain ⟨z, fp, ⟨f1, f2, rfl, r, h2⟩, n, q⟩ := s
  have hz : Same Z (fun b => if b ∈ f1 then H b else Z b) := fun b o e => by
    show (if b ∈ f1 then H b else Z b) = some o
    rw [if_neg fun hb => by rw [q b (List.mem_append_left _ hb)] at e; cases e]
    exact e
  refine ⟨fun b => if b ∈ f1 then H b else Z b, hz, ?_, f2, ⟨[], f2, rfl, r.frz hz fun b hb o e => ?_, h2.keep hz fun _ _ _ e => e⟩, (List.nodup_append.mp n).2.1, fun a ha => ?_⟩
  · intro b o e
    by_cases hb : b ∈ f1
    · simpa [hb] using e
    · exact z b o (by simpa [hb] using e)
  · show (if b ∈ f1 then H b else Z b) = some o
    rw [if_pos hb]; exact e
  · show (if a ∈ f1 then H a else Z a) = none
    rw [if_neg fun hb => (List.nodup_append.mp n).2.2 a hb a ha rfl]
    exact q a (List.mem_append_right _ ha)
theorem Fp.trs_of : ∀ {ds : List D} {vs : List V} {fp : List Addr}, ds.length = vs.length → Fp K Z H (trs ds vs) fp → Rps K Z H ds vs fp
  | [], [], _, _, h => ⟨rfl, h⟩
  | d :: ds, v :: vs, fp, l, h => by
    obtain ⟨f1, f2, rfl, r, h2⟩ := h
    exact ⟨v, vs, f1, f2, rfl, rfl, r, Fp.trs_of (by simpa using l) h2⟩
theorem Rps.trs : ∀ {ds : List D} {vs : List V} {fp : List Addr}, Rps K Z H ds vs fp → Fp K Z H (Tw.trs ds vs) fp
  | [], _, _, h => by rw [h.1]; exact h.2
  | d :: ds, vs, fp, h => by
    obtain ⟨v, vs', f1, f2, rfl, rfl, r, r2⟩ := h
    exact ⟨f1, f2, rfl, r, r2.trs⟩
/-- an owned node opened -/
theorem SI.opn {k : Kd} {ds : List D} {v : V} (s : SI K Z H (.tr (.nd true k ds) v :: L)) : ∃ a vs, v = .ref a ∧ ds.length = vs.length ∧ SI K Z H (.cl k a vs :: (trs ds vs ++ L)) := by
  obtain ⟨z, fp, ⟨f1, f2, rfl, ⟨a, vs, own, fp', e, c, r, rfl⟩, h2⟩, n, q⟩ := s
  exact ⟨a, vs, e, r.length, z, own ++ (fp' ++ f2), ⟨own, fp' ++ f2, rfl, c, (by rw [show (trs ds vs ++ L).append (tabs K) = trs ds vs ++ (L ++ tabs K) from List.append_assoc ..]; exact r.trs.app h2)⟩, by rw [← List.append_assoc]; exact n, by rw [← List.append_assoc]; exact q⟩
theorem SI.cls {k : Kd} {ds : List D} {a : Addr} {vs : List V} (l : ds.length = vs.length) (s : SI K Z H (.cl k a vs :: (trs ds vs ++ L))) : SI K Z H (.tr (.nd true k ds) (.ref a) :: L) := by
  obtain ⟨z, fp, ⟨f1, f2, rfl, c, h2⟩, n, q⟩ := s
  rw [show (trs ds vs ++ L).append (tabs K) = trs ds vs ++ (L ++ tabs K) from List.append_assoc ..] at h2
  obtain ⟨g1, g2, rfl, r, h3⟩ := h2.unapp
  rw [← List.append_assoc] at n q
  exact ⟨z, _, ⟨f1 ++ g1, g2, rfl, ⟨a, vs, f1, g1, rfl, c, r.trs_of l, rfl⟩, h3⟩, n, q⟩
theorem SI.cell {k : Kd} {a : Addr} {vs : List V} (s : SI K Z H (.cl k a vs :: L)) : ∃ own, Cell K H k a vs own := by
  obtain ⟨z, fp, ⟨f1, f2, rfl, c, h2⟩, n, q⟩ := s
  exact ⟨f1, c⟩
/-- an owned cell is written -/
theorem SI.write {k k' : Kd} {a : Addr} {vs vs' : List V} {o : HO} (s : SI K Z H (.cl k a vs :: L)) (c : ∀ own, Cell K H k a vs own → Cell K (upd H a o) k' a vs' own) : SI K Z (upd H a o) (.cl k' a vs' :: L) := by
  obtain ⟨z, fp, ⟨f1, f2, rfl, c1, h2⟩, n, q⟩ := s
  have ha : a ∈ f1 := c1.mem
  have za : Z a = none := q a (List.mem_append_left _ ha)
  refine ⟨fun b u e => ?_, f1 ++ f2, ⟨f1, f2, rfl, c _ c1, h2.keep (Same.refl _) fun b hb u e => ?_⟩, n, q⟩
  · rw [upd_ne fun z => by rw [z, za] at e; cases e]; exact z b u e
  · rw [upd_ne fun z => (List.nodup_append.mp n).2.2 a ha b hb z.symm]; exact e
/-- a new cell is laid -/
theorem SI.newL {ds : List D} {vs : List V} {p : Addr} (l : ds.length = vs.length) (s : SI K Z H (trs ds vs ++ L)) (hp : H p = none) : SI K Z (upd H p (.lst vs)) (.tr (.lst true ds) (.ref p) :: L) := by
  refine SI.cls l ?_
  obtain ⟨z, fp, h, n, q⟩ := s
  have ne : ∀ {b o}, H b = some o → b ≠ p := fun e x => by rw [x, hp] at e; cases e
  refine ⟨fun b u e => ?_, p :: fp, ⟨[p], fp, rfl, ⟨upd_same, rfl⟩, h.keep (Same.refl _) fun b hb u e => ?_⟩, List.nodup_cons.mpr ⟨fun hb => ?_, n⟩, fun b hb => ?_⟩
  · rw [upd_ne (ne (z _ _ e))]; exact z _ _ e
  · rw [upd_ne (ne e)]; exact e
  · obtain ⟨o, e⟩ := h.there p hb
    rw [hp] at e; cases e
  · rcases List.mem_cons.mp hb with rfl | hb
    · cases e : Z b with
      | none => rfl
      | some o => have := z _ _ e; rw [hp] at this; cases this
    · exact q b hb
theorem SI.newD {ds : List D} {vs : List V} {ks : List Ky} {p : Addr} (lk : ks.length = vs.length) (l : ds.length = vs.length) (s : SI K Z H (trs ds vs ++ L)) (hp : H p = none) :
    SI K Z (upd H p (.dK ((ks.map mkK).zip vs))) (.tr (.nd true (.dct ks) ds) (.ref p) :: L) := by
  refine SI.cls l ?_
  have := SI.newL (L := L) l s hp
  obtain ⟨a, vs', e, l', s'⟩ := this.opn
  cases e
  obtain ⟨own, c⟩ := s'.cell
  have ev : vs' = vs := by
    have := c.1
    rw [upd_same] at this
    injection this with this; injection this with this; exact this.symm
  subst ev
  have := SI.write (o := .dK ((ks.map mkK).zip vs')) (k' := .dct ks) (vs' := vs') s' fun own c => ⟨lk, upd_same, c.2⟩
  rwa [upd_upd] at this
theorem SI.newT {ds : List D} {vs : List V} {p : Addr} (l : ds.length = vs.length) (s : SI K Z H (trs ds vs ++ L)) (hp : H p = none) : Same Z (upd Z p (.tup vs)) ∧ SI K (upd Z p (.tup vs)) (upd H p (.tup vs)) (.tr (.tup ds) (.ref p) :: L) := by
  obtain ⟨z, fp, h, n, q⟩ := s
  have ne : ∀ {b o}, H b = some o → b ≠ p := fun e x => by rw [x, hp] at e; cases e
  have hz : Same Z (upd Z p (.tup vs)) := fun b u e => by rw [upd_ne (ne (z _ _ e))]; exact e
  rw [List.append_assoc] at h
  obtain ⟨f1, f2, rfl, h1, h2⟩ := h.unapp
  have k1 : ∀ b ∈ f1 ++ f2, ∀ u, H b = some u → upd H p (.tup vs) b = some u := fun b hb u e => by rw [upd_ne (ne e)]; exact e
  refine ⟨hz, fun b u e => ?_, f1 ++ f2, ⟨f1, f2, rfl, ⟨p, vs, rfl, .inl (.inl upd_same), Rps.keep hz (h1.trs_of l) fun b hb => k1 b (List.mem_append_left _ hb)⟩, h2.keep hz fun b hb => k1 b (List.mem_append_right _ hb)⟩, n, fun b hb => ?_⟩
  · by_cases hb : b = p
    · subst hb; rw [upd_same] at e ⊢; exact e
    · rw [upd_ne hb] at e ⊢; exact z _ _ e
  · obtain ⟨o, e⟩ := (h1.app h2).there b hb
    rw [upd_ne (ne e)]
    exact q b hb
end
/-! ### the same without the table -/
def noT (G : Nat → Addr) : Nat → Addr := fun n => match n with
  | 0 => 0
  | n + 1 => G (n + 1)
theorem noT_noT {G : Nat → Addr} : noT (noT G) = noT G := by funext n; cases n <;> rfl
section
variable {K : PySem.W.Frag} {G : Nat → Addr} {Z H : Hp}
theorem tabs_n : tabs ⟨K, noT G⟩ = [] := if_pos rfl
theorem Cell_n {k : Kd} {a : Addr} {vs : List V} {own : List Addr} : Cell ⟨K, noT G⟩ H k a vs own = Cell ⟨K, G⟩ H k a vs own := by cases k <;> rfl
theorem FCell_n {k : Kd} {a : Addr} {vs : List V} : FCell ⟨K, noT G⟩ Z k a vs = FCell ⟨K, G⟩ Z k a vs := by cases k <;> rfl
mutual
theorem Rp_n : ∀ (d : D) (v : V) (fp : List Addr), Rp ⟨K, noT G⟩ Z H d v fp = Rp ⟨K, G⟩ Z H d v fp
  | .non, _, _ => rfl
  | .bl _, _, _ => rfl
  | .int _, _, _ => rfl
  | .str _, _, _ => rfl
  | .glb _, _, _ => rfl
  | .tup ds, v, fp => by
    show (∃ a vs, v = .ref a ∧ SqT K Z a vs ∧ Rps ⟨K, noT G⟩ Z H ds vs fp) = (∃ a vs, v = .ref a ∧ SqT K Z a vs ∧ Rps ⟨K, G⟩ Z H ds vs fp)
    simp only [Rps_n ds]
  | .nd false k ds, v, fp => by
    show (∃ a vs, v = .ref a ∧ FCell ⟨K, noT G⟩ Z k a vs ∧ Rps ⟨K, noT G⟩ Z H ds vs [] ∧ fp = []) = (∃ a vs, v = .ref a ∧ FCell ⟨K, G⟩ Z k a vs ∧ Rps ⟨K, G⟩ Z H ds vs [] ∧ fp = [])
    simp only [Rps_n ds, FCell_n]
  | .nd true k ds, v, fp => by
    show (∃ a vs own fp', v = .ref a ∧ Cell ⟨K, noT G⟩ H k a vs own ∧ Rps ⟨K, noT G⟩ Z H ds vs fp' ∧ fp = own ++ fp') = (∃ a vs own fp', v = .ref a ∧ Cell ⟨K, G⟩ H k a vs own ∧ Rps ⟨K, G⟩ Z H ds vs fp' ∧ fp = own ++ fp')
    simp only [Rps_n ds, Cell_n]
theorem Rps_n : ∀ (ds : List D) (vs : List V) (fp : List Addr), Rps ⟨K, noT G⟩ Z H ds vs fp = Rps ⟨K, G⟩ Z H ds vs fp
  | [], _, _ => rfl
  | d :: ds, vs, fp => by
    show (∃ v vs' f1 f2, vs = v :: vs' ∧ fp = f1 ++ f2 ∧ Rp ⟨K, noT G⟩ Z H d v f1 ∧ Rps ⟨K, noT G⟩ Z H ds vs' f2) = (∃ v vs' f1 f2, vs = v :: vs' ∧ fp = f1 ++ f2 ∧ Rp ⟨K, G⟩ Z H d v f1 ∧ Rps ⟨K, G⟩ Z H ds vs' f2)
    simp only [Rp_n d, Rps_n ds]
end
theorem Fp_n : ∀ (L : List It) (fp : List Addr), Fp ⟨K, noT G⟩ Z H L fp = Fp ⟨K, G⟩ Z H L fp
  | [], _ => rfl
  | .tr d v :: L, fp => by
    show (∃ f1 f2, fp = f1 ++ f2 ∧ Rp ⟨K, noT G⟩ Z H d v f1 ∧ Fp ⟨K, noT G⟩ Z H L f2) = (∃ f1 f2, fp = f1 ++ f2 ∧ Rp ⟨K, G⟩ Z H d v f1 ∧ Fp ⟨K, G⟩ Z H L f2)
    simp only [Rp_n d, Fp_n L]
  | .cl k a vs :: L, fp => by
    show (∃ f1 f2, fp = f1 ++ f2 ∧ Cell ⟨K, noT G⟩ H k a vs f1 ∧ Fp ⟨K, noT G⟩ Z H L f2) = (∃ f1 f2, fp = f1 ++ f2 ∧ Cell ⟨K, G⟩ H k a vs f1 ∧ Fp ⟨K, G⟩ Z H L f2)
    simp only [Cell_n, Fp_n L]
  | .raw a o :: L, fp => by
    show (∃ f1 f2, fp = f1 ++ f2 ∧ (H a = some o ∧ f1 = [a]) ∧ Fp ⟨K, noT G⟩ Z H L f2) = (∃ f1 f2, fp = f1 ++ f2 ∧ (H a = some o ∧ f1 = [a]) ∧ Fp ⟨K, G⟩ Z H L f2)
    simp only [Fp_n L]
  | .tab a q :: L, fp => by
    show (∃ f1 f2, fp = f1 ++ f2 ∧ (TabZ Z H a q ∧ f1 = [a]) ∧ Fp ⟨K, noT G⟩ Z H L f2) = (∃ f1 f2, fp = f1 ++ f2 ∧ (TabZ Z H a q ∧ f1 = [a]) ∧ Fp ⟨K, G⟩ Z H L f2)
    simp only [Fp_n L]
theorem SI_n {L : List It} : SI ⟨K, noT G⟩ Z H (L ++ tabs ⟨K, G⟩) ↔ SI ⟨K, G⟩ Z H L := by
  constructor
  · rintro ⟨z, fp, h, n, q⟩
    rw [tabs_n, List.append_nil, Fp_n] at h
    exact ⟨z, fp, h, n, q⟩
  · rintro ⟨z, fp, h, n, q⟩
    refine ⟨z, fp, ?_, n, q⟩
    rw [tabs_n, List.append_nil, Fp_n]
    exact h
end
end Tw

set_option maxRecDepth 100000
namespace Tw
open PySem PySem.Spec PyProof.Rows L2

/-! ### results -/
abbrev Env := List (Option D)
abbrev Sg := List (Option V)
inductive R (ε α : Type) where
  | ok (a : α)
  | exc (c : Nat) (fs : List D) (e : ε)
  | stuck
def R.bind {ε α β : Type} (x : R ε α) (f : α → R ε β) : R ε β :=
  match x with
  | .ok a => f a
  | .exc c fs e => .exc c fs e
  | .stuck => .stuck
@[simp] theorem R.ok_bind {ε α β : Type} (a : α) (f : α → R ε β) : R.bind (.ok a) f = f a := rfl
@[simp] theorem R.exc_bind {ε α β : Type} (c : Nat) (fs : List D) (e : ε) (f : α → R ε β) : R.bind (.exc c fs e) f = .exc c fs e := rfl
@[simp] theorem R.stuck_bind {ε α β : Type} (f : α → R ε β) : R.bind (.stuck : R ε α) f = .stuck := rfl
def oR {ε α : Type} : Option α → R ε α
  | some a => .ok a
  | none => .stuck
@[simp] theorem oR_some {ε α : Type} (a : α) : (oR (some a) : R ε α) = .ok a := rfl
@[simp] theorem oR_none {ε α : Type} : (oR none : R ε α) = .stuck := rfl

/-! ### the state -/
theorem set_self {α : Type} {l : List α} {i : Nat} {x : α} (h : l[i]? = some x) : l.set i x = l := by
  apply List.ext_getElem?
  intro j
  by_cases hij : i = j
  · subst hij
    rw [List.getElem?_set_self (List.getElem?_eq_some_iff.mp h).1, h]
  · rw [List.getElem?_set_ne hij]
structure EnvOk (σ : Sg) (ρ : Env) : Prop where
  len : ρ.length = σ.length
  get : ∀ (i : Nat) (d : D), ρ[i]? = some (some d) → ∃ v, σ[i]? = some (some v)
def envL : Sg → Env → List It
  | some v :: σ, some d :: ρ => .tr d v :: envL σ ρ
  | _ :: σ, _ :: ρ => envL σ ρ
  | _, _ => []
theorem envL_none {x : Option V} {σ : Sg} {ρ : Env} : envL (x :: σ) (none :: ρ) = envL σ ρ := by cases x <;> rfl
theorem envL_take : ∀ {σ : Sg} {ρ : Env} {i : Nat} {d : D} {v : V}, ρ[i]? = some (some d) → σ[i]? = some (some v) → (envL σ ρ).Perm (.tr d v :: envL σ (ρ.set i none))
  | [], _, _, _, _, _, h => by simp at h
  | _ :: _, [], _, _, _, h, _ => by simp at h
  | x :: σ, y :: ρ, 0, d, v, h, h' => by
    simp at h h'
    subst h; subst h'
    show List.Perm (.tr d v :: envL σ ρ) (.tr d v :: envL (some v :: σ) (none :: ρ))
    rw [envL_none]
  | x :: σ, y :: ρ, i + 1, d, v, h, h' => by
    have ih := envL_take (σ := σ) (ρ := ρ) (i := i) (d := d) (v := v) (by simpa using h) (by simpa using h')
    rw [List.set_cons_succ]
    cases x with
    | none =>
      show List.Perm (envL σ ρ) (.tr d v :: envL σ (ρ.set i none))
      exact ih
    | some u =>
      cases y with
      | none => rw [envL_none, envL_none]; exact ih
      | some e =>
        show List.Perm (.tr e u :: envL σ ρ) (.tr d v :: .tr e u :: envL σ (ρ.set i none))
        exact (ih.cons _).trans (List.Perm.swap _ _ _)
theorem envL_put : ∀ {σ : Sg} {ρ : Env} {i : Nat} {d : D} {v : V}, ρ.length = σ.length → i < σ.length → (envL (σ.set i (some v)) (ρ.set i (some d))).Perm (.tr d v :: envL σ (ρ.set i none))
  | [], _, _, _, _, _, h => by simp at h
  | _ :: _, [], _, _, _, h, _ => by simp at h
  | x :: σ, y :: ρ, 0, d, v, h, h' => by
    show List.Perm (.tr d v :: envL σ ρ) (.tr d v :: envL (x :: σ) (none :: ρ))
    rw [envL_none]
  | x :: σ, y :: ρ, i + 1, d, v, h, h' => by
    have ih := envL_put (σ := σ) (ρ := ρ) (i := i) (d := d) (v := v) (by simpa using h) (by simpa using h')
    rw [List.set_cons_succ, List.set_cons_succ, List.set_cons_succ]
    cases x with
    | none =>
      show List.Perm (envL (σ.set i (some v)) (ρ.set i (some d))) (.tr d v :: envL σ (ρ.set i none))
      exact ih
    | some u =>
      cases y with
      | none => rw [envL_none, envL_none]; exact ih
      | some e =>
        show List.Perm (.tr e u :: envL (σ.set i (some v)) (ρ.set i (some d))) (.tr d v :: .tr e u :: envL σ (ρ.set i none))
        exact (ih.cons _).trans (List.Perm.swap _ _ _)
theorem EnvOk.non {σ : Sg} {ρ : Env} (h : EnvOk σ ρ) (i : Nat) : EnvOk σ (ρ.set i none) := by
  refine ⟨by rw [List.length_set]; exact h.len, fun j d e => h.get j d ?_⟩
  rw [List.getElem?_set] at e
  split at e
  · split at e <;> simp at e
  · exact e
theorem EnvOk.put {σ : Sg} {ρ : Env} (h : EnvOk σ ρ) (i : Nat) (d : D) (v : V) : EnvOk (σ.set i (some v)) (ρ.set i (some d)) := by
  refine ⟨by rw [List.length_set, List.length_set]; exact h.len, fun j d' e => ?_⟩
  rw [List.getElem?_set] at e ⊢
  by_cases hij : i = j
  · rw [if_pos hij] at e ⊢
    rw [h.len] at e
    split at e
    · rename_i hl; rw [if_pos hl]; exact ⟨v, rfl⟩
    · simp at e
  · rw [if_neg hij] at e ⊢; exact h.get j d' e
theorem EnvOk.back {σ : Sg} {ρ : Env} {i : Nat} {v : V} (h : EnvOk σ (ρ.set i none)) (d : D) (e : σ[i]? = some (some v)) : EnvOk σ (ρ.set i (some d)) := by
  refine ⟨by have := h.len; rw [List.length_set] at this ⊢; exact this, fun j d' q => ?_⟩
  by_cases hij : i = j
  · subst hij; exact ⟨v, e⟩
  · rw [List.getElem?_set_ne hij] at q
    exact h.get j d' (by rw [List.getElem?_set_ne hij]; exact q)

structure Sa (K : Ct) (Z H : Hp) (σ : Sg) (ρ : Env) (T : List It) : Prop where
  ok : EnvOk σ ρ
  si : SI K Z H (envL σ ρ ++ T)
section
variable {K : Ct} {Z Z' H H' : Hp} {σ : Sg} {ρ : Env} {T T' : List It} {d d' : D} {v : V} {i : Nat}
theorem Sa.same (s : Sa K Z H σ ρ T) (e : Same H H') : Sa K Z H' σ ρ T := ⟨s.ok, s.si.same e⟩
theorem Sa.perm (s : Sa K Z H σ ρ T) (p : T.Perm T') : Sa K Z H σ ρ T' := ⟨s.ok, s.si.perm (p.append_left _)⟩
theorem Sa.front {x : It} (s : Sa K Z H σ ρ (x :: T)) : SI K Z H (x :: (envL σ ρ ++ T)) := s.si.perm (by exact List.perm_middle)
theorem Sa.of_front {x : It} (o : EnvOk σ ρ) (s : SI K Z H (x :: (envL σ ρ ++ T))) : Sa K Z H σ ρ (x :: T) := ⟨o, s.perm (by exact List.perm_middle.symm)⟩
theorem Sa.drop {x : It} (s : Sa K Z H σ ρ (x :: T)) : Sa K Z H σ ρ T := ⟨s.ok, s.front.drop⟩
theorem Sa.rp (s : Sa K Z H σ ρ (.tr d v :: T)) : ∃ fp, Rp K Z H d v fp := s.front.rp
theorem Sa.dup (s : Sa K Z H σ ρ (.tr d v :: T)) (f : isFrz d = true) : Sa K Z H σ ρ (.tr d v :: .tr d v :: T) := by
  have := s.front.dup f
  exact ⟨s.ok, this.perm (by
    refine List.Perm.trans ?_ (List.perm_middle.symm)
    exact List.Perm.cons _ (List.perm_middle.symm))⟩
theorem Sa.freeze (s : Sa K Z H σ ρ (.tr d v :: T)) : ∃ Z', Same Z Z' ∧ Sa K Z' H σ ρ (.tr (frz d) v :: T) := by
  obtain ⟨Z', z, q⟩ := s.front.freeze
  exact ⟨Z', z, .of_front s.ok q⟩
theorem Sa.take (s : Sa K Z H σ ρ T) (e : ρ[i]? = some (some d)) : ∃ v, σ[i]? = some (some v) ∧ Sa K Z H σ (ρ.set i none) (.tr d v :: T) := by
  obtain ⟨v, hv⟩ := s.ok.get i d e
  refine ⟨v, hv, .of_front (s.ok.non i) (s.si.perm ?_)⟩
  exact (envL_take e hv).append_right T
theorem Sa.put (s : Sa K Z H σ ρ (.tr d v :: T)) (hi : i < σ.length) : Sa K Z H (σ.set i (some v)) (ρ.set i (some d)) T := by
  refine ⟨s.ok.put i d v, ?_⟩
  have q : SI K Z H (.tr d v :: (envL σ (ρ.set i none) ++ T)) := by
    cases e : ρ[i]? with
    | none => rw [List.set_eq_of_length_le (by rw [List.getElem?_eq_none_iff] at e; exact e)]; exact s.front
    | some o =>
      cases o with
      | none => rw [show ρ.set i none = ρ from set_self e]; exact s.front
      | some x =>
        obtain ⟨u, _, s'⟩ := s.take e
        exact (s'.perm (List.Perm.swap _ _ _)).front.perm (List.Perm.cons _ (List.perm_middle)) |>.perm (List.Perm.swap _ _ _) |>.drop
  exact q.perm (by exact (envL_put s.ok.len hi).symm.append_right T)
theorem Sa.back (s : Sa K Z H σ (ρ.set i none) (.tr d v :: T)) (hl : i < σ.length) (e : σ[i]? = some (some v)) : Sa K Z H σ (ρ.set i (some d)) T := by
  have := s.put hl
  rw [List.set_set] at this
  rwa [show σ.set i (some v) = σ from set_self e] at this
/-- a view of a slot -/
theorem Sa.view (s : Sa K Z H σ ρ T) (e : ρ[i]? = some (some d)) : ∃ v fp, σ[i]? = some (some v) ∧ Rp K Z H d v fp := by
  obtain ⟨v, hv, s'⟩ := s.take e
  obtain ⟨fp, r⟩ := s'.rp
  exact ⟨v, fp, hv, r⟩
end
end Tw

set_option maxRecDepth 100000
namespace Tw
open PySem PySem.Spec L2

/-! ### judgements -/
def RunE (X : Cx) (e : Expr) (σ : Sg) (H : Hp) (Q : VK) : Prop := ∀ pins s, Inv X pins σ H s → wpAny (model X.prog X.w) X.A (eval e X.env) (EP X pins σ Q) X.xe s
def RunT (X : Cx) (e : Expr) (σ : Sg) (H : Hp) (Q : Bool → Hp → Prop) : Prop := ∀ pins s, Inv X pins σ H s → wpAny (model X.prog X.w) X.A (isTrue e X.env (eval e X.env)) (TP X pins σ Q) X.xe s
def RunW (X : Cx) (e : Expr) (σ : Sg) (H : Hp) (Q : Bool → Hp → Prop) : Prop := ∀ whole pins s, Inv X pins σ H s → wpAny (model X.prog X.w) X.A (isTrue e X.env whole) (TP X pins σ Q) X.xe s
def RunA (X : Cx) (es : List Expr) (σ : Sg) (H : Hp) (Q : List V → Hp → Prop) : Prop := ∀ pos pins s, Inv X pins σ H s → wpAny (model X.prog X.w) X.A (spliced (backTo pos (starEach es X.env))) (AP X pins σ Q) X.xe s
def RunS (X : Cx) (st : Stmt) (σ : Sg) (H : Hp) (D : Ends) : Prop := ∀ pins s, Inv X pins σ H s → wpAny (model X.prog X.w) X.A (exec st X.env) (SP X pins D) X.xe s
def RunB (X : Cx) (st : List Stmt) (σ : Sg) (H : Hp) (D : Ends) : Prop := ∀ pins s, Inv X pins σ H s → wpAny (model X.prog X.w) X.A (execs st X.env) (SP X pins D) X.xe s
section
variable {X : Cx}
theorem peR {e : Expr} : PE X e (RunE X e) := ⟨fun pins s σ H Q I h => h pins s I⟩
theorem ptR {e : Expr} : PT X e (RunT X e) := ⟨fun pins s σ H Q I h => h pins s I⟩
theorem pwR {e : Expr} : PW X e (RunW X e) := ⟨fun wh pins s σ H Q I h => h wh pins s I⟩
theorem paR {es : List Expr} : PA X es (RunA X es) := ⟨fun pos pins s σ H Q I h => h pos pins s I⟩
theorem psR {st : Stmt} : PS X st (fun D σ H => RunS X st σ H D) := ⟨fun pins s σ H D I h => h pins s I⟩
theorem pbR {st : List Stmt} : PSs X st (fun D σ H => RunB X st σ H D) := ⟨fun pins s σ H D I h => h pins s I⟩
theorem toE {e : Expr} {t : TE} (h : PE X e t) {σ : Sg} {H : Hp} {Q : VK} (q : t σ H Q) : RunE X e σ H Q := fun pins s I => h.run pins s σ H Q I q
theorem toT {e : Expr} {t : TT} (h : PT X e t) {σ : Sg} {H : Hp} {Q : Bool → Hp → Prop} (q : t σ H Q) : RunT X e σ H Q := fun pins s I => h.run pins s σ H Q I q
theorem toW {e : Expr} {t : TT} (h : PW X e t) {σ : Sg} {H : Hp} {Q : Bool → Hp → Prop} (q : t σ H Q) : RunW X e σ H Q := fun wh pins s I => h.run wh pins s σ H Q I q
theorem toS {e : Stmt} {t : TS} (h : PS X e t) {σ : Sg} {H : Hp} {D : Ends} (q : t D σ H) : RunS X e σ H D := fun pins s I => h.run pins s σ H D I q
theorem toB {e : List Stmt} {t : TS} (h : PSs X e t) {σ : Sg} {H : Hp} {D : Ends} (q : t D σ H) : RunB X e σ H D := fun pins s I => h.run pins s σ H D I q
theorem toA {es : List Expr} {t : TA} (h : PA X es t) {σ : Sg} {H : Hp} {Q : List V → Hp → Prop} (q : t σ H Q) : RunA X es σ H Q := fun pos pins s I => h.run pos pins s σ H Q I q
end

/-- an exception's own dict -/
def ExR (K : Ct) (Z : Hp) (dx : Option Addr) (fs : List D) : Prop := match fs with
  | [] => dx = none
  | [.str f, d] => ∃ a v, dx = some a ∧ Z a = some (.xd [(mkS f, v)]) ∧ Rp K Z Z d v []
  | _ => False
theorem ExR_n {K : PySem.W.Frag} {G : Nat → Addr} {Z : Hp} {dx : Option Addr} {fs : List D} : ExR ⟨K, noT G⟩ Z dx fs = ExR ⟨K, G⟩ Z dx fs := by
  unfold ExR
  split
  · rfl
  · simp only [Rp_n]
  · rfl
def XPost (K : Ct) (Z : Hp) (σ : Sg) (T : List It) (W : WX) (c : Nat) (fs : List D) (ρ' : Env) : Prop :=
  ∀ dx H' Z', Same Z Z' → Sa K Z' H' σ ρ' T → ExR K Z' dx fs → W (.ref (K.G (c + 1))) dx σ H'
def EPost (K : Ct) (b : Bool) (Z H : Hp) (σ : Sg) (T : List It) (W : WX) (Q : VK) : R Env (D × Env) → Prop
  | .ok (d, ρ') => ∀ v H' Z', Same Z Z' → (b = true → Same H H') → Sa K Z' H' σ ρ' (.tr d v :: T) → Q v H'
  | .exc c fs ρ' => XPost K Z σ T W c fs ρ'
  | .stuck => False
def TPost (K : Ct) (b : Bool) (Z H : Hp) (σ : Sg) (T : List It) (W : WX) (Q : Bool → Hp → Prop) : R Env (Bool × Env) → Prop
  | .ok (c, ρ') => ∀ H' Z', Same Z Z' → (b = true → Same H H') → Sa K Z' H' σ ρ' T → Q c H'
  | .exc c fs ρ' => XPost K Z σ T W c fs ρ'
  | .stuck => False
structure Ev (X : Cx) (G : Nat → Addr) (W : WX) (b : Bool) (e : Expr) (f : Env → R Env (D × Env)) : Prop where
  q : b = true → ∀ ρ d ρ', f ρ = .ok (d, ρ') → ρ' = ρ
  run : ∀ σ H Z ρ T Q, Sa ⟨X.K, G⟩ Z H σ ρ T → EPost ⟨X.K, G⟩ b Z H σ T W Q (f ρ) → RunE X e σ H Q
structure Tx (X : Cx) (G : Nat → Addr) (W : WX) (b : Bool) (e : Expr) (f : Env → R Env (Bool × Env)) : Prop where
  q : b = true → ∀ ρ d ρ', f ρ = .ok (d, ρ') → ρ' = ρ
  run : ∀ σ H Z ρ T Q, Sa ⟨X.K, G⟩ Z H σ ρ T → TPost ⟨X.K, G⟩ b Z H σ T W Q (f ρ) → RunT X e σ H Q
structure Tw (X : Cx) (G : Nat → Addr) (W : WX) (b : Bool) (e : Expr) (f : Env → R Env (Bool × Env)) : Prop where
  q : b = true → ∀ ρ d ρ', f ρ = .ok (d, ρ') → ρ' = ρ
  run : ∀ σ H Z ρ T Q, Sa ⟨X.K, G⟩ Z H σ ρ T → TPost ⟨X.K, G⟩ b Z H σ T W Q (f ρ) → RunW X e σ H Q
theorem Tw.tx {X : Cx} {G : Nat → Addr} {W : WX} {b : Bool} {e : Expr} {f : Env → R Env (Bool × Env)} (h : Tw X G W b e f) : Tx X G W b e f :=
  ⟨h.q, fun σ H Z ρ T Q S P pins s I => h.run σ H Z ρ T Q S P _ pins s I⟩
/-- a look at a thing that stays where it is -/
structure Bo (X : Cx) (G : Nat → Addr) (e : Expr) (g : Env → Option D) : Prop where
  run : ∀ σ H Z ρ T Q d, Sa ⟨X.K, G⟩ Z H σ ρ T → g ρ = some d → (∀ v H' Z' fp, Same Z Z' → Same H H' → Sa ⟨X.K, G⟩ Z' H' σ ρ T → Rp ⟨X.K, G⟩ Z' H' d v fp → Q v H') → RunE X e σ H Q

/-- what a value's making gives: a new thing, all that stood stands -/
structure Al (K : Ct) (Z H Z' H' : Hp) (d : D) (v : V) : Prop where
  z : Same Z Z'
  h : Same H H'
  si : ∀ L, SI K Z H L → SI K Z' H' (.tr d v :: L)
section
variable {K : Ct} {Z H Z' H' : Hp} {d : D} {v : V} {σ : Sg} {ρ : Env} {T : List It}
theorem Al.sa (a : Al K Z H Z' H' d v) (s : Sa K Z H σ ρ T) : Sa K Z' H' σ ρ (.tr d v :: T) := .of_front s.ok (a.si _ s.si)
theorem Al.flat (r : ∀ Z H, Rp K Z H d v []) : Al K Z H Z H d v := ⟨Same.refl _, Same.refl _, fun L s => s.add (r _ _)⟩
theorem SI.addL {L : List It} : ∀ {ds : List D} {vs : List V}, SI K Z H L → Rps K Z H ds vs [] → SI K Z H (trs ds vs ++ L)
  | [], _, s, _ => s
  | d :: ds, vs, s, r => by
    obtain ⟨v, vs', f1, f2, rfl, e, r1, r2⟩ := r
    obtain ⟨rfl, rfl⟩ := List.append_eq_nil_iff.mp e.symm
    have := SI.addL (ds := ds) (vs := vs') s r2
    exact this.add r1
theorem Al.newL {ds : List D} {vs : List V} {p : Addr} (r : Rps K Z H ds vs []) (hp : H p = none) : Al K Z H Z (upd H p (.lst vs)) (.lst true ds) (.ref p) :=
  ⟨Same.refl _, fun b o e => by rw [upd_ne (ne_of_none e hp)]; exact e, fun L s => SI.newL r.length (s.addL r) hp⟩
theorem Al.newT {ds : List D} {vs : List V} {p : Addr} (z : Same Z H) (r : Rps K Z H ds vs []) (hp : H p = none) : Al K Z H (upd Z p (.tup vs)) (upd H p (.tup vs)) (.tup ds) (.ref p) :=
  ⟨fun b o e => by rw [upd_ne (ne_of_none (z _ _ e) hp)]; exact e, fun b o e => by rw [upd_ne (ne_of_none e hp)]; exact e, fun L s => (SI.newT r.length (s.addL r) hp).2⟩
end

/-- the body's context -/
structure XOk (X : Cx) (W : WX) : Prop where
  calm : X.calm = true
  nd : X.N.Nodup
  tk : Takes X W
  po : PassesOwn (model X.prog X.w) X.A X.env X.xe

section
variable {X : Cx} {G : Nat → Addr} {W : WX} {e a b c : Expr} {pos : Pos}
def dC (d : D) : Env → R Env (D × Env) := fun ρ => .ok (d, ρ)
@[simp] theorem dC_eq (d : D) (ρ : Env) : dC d ρ = .ok (d, ρ) := rfl
theorem ev_val {t : TE} {d : D} {v : V} (h : PE X e t) (ht : ∀ σ H Q, Q v H → t σ H Q) (r : ∀ Z H, Rp ⟨X.K, G⟩ Z H d v []) : Ev X G W true e (dC d) :=
  ⟨fun _ ρ d ρ' h => by cases h; rfl, fun σ H Z ρ T Q S P => toE h (ht _ _ _ (P v H Z (Same.refl _) (fun _ => Same.refl _) (Al.sa (Al.flat r) S)))⟩
theorem ev_int {i : Int} {j} : Ev X G W true (.Constant (.int i) j pos) (dC (.int i)) := ev_val pe_int (fun _ _ _ q => q) fun _ _ => ⟨rfl, rfl⟩
theorem ev_bl {i : Bool} {j} : Ev X G W true (.Constant (.bool i) j pos) (dC (.bl i)) := ev_val pe_bl (fun _ _ _ q => q) fun _ _ => ⟨rfl, rfl⟩
theorem ev_non {j} : Ev X G W true (.Constant .none j pos) (dC .non) := ev_val pe_non (fun _ _ _ q => q) fun _ _ => ⟨rfl, rfl⟩
theorem ev_str {x : Str} {j} (l : List Nat) (h : x = mkS l) : Ev X G W true (.Constant (.str x) j pos) (dC (.str l)) := ev_val pe_str (fun _ _ _ q => q) fun _ _ => ⟨by rw [h], rfl⟩

/-! names -/
def gVar (i : Nat) : Env → Option D := fun ρ => (ρ[i]?).getD none
@[simp] theorem gVar_eq (i : Nat) (ρ : Env) : gVar i ρ = (ρ[i]?).getD none := rfl
theorem gVar_some {i : Nat} {ρ : Env} {d : D} (h : gVar i ρ = some d) : ρ[i]? = some (some d) := by
  unfold gVar at h
  cases e : ρ[i]? with
  | none => rw [e] at h; simp at h
  | some o => rw [e] at h; simp at h; rw [h]
theorem bo_var {i : Nat} (h : PE X e (tVar i)) : Bo X G e (gVar i) :=
  ⟨fun σ H Z ρ T Q d S g q => by
    obtain ⟨v, fp, hv, r⟩ := S.view (gVar_some g)
    exact toE h ⟨v, hv, q v H Z fp (Same.refl _) (Same.refl _) S r⟩⟩
def ofG (g : Env → Option D) : Env → R Env (D × Env) := fun ρ => match g ρ with
  | some d => if isFrz d = true then .ok (d, ρ) else .stuck
  | none => .stuck
@[simp] theorem ofG_eq (g : Env → Option D) (ρ : Env) : ofG g ρ = match g ρ with
  | some d => if isFrz d = true then .ok (d, ρ) else .stuck
  | none => .stuck := rfl
/-- a thing that is frozen may be taken -/
theorem ev_bo {g : Env → Option D} (h : Bo X G e g) : Ev X G W true e (ofG g) := by
  refine ⟨fun _ ρ d ρ' q => ?_, fun σ H Z ρ T Q S P => ?_⟩
  · unfold ofG at q
    split at q
    · split at q
      · cases q; rfl
      · cases q
    · cases q
  · unfold ofG at P
    split at P
    · rename_i d g1
      split at P
      · rename_i f
        refine h.run σ H Z ρ T Q d S g1 fun v H' Z' fp hz hh S' r => P v H' Z' hz (fun _ => hh) ?_
        rw [r.isFrz f] at r
        exact .of_front S'.ok (S'.si.add r)
      · exact P.elim
    · exact P.elim
def toG (f : Env → R Env (D × Env)) : Env → Option D := fun ρ => match f ρ with
  | .ok (d, _) => some d
  | _ => none
@[simp] theorem toG_eq (f : Env → R Env (D × Env)) (ρ : Env) : toG f ρ = match f ρ with
  | .ok (d, _) => some d
  | _ => none := rfl
theorem bo_ev {f : Env → R Env (D × Env)} (h : Ev X G W true e f) : Bo X G e (toG f) :=
  ⟨fun σ H Z ρ T Q d S g q => by
    unfold toG at g
    split at g
    · rename_i d' ρ' e1
      cases g
      refine h.run σ H Z ρ T Q S ?_
      rw [e1]
      intro v H' Z' hz hh S'
      rw [h.q rfl _ _ _ e1] at S'
      obtain ⟨fp, r⟩ := S'.rp
      exact q v H' Z' fp hz (hh rfl) S'.drop r
    · cases g⟩
/-- a name taken, frozen where it was not yet so -/
def dVarF (i : Nat) : Env → R Env (D × Env) := fun ρ => match gVar i ρ with
  | some d => .ok (frz d, ρ.set i (some (frz d)))
  | none => .stuck
theorem ev_varF {i : Nat} (h : PE X e (tVar i)) : Ev X G W false e (dVarF i) := by
  refine ⟨fun z => (Bool.false_ne_true z).elim, fun σ H Z ρ T Q S P => ?_⟩
  unfold dVarF at P
  split at P
  · rename_i d g1
    have g2 := gVar_some g1
    obtain ⟨v, hv, S1⟩ := S.take g2
    obtain ⟨Z1, hz, S2⟩ := S1.freeze
    refine toE h ⟨v, hv, P v H Z1 hz (fun z => (Bool.false_ne_true z).elim) ?_⟩
    have hl : i < σ.length := (List.getElem?_eq_some_iff.mp hv).1
    exact (S2.dup (isFrz_frz d)).back hl hv
  · exact P.elim
/-- a name's thing moved out (the name is not read again) -/
def dVarM (i : Nat) : Env → R Env (D × Env) := fun ρ => match gVar i ρ with
  | some d => .ok (d, ρ.set i none)
  | none => .stuck
theorem ev_varM {i : Nat} (h : PE X e (tVar i)) : Ev X G W false e (dVarM i) := by
  refine ⟨fun z => (Bool.false_ne_true z).elim, fun σ H Z ρ T Q S P => ?_⟩
  unfold dVarM at P
  split at P
  · rename_i d g1
    obtain ⟨v, hv, S1⟩ := S.take (gVar_some g1)
    exact toE h ⟨v, hv, P v H Z (Same.refl _) (fun z => (Bool.false_ne_true z).elim) S1⟩
  · exact P.elim
/-- the fresh thing frozen at once -/
def dFrz (f : Env → R Env (D × Env)) : Env → R Env (D × Env) := fun ρ => (f ρ).bind fun p => .ok (frz p.1, p.2)

/-! two looks, or two things, and an operator -/
abbrev F2 := D → D → Option D
def OpF (X : Cx) (G : Nat → Addr) (r : R2) (F : F2) : Prop := ∀ Z H x y v u fx fy d Q, Same Z H → Rp ⟨X.K, G⟩ Z H x v fx → Rp ⟨X.K, G⟩ Z H y u fy → F x y = some d → (∀ w H' Z', Al ⟨X.K, G⟩ Z H Z' H' d w → Q w H') → r v u H Q
def d2 (F : F2) (f g : Env → R Env (D × Env)) : Env → R Env (D × Env) := fun ρ => (f ρ).bind fun p => (g p.2).bind fun q => (oR (F p.1 q.1)).bind fun d => .ok (d, q.2)
@[simp] theorem d2_eq (F : F2) (f g : Env → R Env (D × Env)) (ρ : Env) : d2 F f g ρ = (f ρ).bind fun p => (g p.2).bind fun q => (oR (F p.1 q.1)).bind fun d => .ok (d, q.2) := rfl
def g2 (F : F2) (f g : Env → Option D) : Env → R Env (D × Env) := fun ρ => match f ρ, g ρ with
  | some x, some y => (oR (F x y)).bind fun d => .ok (d, ρ)
  | _, _ => .stuck
@[simp] theorem g2_eq (F : F2) (f g : Env → Option D) (ρ : Env) : g2 F f g ρ = match f ρ, g ρ with
  | some x, some y => (oR (F x y)).bind fun d => .ok (d, ρ)
  | _, _ => .stuck := rfl
theorem XPost.of {K : Ct} {Z Z' : Hp} {σ : Sg} {T : List It} {W : WX} {c : Nat} {fs : List D} {ρ : Env} (h : XPost K Z σ T W c fs ρ) (e : Same Z Z') : XPost K Z' σ T W c fs ρ :=
  fun dx H' Z1 hz => h dx H' Z1 (e.trans hz)
theorem XPost.drop {K : Ct} {Z : Hp} {σ : Sg} {T : List It} {W : WX} {c : Nat} {fs : List D} {ρ : Env} {x : It} (h : XPost K Z σ T W c fs ρ) : XPost K Z σ (x :: T) W c fs ρ :=
  fun dx H' Z1 hz s => h dx H' Z1 hz s.drop
theorem run2 {r : R2} {F : F2} (hF : OpF X G r F) {b1 b2 : Bool} {f g : Env → R Env (D × Env)} (ha : Ev X G W b1 a f) (hb : Ev X G W b2 b g) {σ : Sg} {H Z : Hp} {ρ : Env} {T : List It} {Q : VK}
    (S : Sa ⟨X.K, G⟩ Z H σ ρ T) (P : EPost ⟨X.K, G⟩ (b1 && b2) Z H σ T W Q (d2 F f g ρ)) : RunE X a σ H fun x H1 => RunE X b σ H1 fun y H2 => r x y H2 Q := by
  refine ha.run σ H Z ρ T _ S ?_
  unfold d2 at P
  cases e1 : f ρ with
  | stuck => rw [e1] at P; exact P
  | exc c fs ρ' => rw [e1] at P; exact P
  | ok p =>
    obtain ⟨x, ρ1⟩ := p
    rw [e1] at P
    intro v H1 Z1 z1 h1 S1
    refine hb.run σ H1 Z1 ρ1 _ _ S1 ?_
    simp only [R.ok_bind] at P
    cases e2 : g ρ1 with
    | stuck => rw [e2] at P; exact P
    | exc c fs ρ' => rw [e2] at P; exact XPost.drop (XPost.of P z1)
    | ok p =>
      obtain ⟨y, ρ2⟩ := p
      rw [e2] at P
      intro u H2 Z2 z2 h2 S2
      simp only [R.ok_bind] at P
      cases e3 : F x y with
      | none => rw [e3] at P; exact P.elim
      | some d =>
        rw [e3] at P
        obtain ⟨fy, ry⟩ := S2.rp
        obtain ⟨fx, rx⟩ := S2.drop.rp
        refine hF Z2 H2 x y v u fx fy d Q S2.si.zh rx ry e3 fun w H' Z' al => P w H' Z' ((z1.trans z2).trans al.z) (fun hb => ?_) (Al.sa al S2.drop.drop)
        rw [Bool.and_eq_true] at hb
        exact ((h1 hb.1).trans (h2 hb.2)).trans al.h
theorem d2_q {F : F2} {b1 b2 : Bool} {f g : Env → R Env (D × Env)} (ha : Ev X G W b1 a f) (hb : Ev X G W b2 b g) : (b1 && b2) = true → ∀ ρ d ρ', d2 F f g ρ = .ok (d, ρ') → ρ' = ρ := by
  intro hq ρ d ρ' e
  rw [Bool.and_eq_true] at hq
  unfold d2 at e
  cases e1 : f ρ with
  | stuck => rw [e1] at e; cases e
  | exc c fs ρ' => rw [e1] at e; cases e
  | ok p =>
    rw [e1] at e
    simp only [R.ok_bind] at e
    have q1 := ha.q hq.1 ρ p.1 p.2 e1
    cases e2 : g p.2 with
    | stuck => rw [e2] at e; cases e
    | exc c fs ρ' => rw [e2] at e; cases e
    | ok q =>
      rw [e2] at e
      simp only [R.ok_bind] at e
      have q2 := hb.q hq.2 _ q.1 q.2 e2
      cases e3 : F p.1 q.1 with
      | none => rw [e3] at e; cases e
      | some x => rw [e3] at e; cases e; rw [q2, q1]
theorem run2g {r : R2} {F : F2} (hF : OpF X G r F) {f g : Env → Option D} (ha : Bo X G a f) (hb : Bo X G b g) {σ : Sg} {H Z : Hp} {ρ : Env} {T : List It} {Q : VK}
    (S : Sa ⟨X.K, G⟩ Z H σ ρ T) (P : EPost ⟨X.K, G⟩ true Z H σ T W Q (g2 F f g ρ)) : RunE X a σ H fun x H1 => RunE X b σ H1 fun y H2 => r x y H2 Q := by
  unfold g2 at P
  split at P
  · rename_i x y e1 e2
    refine ha.run σ H Z ρ T _ x S e1 fun v H1 Z1 fx z1 h1 S1 rx => ?_
    refine hb.run σ H1 Z1 ρ T _ y S1 e2 fun u H2 Z2 fy z2 h2 S2 ry => ?_
    cases e3 : F x y with
    | none => rw [e3] at P; exact P.elim
    | some d =>
      rw [e3] at P
      exact hF Z2 H2 x y v u fx fy d Q S2.si.zh (rx.keep z2 fun b _ o e => h2 b o e) ry e3 fun w H' Z' al => P w H' Z' ((z1.trans z2).trans al.z) (fun _ => (h1.trans h2).trans al.h) (Al.sa al S2)
  · exact P.elim
theorem g2_q {F : F2} {f g : Env → Option D} : true = true → ∀ ρ d ρ', g2 F f g ρ = .ok (d, ρ') → ρ' = ρ := by
  intro _ ρ d ρ' e
  unfold g2 at e
  split at e
  · rename_i x y e1 e2
    cases e3 : F x y with
    | none => rw [e3] at e; cases e
    | some x => rw [e3] at e; cases e; rfl
  · cases e
theorem ev_bin {op : Operator} {r : R2} {F : F2} (ho : OpR X (binaryOp op) r) (hF : OpF X G r F) {b1 b2 : Bool} {f g : Env → R Env (D × Env)} (ha : Ev X G W b1 a f) (hb : Ev X G W b2 b g) :
    Ev X G W (b1 && b2) (.BinOp a op b pos) (d2 F f g) := ⟨d2_q ha hb, fun σ H Z ρ T Q S P => toE (pe_op ho peR peR) (run2 hF ha hb S P)⟩
theorem ev_binG {op : Operator} {r : R2} {F : F2} (ho : OpR X (binaryOp op) r) (hF : OpF X G r F) {f g : Env → Option D} (ha : Bo X G a f) (hb : Bo X G b g) :
    Ev X G W true (.BinOp a op b pos) (g2 F f g) := ⟨g2_q, fun σ H Z ρ T Q S P => toE (pe_op ho peR peR) (run2g hF ha hb S P)⟩
theorem ev_cmp {op : CmpOp} {r : R2} {F : F2} (ho : OpR X (compareOp op) r) (hF : OpF X G r F) (hm : behindInMarks op b = false) {b1 b2 : Bool} {f g : Env → R Env (D × Env)} (ha : Ev X G W b1 a f) (hb : Ev X G W b2 b g) :
    Ev X G W (b1 && b2) (.Compare a [op] [b] pos) (d2 F f g) := ⟨d2_q ha hb, fun σ H Z ρ T Q S P => toE (pe_cmpR ho peR peR hm) (run2 hF ha hb S P)⟩
theorem ev_cmpG {op : CmpOp} {r : R2} {F : F2} (ho : OpR X (compareOp op) r) (hF : OpF X G r F) (hm : behindInMarks op b = false) {f g : Env → Option D} (ha : Bo X G a f) (hb : Bo X G b g) :
    Ev X G W true (.Compare a [op] [b] pos) (g2 F f g) := ⟨g2_q, fun σ H Z ρ T Q S P => toE (pe_cmpR ho peR peR hm) (run2g hF ha hb S P)⟩
/-! tests -/
def asB (f : Env → R Env (D × Env)) : Env → R Env (Bool × Env) := fun ρ => (f ρ).bind fun p => match p.1 with
  | .bl c => .ok (c, p.2)
  | _ => .stuck
theorem asB_q {b1 : Bool} {f : Env → R Env (D × Env)} (hq : b1 = true → ∀ ρ d ρ', f ρ = .ok (d, ρ') → ρ' = ρ) : b1 = true → ∀ ρ d ρ', asB f ρ = .ok (d, ρ') → ρ' = ρ := by
  intro hb ρ d ρ' e
  unfold asB at e
  cases e1 : f ρ with
  | stuck => rw [e1] at e; cases e
  | exc c fs ρ' => rw [e1] at e; cases e
  | ok p =>
    rw [e1] at e
    simp only [R.ok_bind] at e
    split at e
    · cases e; exact hq hb ρ p.1 p.2 e1
    · cases e
theorem asB_post {b1 : Bool} {K : Ct} {Z H : Hp} {σ : Sg} {T : List It} {Q : Bool → Hp → Prop} {f : Env → R Env (D × Env)} {ρ : Env} (P : TPost K b1 Z H σ T W Q (asB f ρ)) :
    EPost K b1 Z H σ T W (fun x H1 => ∃ c, x = .bl c ∧ Q c H1) (f ρ) := by
  unfold asB at P
  cases e1 : f ρ with
  | stuck => rw [e1] at P; exact P
  | exc c fs ρ' => rw [e1] at P; exact P
  | ok p =>
    obtain ⟨d, ρ1⟩ := p
    rw [e1] at P
    intro v H1 Z1 z1 h1 S1
    cases d with
    | bl c =>
      obtain ⟨fp, rv, _⟩ := S1.rp
      exact ⟨c, rv, P H1 Z1 z1 h1 S1.drop⟩
    | _ => exact P.elim
theorem tx_cmp {op : CmpOp} {r : R2} {F : F2} (ho : OpR X (compareOp op) r) (hF : OpF X G r F) (hm : behindInMarks op b = false) {b1 b2 : Bool} {f g : Env → R Env (D × Env)} (ha : Ev X G W b1 a f) (hb : Ev X G W b2 b g) :
    Tx X G W (b1 && b2) (.Compare a [op] [b] pos) (asB (d2 F f g)) :=
  ⟨asB_q (d2_q ha hb), fun σ H Z ρ T Q S P => toT (pt_cmpR ho peR peR hm) (run2 hF ha hb S (asB_post P))⟩
theorem tx_cmpG {op : CmpOp} {r : R2} {F : F2} (ho : OpR X (compareOp op) r) (hF : OpF X G r F) (hm : behindInMarks op b = false) {f g : Env → Option D} (ha : Bo X G a f) (hb : Bo X G b g) :
    Tx X G W true (.Compare a [op] [b] pos) (asB (g2 F f g)) :=
  ⟨asB_q g2_q, fun σ H Z ρ T Q S P => toT (pt_cmpR ho peR peR hm) (run2g hF ha hb S (asB_post P))⟩
/-- an expression that gives a bool -/
theorem tx_val {b1 : Bool} {f : Env → R Env (D × Env)} (ha : Ev X G W b1 a f) (he : ∀ whole, isTrue a X.env whole = (do let v ← whole; standAt a.pos; holding [v] (truthy v)) := by intro _; rfl) : Tx X G W b1 a (asB f) :=
  ⟨asB_q ha.q, fun σ H Z ρ T Q S P => toT (pt_val peR he) (ha.run σ H Z ρ T _ S (asB_post P))⟩
def tNt (f : Env → R Env (Bool × Env)) : Env → R Env (Bool × Env) := fun ρ => (f ρ).bind fun p => .ok (!p.1, p.2)
@[simp] theorem tNt_eq (f : Env → R Env (Bool × Env)) (ρ : Env) : tNt f ρ = (f ρ).bind fun p => .ok (!p.1, p.2) := rfl
theorem tx_not {b1 : Bool} {f : Env → R Env (Bool × Env)} (ha : Tx X G W b1 a f) : Tx X G W b1 (.UnaryOp .Not a pos) (tNt f) := by
  refine ⟨fun hb ρ d ρ' e => ?_, fun σ H Z ρ T Q S P => toT (pt_not ptR) (ha.run σ H Z ρ T _ S ?_)⟩
  · unfold tNt at e
    cases e1 : f ρ with
    | stuck => rw [e1] at e; cases e
    | exc c fs ρ' => rw [e1] at e; cases e
    | ok p => rw [e1] at e; cases e; exact ha.q hb ρ p.1 p.2 e1
  · unfold tNt at P
    cases e1 : f ρ with
    | stuck => rw [e1] at P; exact P
    | exc c fs ρ' => rw [e1] at P; exact P
    | ok p => rw [e1] at P; exact P
def tAn (f g : Env → R Env (Bool × Env)) : Env → R Env (Bool × Env) := fun ρ => (f ρ).bind fun p => if p.1 = true then g p.2 else .ok (false, p.2)
@[simp] theorem tAn_eq (f g : Env → R Env (Bool × Env)) (ρ : Env) : tAn f g ρ = (f ρ).bind fun p => if p.1 = true then g p.2 else .ok (false, p.2) := rfl
def tOu (f g : Env → R Env (Bool × Env)) : Env → R Env (Bool × Env) := fun ρ => (f ρ).bind fun p => if p.1 = true then .ok (true, p.2) else g p.2
@[simp] theorem tOu_eq (f g : Env → R Env (Bool × Env)) (ρ : Env) : tOu f g ρ = (f ρ).bind fun p => if p.1 = true then .ok (true, p.2) else g p.2 := rfl
theorem TPost.of {K : Ct} {Z Z1 H H1 : Hp} {σ : Sg} {T : List It} {Q : Bool → Hp → Prop} {b1 b2 : Bool} {r : R Env (Bool × Env)} (P : TPost K (b1 && b2) Z H σ T W Q r) (z : Same Z Z1) (h : b1 = true → Same H H1) : TPost K b2 Z1 H1 σ T W Q r := by
  cases r with
  | stuck => exact P
  | exc c fs ρ' => exact XPost.of P z
  | ok p => exact fun H' Z' z' h' S' => P H' Z' (z.trans z') (fun hb => by rw [Bool.and_eq_true] at hb; exact (h hb.1).trans (h' hb.2)) S'
theorem EPost.of {K : Ct} {Z Z1 H H1 : Hp} {σ : Sg} {T : List It} {Q : VK} {b1 b2 : Bool} {r : R Env (D × Env)} (P : EPost K (b1 && b2) Z H σ T W Q r) (z : Same Z Z1) (h : b1 = true → Same H H1) : EPost K b2 Z1 H1 σ T W Q r := by
  cases r with
  | stuck => exact P
  | exc c fs ρ' => exact XPost.of P z
  | ok p => exact fun v H' Z' z' h' S' => P v H' Z' (z.trans z') (fun hb => by rw [Bool.and_eq_true] at hb; exact (h hb.1).trans (h' hb.2)) S'
theorem TPost.end1 {K : Ct} {Z Z1 H H1 : Hp} {σ : Sg} {T : List It} {Q : Bool → Hp → Prop} {b1 b2 : Bool} {c : Bool} {ρ' : Env} (P : TPost K (b1 && b2) Z H σ T W Q (.ok (c, ρ'))) (z : Same Z Z1) (h : b1 = true → Same H H1) (s : Sa K Z1 H1 σ ρ' T) : Q c H1 :=
  P H1 Z1 z (fun hb => by rw [Bool.and_eq_true] at hb; exact h hb.1) s
theorem tAO_q {b1 b2 : Bool} {f g k : Env → R Env (Bool × Env)} (hf : b1 = true → ∀ ρ d ρ', f ρ = .ok (d, ρ') → ρ' = ρ) (hg : b2 = true → ∀ ρ d ρ', g ρ = .ok (d, ρ') → ρ' = ρ) (hk : k = tAn f g ∨ k = tOu f g) :
    (b1 && b2) = true → ∀ ρ d ρ', k ρ = .ok (d, ρ') → ρ' = ρ := by
  intro hb ρ d ρ' e
  rw [Bool.and_eq_true] at hb
  have key : ∀ p, f ρ = .ok p → p.2 = ρ := fun p e1 => hf hb.1 ρ p.1 p.2 e1
  rcases hk with rfl | rfl
  · unfold tAn at e
    cases e1 : f ρ with
    | stuck => rw [e1] at e; cases e
    | exc c fs ρ' => rw [e1] at e; cases e
    | ok p =>
      rw [e1] at e
      simp only [R.ok_bind] at e
      split at e
      · rw [hg hb.2 _ _ _ e, key p e1]
      · cases e; exact key p e1
  · unfold tOu at e
    cases e1 : f ρ with
    | stuck => rw [e1] at e; cases e
    | exc c fs ρ' => rw [e1] at e; cases e
    | ok p =>
      rw [e1] at e
      simp only [R.ok_bind] at e
      split at e
      · cases e; exact key p e1
      · rw [hg hb.2 _ _ _ e, key p e1]
theorem tw_and1 {b1 : Bool} {f : Env → R Env (Bool × Env)} (ha : Tx X G W b1 a f) : Tw X G W b1 (.BoolOp .And [a] pos) f :=
  ⟨ha.q, fun σ H Z ρ T Q S P => toW (pw_and1 ptR) (ha.run σ H Z ρ T _ S P)⟩
theorem tw_or1 {b1 : Bool} {f : Env → R Env (Bool × Env)} (ha : Tx X G W b1 a f) : Tw X G W b1 (.BoolOp .Or [a] pos) f :=
  ⟨ha.q, fun σ H Z ρ T Q S P => toW (pw_or1 ptR) (ha.run σ H Z ρ T _ S P)⟩
theorem tw_and {rest : List Expr} {b1 b2 : Bool} {f g : Env → R Env (Bool × Env)} (ha : Tx X G W b1 a f) (hb : Tw X G W b2 (.BoolOp .And (b :: rest) pos) g) : Tw X G W (b1 && b2) (.BoolOp .And (a :: b :: rest) pos) (tAn f g) := by
  refine ⟨tAO_q ha.q hb.q (.inl rfl), fun σ H Z ρ T Q S P => toW (pw_and ptR pwR) (ha.run σ H Z ρ T _ S ?_)⟩
  unfold tAn at P
  cases e1 : f ρ with
  | stuck => rw [e1] at P; exact P
  | exc c fs ρ' => rw [e1] at P; exact P
  | ok p =>
    obtain ⟨c, ρ1⟩ := p
    rw [e1] at P
    simp only [R.ok_bind] at P
    intro H1 Z1 z1 h1 S1
    cases c with
    | true => rw [if_pos rfl] at P ⊢; exact hb.run σ H1 Z1 ρ1 T Q S1 (P.of z1 h1)
    | false => rw [if_neg Bool.false_ne_true] at P ⊢; exact P.end1 z1 h1 S1
theorem tw_or {rest : List Expr} {b1 b2 : Bool} {f g : Env → R Env (Bool × Env)} (ha : Tx X G W b1 a f) (hb : Tw X G W b2 (.BoolOp .Or (b :: rest) pos) g) : Tw X G W (b1 && b2) (.BoolOp .Or (a :: b :: rest) pos) (tOu f g) := by
  refine ⟨tAO_q ha.q hb.q (.inr rfl), fun σ H Z ρ T Q S P => toW (pw_or ptR pwR) (ha.run σ H Z ρ T _ S ?_)⟩
  unfold tOu at P
  cases e1 : f ρ with
  | stuck => rw [e1] at P; exact P
  | exc c fs ρ' => rw [e1] at P; exact P
  | ok p =>
    obtain ⟨c, ρ1⟩ := p
    rw [e1] at P
    simp only [R.ok_bind] at P
    intro H1 Z1 z1 h1 S1
    cases c with
    | true => rw [if_pos rfl] at P ⊢; exact P.end1 z1 h1 S1
    | false => rw [if_neg Bool.false_ne_true] at P ⊢; exact hb.run σ H1 Z1 ρ1 T Q S1 (P.of z1 h1)
end
end Tw

set_option maxRecDepth 100000
namespace Tw
open PySem PySem.Spec L2

/-! ### statements -/
inductive Out where
  | nx (ρ : Env) | rt (d : D) (ρ : Env) | bk (ρ : Env) | ct (ρ : Env)
def Fx (fx : List Nat) (σ σ' : Sg) : Prop := σ'.length = σ.length ∧ ∀ i ∈ fx, σ'[i]? = σ[i]?
theorem Fx.refl {fx : List Nat} {σ : Sg} : Fx fx σ σ := ⟨rfl, fun _ _ => rfl⟩
theorem Fx.trans {fx : List Nat} {σ σ1 σ2 : Sg} (a : Fx fx σ σ1) (b : Fx fx σ1 σ2) : Fx fx σ σ2 := ⟨b.1.trans a.1, fun i hi => (b.2 i hi).trans (a.2 i hi)⟩
theorem Fx.set {fx : List Nat} {σ : Sg} {i : Nat} {x : Option V} (h : i ∉ fx) : Fx fx σ (σ.set i x) := ⟨List.length_set, fun j hj => List.getElem?_set_ne fun e => h (by rw [e]; exact hj)⟩
def YPost (K : Ct) (fx : List Nat) (Z : Hp) (σ : Sg) (T : List It) (W : WX) (c : Nat) (fs : List D) (ρ' : Env) : Prop :=
  ∀ dx σ' H' Z', Same Z Z' → Fx fx σ σ' → Sa K Z' H' σ' ρ' T → ExR K Z' dx fs → W (.ref (K.G (c + 1))) dx σ' H'
def SPost (K : Ct) (fx : List Nat) (Z : Hp) (σ : Sg) (T : List It) (W : WX) (D : Ends) : R Env Out → Prop
  | .ok (.nx ρ') => ∀ σ' H' Z', Same Z Z' → Fx fx σ σ' → Sa K Z' H' σ' ρ' T → D.nx σ' H'
  | .ok (.bk ρ') => ∀ σ' H' Z', Same Z Z' → Fx fx σ σ' → Sa K Z' H' σ' ρ' T → D.bk σ' H'
  | .ok (.ct ρ') => ∀ σ' H' Z', Same Z Z' → Fx fx σ σ' → Sa K Z' H' σ' ρ' T → D.ct σ' H'
  | .ok (.rt d ρ') => ∀ v σ' H' Z', Same Z Z' → Fx fx σ σ' → Sa K Z' H' σ' ρ' (.tr d v :: T) → D.rt v H'
  | .exc c fs ρ' => YPost K fx Z σ T W c fs ρ'
  | .stuck => False
structure Sx (X : Cx) (G : Nat → Addr) (W : WX) (fx : List Nat) (st : Stmt) (g : Env → R Env Out) : Prop where
  run : ∀ σ H Z ρ T (D : Ends), Sa ⟨X.K, G⟩ Z H σ ρ T → SPost ⟨X.K, G⟩ fx Z σ T W D (g ρ) → RunS X st σ H D
structure Bx (X : Cx) (G : Nat → Addr) (W : WX) (fx : List Nat) (st : List Stmt) (g : Env → R Env Out) : Prop where
  run : ∀ σ H Z ρ T (D : Ends), Sa ⟨X.K, G⟩ Z H σ ρ T → SPost ⟨X.K, G⟩ fx Z σ T W D (g ρ) → RunB X st σ H D
section
variable {X : Cx} {G : Nat → Addr} {W : WX} {fx : List Nat} {e a b c tg iter : Expr} {pos : Pos} {st : Stmt} {sts : List Stmt}
theorem SPost.of {K : Ct} {Z Z1 : Hp} {σ σ1 : Sg} {T : List It} {D : Ends} {r : R Env Out} (P : SPost K fx Z σ T W D r) (z : Same Z Z1) (f : Fx fx σ σ1) : SPost K fx Z1 σ1 T W D r := by
  cases r with
  | stuck => exact P
  | exc c fs ρ' => exact fun dx σ' H' Z' z' f' => P dx σ' H' Z' (z.trans z') (f.trans f')
  | ok o =>
    cases o with
    | nx ρ' => exact fun σ' H' Z' z' f' => P σ' H' Z' (z.trans z') (f.trans f')
    | bk ρ' => exact fun σ' H' Z' z' f' => P σ' H' Z' (z.trans z') (f.trans f')
    | ct ρ' => exact fun σ' H' Z' z' f' => P σ' H' Z' (z.trans z') (f.trans f')
    | rt d ρ' => exact fun v σ' H' Z' z' f' => P v σ' H' Z' (z.trans z') (f.trans f')
theorem YPost.x {K : Ct} {Z : Hp} {σ : Sg} {T : List It} {c : Nat} {fs : List D} {ρ' : Env} (P : YPost K fx Z σ T W c fs ρ') : XPost K Z σ T W c fs ρ' :=
  fun dx H' Z' z s x => P dx σ H' Z' z .refl s x
def sNil : Env → R Env Out := fun ρ => .ok (.nx ρ)
def sSeq (g h : Env → R Env Out) : Env → R Env Out := fun ρ => (g ρ).bind fun o => match o with
  | .nx ρ' => h ρ'
  | o => .ok o
@[simp] theorem sNil_eq (ρ : Env) : sNil ρ = .ok (.nx ρ) := rfl
@[simp] theorem sSeq_eq (g h : Env → R Env Out) (ρ : Env) : sSeq g h ρ = (g ρ).bind fun o => match o with
  | .nx ρ' => h ρ'
  | o => .ok o := rfl
theorem bx_nil : Bx X G W fx [] sNil := ⟨fun σ H Z ρ T D S P => toB pss_nil (P σ H Z (Same.refl _) .refl S)⟩
theorem bx_cons {g h : Env → R Env Out} (h1 : Sx X G W fx st g) (h2 : Bx X G W fx sts h) : Bx X G W fx (st :: sts) (sSeq g h) := by
  refine ⟨fun σ H Z ρ T D S P => toB (pss_cons psR pbR) (h1.run σ H Z ρ T _ S ?_)⟩
  unfold sSeq at P
  cases e1 : g ρ with
  | stuck => rw [e1] at P; exact P
  | exc c fs ρ' => rw [e1] at P; exact P
  | ok o =>
    rw [e1] at P
    simp only [R.ok_bind] at P
    cases o with
    | nx ρ' => exact fun σ' H' Z' z' f' S' => h2.run σ' H' Z' ρ' T D S' (P.of z' f')
    | bk ρ' => exact P
    | ct ρ' => exact P
    | rt d ρ' => exact P
theorem bx_one {g : Env → R Env Out} (h1 : Sx X G W fx st g) : Bx X G W fx [st] g :=
  ⟨fun σ H Z ρ T D S P => toB (pss_one psR) (h1.run σ H Z ρ T D S P)⟩
theorem sx_pass : Sx X G W fx (.Pass pos) sNil := ⟨fun σ H Z ρ T D S P => toS ps_pass (P σ H Z (Same.refl _) .refl S)⟩
def sBrk : Env → R Env Out := fun ρ => .ok (.bk ρ)
def sCnt : Env → R Env Out := fun ρ => .ok (.ct ρ)
@[simp] theorem sBrk_eq (ρ : Env) : sBrk ρ = .ok (.bk ρ) := rfl
@[simp] theorem sCnt_eq (ρ : Env) : sCnt ρ = .ok (.ct ρ) := rfl
theorem sx_break : Sx X G W fx (.Break pos) sBrk := ⟨fun σ H Z ρ T D S P => toS ps_break (P σ H Z (Same.refl _) .refl S)⟩
theorem sx_cont : Sx X G W fx (.Continue pos) sCnt := ⟨fun σ H Z ρ T D S P => toS ps_continue (P σ H Z (Same.refl _) .refl S)⟩
def sStuck : Env → R Env Out := fun _ => .stuck
theorem sx_never : Sx X G W fx st sStuck := ⟨fun σ H Z ρ T D S P => P.elim⟩
def sExp (f : Env → R Env (D × Env)) : Env → R Env Out := fun ρ => (f ρ).bind fun p => .ok (.nx p.2)
@[simp] theorem sExp_eq (f : Env → R Env (D × Env)) (ρ : Env) : sExp f ρ = (f ρ).bind fun p => .ok (.nx p.2) := rfl
theorem sx_expr {b1 : Bool} {f : Env → R Env (D × Env)} (h : Ev X G W b1 e f) (hs : swapsWith e none pos.line X.env = pure false := by rfl) : Sx X G W fx (.Expr e pos) (sExp f) := by
  refine ⟨fun σ H Z ρ T D S P => toS (ps_expr peR hs) (h.run σ H Z ρ T _ S ?_)⟩
  unfold sExp at P
  cases e1 : f ρ with
  | stuck => rw [e1] at P; exact P
  | exc c fs ρ' => rw [e1] at P; exact YPost.x P
  | ok p =>
    rw [e1] at P
    exact fun v H' Z' z' h' S' => P σ H' Z' z' .refl S'.drop
def sRet (f : Env → R Env (D × Env)) : Env → R Env Out := fun ρ => (f ρ).bind fun p => .ok (.rt p.1 p.2)
@[simp] theorem sRet_eq (f : Env → R Env (D × Env)) (ρ : Env) : sRet f ρ = (f ρ).bind fun p => .ok (.rt p.1 p.2) := rfl
theorem sx_ret {b1 : Bool} {f : Env → R Env (D × Env)} (h : Ev X G W b1 e f) : Sx X G W fx (.Return (some e) pos) (sRet f) := by
  refine ⟨fun σ H Z ρ T D S P => toS (ps_ret peR) (h.run σ H Z ρ T _ S ?_)⟩
  unfold sRet at P
  cases e1 : f ρ with
  | stuck => rw [e1] at P; exact P
  | exc c fs ρ' => rw [e1] at P; exact YPost.x P
  | ok p =>
    rw [e1] at P
    exact fun v H' Z' z' h' S' => P v σ H' Z' z' .refl S'
def sRetN : Env → R Env Out := fun ρ => .ok (.rt .non ρ)
@[simp] theorem sRetN_eq (ρ : Env) : sRetN ρ = .ok (.rt .non ρ) := rfl
theorem sx_retN : Sx X G W fx (.Return none pos) sRetN :=
  ⟨fun σ H Z ρ T D S P => toS ps_retN (P .non σ H Z (Same.refl _) .refl (Al.sa (Al.flat (fun _ _ => ⟨rfl, rfl⟩)) S))⟩
def sIf (t : Env → R Env (Bool × Env)) (g h : Env → R Env Out) : Env → R Env Out := fun ρ => (t ρ).bind fun p => if p.1 = true then g p.2 else h p.2
@[simp] theorem sIf_eq (t : Env → R Env (Bool × Env)) (g h : Env → R Env Out) (ρ : Env) : sIf t g h ρ = (t ρ).bind fun p => if p.1 = true then g p.2 else h p.2 := rfl
theorem sx_if {p q : List Stmt} {b1 : Bool} {t : Env → R Env (Bool × Env)} {g h : Env → R Env Out} (ht : Tx X G W b1 c t) (h1 : Bx X G W fx p g) (h2 : Bx X G W fx q h) : Sx X G W fx (.If c p q pos) (sIf t g h) := by
  refine ⟨fun σ H Z ρ T D S P => toS (ps_if ptR pbR pbR) (ht.run σ H Z ρ T _ S ?_)⟩
  unfold sIf at P
  cases e1 : t ρ with
  | stuck => rw [e1] at P; exact P
  | exc c fs ρ' => rw [e1] at P; exact YPost.x P
  | ok r =>
    obtain ⟨k, ρ1⟩ := r
    rw [e1] at P
    simp only [R.ok_bind] at P
    intro H1 Z1 z1 _ S1
    cases k with
    | true => rw [if_pos rfl] at P ⊢; exact h1.run σ H1 Z1 ρ1 T D S1 (P.of z1 .refl)
    | false => rw [if_neg Bool.false_ne_true] at P ⊢; exact h2.run σ H1 Z1 ρ1 T D S1 (P.of z1 .refl)
/-! targets -/
structure Tg (X : Cx) (G : Nat → Addr) (fx : List Nat) (tg : Expr) (w : D → Env → Option Env) : Prop where
  run : ∀ σ H Z ρ T d v ρ' (Q : Sg → Hp → Prop), Sa ⟨X.K, G⟩ Z H σ ρ (.tr d v :: T) → w d ρ = some ρ' → (∀ σ', Fx fx σ σ' → Sa ⟨X.K, G⟩ Z H σ' ρ' T → Q σ' H) →
    ∀ pins s u, Inv X pins σ H s → RelV v u → wpAny (model X.prog X.w) X.A (assign tg X.env u) (fun _ s' => ∃ σ' H', Inv X pins σ' H' s' ∧ Q σ' H') X.xe s
structure Tgs (X : Cx) (G : Nat → Addr) (fx : List Nat) (tgs : List Expr) (w : List D → Env → Option Env) : Prop where
  run : ∀ σ H Z ρ T ds vs ρ' (Q : Sg → Hp → Prop), ds.length = vs.length → Sa ⟨X.K, G⟩ Z H σ ρ (trs ds vs ++ T) → w ds ρ = some ρ' → (∀ σ', Fx fx σ σ' → Sa ⟨X.K, G⟩ Z H σ' ρ' T → Q σ' H) →
    ∀ pins s us, Inv X pins σ H s → Vals vs us → wpAny (model X.prog X.w) X.A (assignInOrder ((assignEach tgs X.env).map (·.2)) us) (fun _ s' => ∃ σ' H', Inv X pins σ' H' s' ∧ Q σ' H') X.xe s
def wName (i : Nat) : D → Env → Option Env := fun d ρ => some (ρ.set i (some d))
@[simp] theorem wName_eq (i : Nat) (d : D) (ρ : Env) : wName i d ρ = some (ρ.set i (some d)) := rfl
theorem tg_name {i : Nat} {x : Str} (h : PG X (.Name x pos) (gName i)) (hi : X.N[i]? = some x) (hf : i ∉ fx) : Tg X G fx (.Name x pos) (wName i) := by
  refine ⟨fun σ H Z ρ T d v ρ' Q S e q pins s u I r => h.run pins s σ H v u Q I r ?_⟩
  cases e
  refine q _ (.set hf) (S.put ?_)
  have := (List.getElem?_eq_some_iff.mp hi).1
  rw [I.len]; exact this
def wNil : List D → Env → Option Env
  | [], ρ => some ρ
  | _, _ => none
def wCons (w : D → Env → Option Env) (ws : List D → Env → Option Env) : List D → Env → Option Env
  | d :: ds, ρ => (w d ρ).bind (ws ds)
  | _, _ => none
@[simp] theorem wNil_eq (ρ : Env) : wNil [] ρ = some ρ := rfl
@[simp] theorem wCons_eq (w : D → Env → Option Env) (ws : List D → Env → Option Env) (d : D) (ds : List D) (ρ : Env) : wCons w ws (d :: ds) ρ = (w d ρ).bind (ws ds) := rfl
theorem tgs_nil : Tgs X G fx [] wNil := by
  refine ⟨fun σ H Z ρ T ds vs ρ' Q l S e q pins s us I r => ?_⟩
  cases ds with
  | nil =>
    cases vs with
    | nil => cases r; cases e; exact pgs_nil.run pins s σ H [] [] Q I .nil ⟨rfl, q σ .refl S⟩
    | cons _ _ => cases l
  | cons _ _ => cases e
theorem tgs_cons {es : List Expr} {w : D → Env → Option Env} {ws : List D → Env → Option Env} (h1 : Tg X G fx e w) (h2 : Tgs X G fx es ws)
    (hs : (assignEach (e :: es) X.env).map (·.2) = assign e X.env :: (assignEach es X.env).map (·.2) := by rfl) : Tgs X G fx (e :: es) (wCons w ws) := by
  refine ⟨fun σ H Z ρ T ds vs ρ' Q l S e q pins s us I r => ?_⟩
  cases ds with
  | nil => cases e
  | cons d ds =>
    cases vs with
    | nil => cases l
    | cons v vs =>
      cases r with
      | cons r rr =>
        rw [hs]
        simp only [wCons_eq] at e
        cases e1 : w d ρ with
        | none => rw [e1] at e; cases e
        | some ρ1 =>
          rw [e1] at e
          refine PyProof.Rows.assignInOrder_cons (thn (h1.run σ H Z ρ (trs ds vs ++ T) d v ρ1 (fun σ1 H1 => H1 = H ∧ Fx fx σ σ1 ∧ Sa ⟨X.K, G⟩ Z H1 σ1 ρ1 (trs ds vs ++ T)) S e1 (fun σ1 f1 S1 => ⟨rfl, f1, S1⟩) pins s _ I r) fun _ s1 ⟨σ1, H1, I1, e0, f1, S1⟩ => ?_)
          subst e0
          exact h2.run σ1 H1 Z ρ1 T ds vs ρ' Q (by simpa using l) S1 e (fun σ2 f2 S2 => q σ2 (f1.trans f2) S2) pins s1 _ I1 rr
def wTup (n : Nat) (ws : List D → Env → Option Env) : D → Env → Option Env
  | .tup ds, ρ => if ds.length = n then ws ds ρ else none
  | .nd _ .lst ds, ρ => if ds.length = n then ws ds ρ else none
  | _, _ => none
@[simp] theorem wTup_eq (n : Nat) (ws : List D → Env → Option Env) (ds : List D) (ρ : Env) : wTup n ws (.tup ds) ρ = if ds.length = n then ws ds ρ else none := rfl
theorem Sa.untup {K : Ct} {Z H : Hp} {σ : Sg} {ρ : Env} {T : List It} {ds : List D} {v : V} (S : Sa K Z H σ ρ (.tr (.tup ds) v :: T)) : ∃ a vs, v = .ref a ∧ SqT K.K Z a vs ∧ ds.length = vs.length ∧ Sa K Z H σ ρ (trs ds vs ++ T) := by
  have f := S.front
  obtain ⟨z, fp, ⟨f1, f2, rfl, ⟨a, vs, e, s, r⟩, h2⟩, n, q⟩ := f
  refine ⟨a, vs, e, s, r.length, S.ok, ?_⟩
  have : SI K Z H (trs ds vs ++ (envL σ ρ ++ T)) := ⟨z, f1 ++ f2, (by rw [List.append_assoc]; exact r.trs.app h2), n, q⟩
  refine this.perm ?_
  rw [← List.append_assoc, ← List.append_assoc]
  exact List.perm_append_comm.append_right T
theorem Sa.unlst {K : Ct} {Z H : Hp} {σ : Sg} {ρ : Env} {T : List It} {m : Bool} {ds : List D} {v : V} (S : Sa K Z H σ ρ (.tr (.nd m .lst ds) v :: T)) : ∃ a vs, v = .ref a ∧ SqL K.K H a vs ∧ ds.length = vs.length ∧ Sa K Z H σ ρ (trs ds vs ++ T) := by
  have f := S.front
  suffices h : ∃ a vs, v = .ref a ∧ SqL K.K H a vs ∧ ds.length = vs.length ∧ SI K Z H (trs ds vs ++ (envL σ ρ ++ T)) by
    obtain ⟨a, vs, e, q, l, s⟩ := h
    refine ⟨a, vs, e, q, l, S.ok, s.perm ?_⟩
    rw [← List.append_assoc, ← List.append_assoc]
    exact List.perm_append_comm.append_right T
  cases m with
  | true =>
    obtain ⟨a, vs, e, l, s⟩ := f.opn
    obtain ⟨own, c⟩ := s.cell
    exact ⟨a, vs, e, SqL.of c.1, l, s.drop⟩
  | false =>
    obtain ⟨z, fp, ⟨f1, f2, rfl, ⟨a, vs, e, ⟨own, c⟩, r, rfl⟩, h2⟩, n, q⟩ := f
    exact ⟨a, vs, e, SqL.of (z _ _ c.1), r.length, z, [] ++ f2, (by rw [List.append_assoc]; exact r.trs.app h2), n, q⟩
theorem tg_tup {es : List Expr} {k : Nat} {n : Nat} {ws : List D → Env → Option Env} (hc : X.calm = true) (h : Tgs X G fx es ws)
    (hn : (assignEach es X.env).length = n := by rfl) (hst : (assignEach es X.env).findIdx? (·.1) = none := by rfl) : Tg X G fx (.Tuple es k pos) (wTup n ws) := by
  refine ⟨fun σ H Z ρ T d v ρ' Q S e q pins s u I r => ?_⟩
  cases d with
  | tup ds =>
    obtain ⟨a, vs, rfl, sq, l, S'⟩ := S.untup
    simp only [wTup_eq] at e
    split at e
    · rename_i hl
      have hP : PGs X es (fun xs σ H Q => ∀ pins s us, Inv X pins σ H s → Vals xs us → wpAny (model X.prog X.w) X.A (assignInOrder ((assignEach es X.env).map (·.2)) us) (fun _ s' => ∃ σ' H', Inv X pins σ' H' s' ∧ Q σ' H') X.xe s) :=
        ⟨fun pins s σ H vs us Q I r h => h pins s us I r⟩
      exact (pg_tup hc hP hn hst).run pins s σ H (.ref a) u Q I r ⟨a, vs, rfl, sqT_mono sq S.si.zh, by omega, fun pins s us I r => h.run σ H Z ρ T ds vs ρ' Q l S' e q pins s us I r⟩
    · cases e
  | nd m kd ds =>
    cases kd with
    | lst =>
      obtain ⟨a, vs, rfl, sq, l, S'⟩ := S.unlst
      have e : (if ds.length = n then ws ds ρ else none) = some ρ' := by cases m <;> exact e
      split at e
      · rename_i hl
        have hP : PGs X es (fun xs σ H Q => ∀ pins s us, Inv X pins σ H s → Vals xs us → wpAny (model X.prog X.w) X.A (assignInOrder ((assignEach es X.env).map (·.2)) us) (fun _ s' => ∃ σ' H', Inv X pins σ' H' s' ∧ Q σ' H') X.xe s) :=
          ⟨fun pins s σ H vs us Q I r h => h pins s us I r⟩
        exact (pg_unl hc hP hn hst).run pins s σ H (.ref a) u Q I r ⟨a, vs, rfl, sq, by omega, fun pins s us I r => h.run σ H Z ρ T ds vs ρ' Q l S' e q pins s us I r⟩
      · cases e
    | _ => cases m <;> cases e
  | _ => cases e
theorem pgT {w : D → Env → Option Env} (h : Tg X G fx tg w) : PG X tg (fun v σ H Q => ∃ Z ρ T d ρ', Sa ⟨X.K, G⟩ Z H σ ρ (.tr d v :: T) ∧ w d ρ = some ρ' ∧ ∀ σ', Fx fx σ σ' → Sa ⟨X.K, G⟩ Z H σ' ρ' T → Q σ' H) :=
  ⟨fun pins s σ H v u Q I r ⟨Z, ρ, T, d, ρ', S, e, q⟩ => h.run σ H Z ρ T d v ρ' Q S e q pins s u I r⟩
def sAsg (f : Env → R Env (D × Env)) (w : D → Env → Option Env) : Env → R Env Out := fun ρ => (f ρ).bind fun p => (oR (w p.1 p.2)).bind fun ρ' => .ok (.nx ρ')
@[simp] theorem sAsg_eq (f : Env → R Env (D × Env)) (w : D → Env → Option Env) (ρ : Env) : sAsg f w ρ = (f ρ).bind fun p => (oR (w p.1 p.2)).bind fun ρ' => .ok (.nx ρ') := rfl
theorem sx_asg {b1 : Bool} {f : Env → R Env (D × Env)} {w : D → Env → Option Env} (he : Ev X G W b1 e f) (hg : Tg X G fx tg w) (hs : swapsWithSole [tg] e pos.line X.env = pure false := by rfl) (hw : swappedStores [tg] e X.env = pure none := by rfl)
    (h1 : (assignEach [tg] X.env).map (·.2) = [assign tg X.env] := by rfl) : Sx X G W fx (.Assign [tg] e pos) (sAsg f w) := by
  refine ⟨fun σ H Z ρ T D S P => toS (ps_asg peR (pgT hg) hs hw h1) (he.run σ H Z ρ T _ S ?_)⟩
  unfold sAsg at P
  cases e1 : f ρ with
  | stuck => rw [e1] at P; exact P
  | exc c fs ρ' => rw [e1] at P; exact YPost.x P
  | ok p =>
    obtain ⟨d, ρ1⟩ := p
    rw [e1] at P
    simp only [R.ok_bind] at P
    intro v H1 Z1 z1 h1 S1
    cases e2 : w d ρ1 with
    | none => rw [e2] at P; exact P.elim
    | some ρ2 =>
      rw [e2] at P
      exact ⟨Z1, ρ1, T, d, ρ2, S1, e2, fun σ' f' S' => P σ' H1 Z1 z1 f' S'⟩
theorem sx_set {b1 : Bool} {f : Env → R Env (D × Env)} {i : Nat} {x : Str} {pos' : Pos} (he : Ev X G W b1 e f) (hN : X.N.Nodup) (hi : X.N[i]? = some x) (hx : Loc X.env.scope x) (hF : i ∉ fx) (hs : swapsWith e (some (.Name x pos')) pos.line X.env = pure false := by rfl)
    (hf : X.fn x = true ∨ X.env.scope.names.lookup x = some .local := by first | exact .inl rfl | exact .inr rfl | assumption) : Sx X G W fx (.Assign [.Name x pos'] e pos) (sAsg f (wName i)) := by
  refine ⟨fun σ H Z ρ T D S P pins s I => (ps_set hN hi hx peR hs hf).run pins s σ H D I (he.run σ H Z ρ T _ S ?_)⟩
  have hl : i < σ.length := by rw [I.len]; exact (List.getElem?_eq_some_iff.mp hi).1
  unfold sAsg at P
  cases e1 : f ρ with
  | stuck => rw [e1] at P; exact P
  | exc c fs ρ' => rw [e1] at P; exact YPost.x P
  | ok p =>
    rw [e1] at P
    exact fun v H1 Z1 z1 h1 S1 => P _ H1 Z1 z1 (.set hF) (S1.put hl)
/-! loops -/
structure Itr (K : Ct) (Z0 : Hp) (J : L2.It) (items : List D) : Prop where
  frz : ∀ d ∈ items, isFrz d = true
  stop : ∀ Z H, Same Z0 Z → Same Z H → J.stop items.length H
  go : ∀ i, i < items.length → ∀ Z H, Same Z0 Z → Same Z H → J.go i H
  yld : ∀ i d, items[i]? = some d → ∀ Z H x H', Same Z0 Z → Same Z H → J.yld i H x H' → ∃ Z', Al K Z H Z' H' d x
def RunI (X : Cx) (tg iter : Expr) (σ : Sg) (H : Hp) (Q : L2.It → Hp → Prop) : Prop := ∀ pins s, Inv X pins σ H s →
  wpAny (model X.prog X.w) X.A (eval iter X.env) (fun v s1 => wpAny (model X.prog X.w) X.A (pyIter v) (PIE X pins σ tg Q) X.xe s1) X.xe s
theorem piR : PI X tg iter (RunI X tg iter) := ⟨fun pins s σ H Q I h => h pins s I⟩
theorem toI {t : TI} (h : PI X tg iter t) {σ : Sg} {H : Hp} {Q : L2.It → Hp → Prop} (q : t σ H Q) : RunI X tg iter σ H Q := fun pins s I => h.run pins s σ H Q I q
def IPost (K : Ct) (b : Bool) (Z H : Hp) (σ : Sg) (T : List It) (W : WX) (Q : L2.It → Hp → Prop) : R Env (List D × Env) → Prop
  | .ok (ds, ρ') => ∀ J H' Z', Same Z Z' → (b = true → Same H H') → Sa K Z' H' σ ρ' T → Itr K Z' J ds → Q J H'
  | .exc c fs ρ' => XPost K Z σ T W c fs ρ'
  | .stuck => False
structure Ix (X : Cx) (G : Nat → Addr) (W : WX) (b : Bool) (tg iter : Expr) (f : Env → R Env (List D × Env)) : Prop where
  q : b = true → ∀ ρ d ρ', f ρ = .ok (d, ρ') → ρ' = ρ
  run : ∀ σ H Z ρ T Q, Sa ⟨X.K, G⟩ Z H σ ρ T → IPost ⟨X.K, G⟩ b Z H σ T W Q (f ρ) → RunI X tg iter σ H Q
def forL (w : D → Env → Option Env) (g : Env → R Env Out) : List D → Env → R Env Out
  | [], ρ => .ok (.nx ρ)
  | d :: ds, ρ => (oR (w d ρ)).bind fun ρ1 => (g ρ1).bind fun o => match o with
    | .nx ρ2 => forL w g ds ρ2
    | .ct ρ2 => forL w g ds ρ2
    | .bk ρ2 => .ok (.nx ρ2)
    | .rt d ρ2 => .ok (.rt d ρ2)
def sFor (f : Env → R Env (List D × Env)) (w : D → Env → Option Env) (g : Env → R Env Out) : Env → R Env Out := fun ρ => (f ρ).bind fun p => forL w g p.1 p.2
@[simp] theorem sFor_eq (f : Env → R Env (List D × Env)) (w : D → Env → Option Env) (g : Env → R Env Out) (ρ : Env) : sFor f w g ρ = (f ρ).bind fun p => forL w g p.1 p.2 := rfl
theorem sx_for (O : XOk X W) {body : List Stmt} {b1 : Bool} {f : Env → R Env (List D × Env)} {w : D → Env → Option Env} {g : Env → R Env Out} (hi : Ix X G W b1 tg iter f) (hg : Tg X G fx tg w) (hb : Bx X G W fx body g)
    (hs : ∀ x, foldedSetIterable iter X.env x = pure x := by intro _; rfl) : Sx X G W fx (.For tg iter body [] pos) (sFor f w g) := by
  refine ⟨fun σ H Z ρ T D S P => toS (ps_for O.po O.calm piR (pgT hg) pbR hs) (hi.run σ H Z ρ T _ S ?_)⟩
  unfold sFor at P
  cases e1 : f ρ with
  | stuck => rw [e1] at P; exact P
  | exc c fs ρ' => rw [e1] at P; exact YPost.x P
  | ok p =>
    obtain ⟨ds, ρ1⟩ := p
    rw [e1] at P
    simp only [R.ok_bind] at P
    intro J H1 Z1 z1 _ S1 hJ
    refine ⟨fun i m σ' H' => m = ds.length - i ∧ i ≤ ds.length ∧ ∃ Z' ρ', Same Z1 Z' ∧ Fx fx σ σ' ∧ Sa ⟨X.K, G⟩ Z' H' σ' ρ' T ∧ SPost ⟨X.K, G⟩ fx Z' σ' T W D (forL w g (ds.drop i) ρ'),
      ⟨ds.length, rfl, Nat.zero_le _, Z1, ρ1, Same.refl _, .refl, S1, P.of z1 .refl⟩, ?_⟩
    rintro i m σ' H' ⟨rfl, hi', Z', ρ', z', f', S', P'⟩
    by_cases hlt : i < ds.length
    · have ed : ds.drop i = ds[i] :: ds.drop (i + 1) := List.drop_eq_getElem_cons hlt
      rw [ed] at P'
      refine .inr ⟨hJ.go i hlt Z' H' z' S'.si.zh, fun σ2 H2 => ∃ Z2 ρ2, Same Z' Z2 ∧ Fx fx σ' σ2 ∧ Sa ⟨X.K, G⟩ Z2 H2 σ2 ρ2 T ∧ SPost ⟨X.K, G⟩ fx Z2 σ2 T W D (forL w g (ds.drop (i + 1)) ρ2), ?_, ?_⟩
      · rintro σ2 H2 ⟨Z2, ρ2, z2, f2, S2, P2⟩
        exact ⟨ds.length - (i + 1), by omega, rfl, hlt, Z2, ρ2, z'.trans z2, f'.trans f2, S2, P2⟩
      · intro x H2 hy
        obtain ⟨Z2, al⟩ := hJ.yld i ds[i] (List.getElem?_eq_getElem hlt) Z' H' x H2 z' S'.si.zh hy
        unfold forL at P'
        cases e2 : w ds[i] ρ' with
        | none => rw [e2] at P'; exact P'.elim
        | some ρ2 =>
          rw [e2] at P'
          simp only [oR_some, R.ok_bind] at P'
          refine ⟨Z2, ρ', T, ds[i], ρ2, Al.sa al S', e2, fun σ3 f3 S3 => ?_⟩
          refine hb.run σ3 H2 Z2 ρ2 T _ S3 ?_
          have P3 := P'.of al.z f3
          cases e3 : g ρ2 with
          | stuck => rw [e3] at P3; exact P3
          | exc c fs ρ' => rw [e3] at P3; exact P3
          | ok o =>
            rw [e3] at P3
            simp only [R.ok_bind] at P3
            cases o with
            | nx ρ4 => exact fun σ4 H4 Z4 z4 f4 S4 => ⟨Z4, ρ4, al.z.trans z4, f3.trans f4, S4, P3.of z4 f4⟩
            | ct ρ4 => exact fun σ4 H4 Z4 z4 f4 S4 => ⟨Z4, ρ4, al.z.trans z4, f3.trans f4, S4, P3.of z4 f4⟩
            | bk ρ4 => exact P3
            | rt d ρ4 => exact P3
    · have e : i = ds.length := by omega
      subst e
      rw [List.drop_length] at P'
      exact .inl ⟨hJ.stop Z' H' z' S'.si.zh, P' σ' H' Z' (Same.refl _) .refl S'⟩
def whileN (t : Env → R Env (Bool × Env)) (g : Env → R Env Out) : Nat → Env → R Env Out
  | 0, _ => .stuck
  | n + 1, ρ => (t ρ).bind fun p => if p.1 = true then (g p.2).bind fun o => match o with
    | .nx ρ2 => whileN t g n ρ2
    | .ct ρ2 => whileN t g n ρ2
    | .bk ρ2 => .ok (.nx ρ2)
    | .rt d ρ2 => .ok (.rt d ρ2)
    else .ok (.nx p.2)
theorem sx_while (O : XOk X W) {body : List Stmt} {b1 : Bool} {t : Env → R Env (Bool × Env)} {g : Env → R Env Out} (n : Nat) (ht : Tx X G W b1 c t) (hb : Bx X G W fx body g) : Sx X G W fx (.While c body [] pos) (whileN t g n) := by
  refine ⟨fun σ H Z ρ T D S P => toS (ps_while O.po ptR pbR) ?_⟩
  refine ⟨fun m σ' H' => ∃ Z' ρ', Same Z Z' ∧ Fx fx σ σ' ∧ Sa ⟨X.K, G⟩ Z' H' σ' ρ' T ∧ SPost ⟨X.K, G⟩ fx Z' σ' T W D (whileN t g m ρ'), ⟨n, Z, ρ, Same.refl _, .refl, S, P⟩, ?_⟩
  rintro m σ' H' ⟨Z', ρ', z', f', S', P'⟩
  cases m with
  | zero => exact P'.elim
  | succ m =>
    refine ht.run σ' H' Z' ρ' T _ S' ?_
    unfold whileN at P'
    cases e1 : t ρ' with
    | stuck => rw [e1] at P'; exact P'
    | exc c fs ρ' => rw [e1] at P'; exact YPost.x P'
    | ok r =>
      obtain ⟨k, ρ1⟩ := r
      rw [e1] at P'
      simp only [R.ok_bind] at P'
      intro H1 Z1 z1 _ S1
      cases k with
      | false => rw [if_neg Bool.false_ne_true] at P' ⊢; exact P' σ' H1 Z1 z1 .refl S1
      | true =>
        rw [if_pos rfl] at P' ⊢
        refine ⟨fun σ2 H2 => ∃ Z2 ρ2, Same Z Z2 ∧ Fx fx σ σ2 ∧ Sa ⟨X.K, G⟩ Z2 H2 σ2 ρ2 T ∧ SPost ⟨X.K, G⟩ fx Z2 σ2 T W D (whileN t g m ρ2), fun σ2 H2 h2 => ⟨m, Nat.lt_succ_self _, h2⟩, ?_⟩
        refine hb.run σ' H1 Z1 ρ1 T _ S1 ?_
        have P3 := P'.of z1 .refl
        cases e3 : g ρ1 with
        | stuck => rw [e3] at P3; exact P3
        | exc c fs ρ' => rw [e3] at P3; exact P3
        | ok o =>
          rw [e3] at P3
          simp only [R.ok_bind] at P3
          cases o with
          | nx ρ4 => exact fun σ4 H4 Z4 z4 f4 S4 => ⟨Z4, ρ4, (z'.trans z1).trans z4, f'.trans f4, S4, P3.of z4 f4⟩
          | ct ρ4 => exact fun σ4 H4 Z4 z4 f4 S4 => ⟨Z4, ρ4, (z'.trans z1).trans z4, f'.trans f4, S4, P3.of z4 f4⟩
          | bk ρ4 => exact P3
          | rt d ρ4 => exact P3
end
end Tw

set_option maxRecDepth 100000
namespace Tw
open PySem PySem.Spec L2

/-! ### arguments -/
/-- an argument that has been reckoned: a value, or a name whose thing the callee may change -/
inductive Ag where
  | v (d : D)
  | m (i : Nat)
def resA (σ : Sg) : List Ag → List V → List It → Prop
  | [], [], L => L = []
  | .v d :: r, v :: vs, L => ∃ L', L = .tr d v :: L' ∧ resA σ r vs L'
  | .m i :: r, v :: vs, L => σ[i]? = some (some v) ∧ resA σ r vs L
  | _, _, _ => False
def APost (K : Ct) (b : Bool) (Z H : Hp) (σ : Sg) (T : List It) (W : WX) (Q : List V → Hp → Prop) : R Env (List Ag × Env) → Prop
  | .ok (as, ρ') => ∀ vs L H' Z', Same Z Z' → (b = true → Same H H') → resA σ as vs L → Sa K Z' H' σ ρ' (L ++ T) → Q vs H'
  | .exc c fs ρ' => XPost K Z σ T W c fs ρ'
  | .stuck => False
structure Ax (X : Cx) (G : Nat → Addr) (W : WX) (b : Bool) (es : List Expr) (f : Env → R Env (List Ag × Env)) : Prop where
  q : b = true → ∀ ρ d ρ', f ρ = .ok (d, ρ') → ρ' = ρ
  run : ∀ σ H Z ρ T Q, Sa ⟨X.K, G⟩ Z H σ ρ T → APost ⟨X.K, G⟩ b Z H σ T W Q (f ρ) → RunA X es σ H Q
/-- values alone -/
def vals : List Ag → Option (List D)
  | [] => some []
  | .v d :: r => (vals r).map (d :: ·)
  | .m _ :: _ => none
def aNil : Env → R Env (List Ag × Env) := fun ρ => .ok ([], ρ)
def aCons (f : Env → R Env (D × Env)) (g : Env → R Env (List Ag × Env)) : Env → R Env (List Ag × Env) := fun ρ => (f ρ).bind fun p => (g p.2).bind fun q => .ok (.v p.1 :: q.1, q.2)
def aRef (i : Nat) (g : Env → R Env (List Ag × Env)) : Env → R Env (List Ag × Env) := fun ρ => (oR (gVar i ρ)).bind fun _ => (g ρ).bind fun q => .ok (.m i :: q.1, q.2)
@[simp] theorem aNil_eq (ρ : Env) : aNil ρ = .ok ([], ρ) := rfl
@[simp] theorem aCons_eq (f : Env → R Env (D × Env)) (g : Env → R Env (List Ag × Env)) (ρ : Env) : aCons f g ρ = (f ρ).bind fun p => (g p.2).bind fun q => .ok (.v p.1 :: q.1, q.2) := rfl
@[simp] theorem aRef_eq (i : Nat) (g : Env → R Env (List Ag × Env)) (ρ : Env) : aRef i g ρ = (oR (gVar i ρ)).bind fun _ => (g ρ).bind fun q => .ok (.m i :: q.1, q.2) := rfl
section
variable {X : Cx} {G : Nat → Addr} {W : WX} {e a b c tg iter : Expr} {es : List Expr} {pos : Pos}
theorem ax_nil : Ax X G W true [] aNil := ⟨fun _ ρ d ρ' h => by cases h; rfl, fun σ H Z ρ T Q S P => toA pa_nil (P [] [] H Z (Same.refl _) (fun _ => Same.refl _) rfl S)⟩
theorem ax_cons {b1 b2 : Bool} {f : Env → R Env (D × Env)} {g : Env → R Env (List Ag × Env)} (ha : Ev X G W b1 e f) (hb : Ax X G W b2 es g) (hs : starEach (e :: es) X.env = (false, eval e X.env) :: starEach es X.env := by rfl) : Ax X G W (b1 && b2) (e :: es) (aCons f g) := by
  refine ⟨fun hq ρ d ρ' h => ?_, fun σ H Z ρ T Q S P => toA (pa_cons peR paR hs) (ha.run σ H Z ρ T _ S ?_)⟩
  · rw [Bool.and_eq_true] at hq
    unfold aCons at h
    cases e1 : f ρ with
    | stuck => rw [e1] at h; cases h
    | exc c fs ρ' => rw [e1] at h; cases h
    | ok p =>
      rw [e1] at h
      simp only [R.ok_bind] at h
      cases e2 : g p.2 with
      | stuck => rw [e2] at h; cases h
      | exc c fs ρ' => rw [e2] at h; cases h
      | ok q => rw [e2] at h; cases h; rw [hb.q hq.2 _ q.1 q.2 e2, ha.q hq.1 _ p.1 p.2 e1]
  · unfold aCons at P
    cases e1 : f ρ with
    | stuck => rw [e1] at P; exact P
    | exc c fs ρ' => rw [e1] at P; exact P
    | ok p =>
      obtain ⟨d, ρ1⟩ := p
      rw [e1] at P
      simp only [R.ok_bind] at P
      intro v H1 Z1 z1 h1 S1
      refine hb.run σ H1 Z1 ρ1 _ _ S1 ?_
      cases e2 : g ρ1 with
      | stuck => rw [e2] at P; exact P
      | exc c fs ρ' => rw [e2] at P; exact XPost.drop (XPost.of P z1)
      | ok q =>
        obtain ⟨as, ρ2⟩ := q
        rw [e2] at P
        intro vs L H2 Z2 z2 h2 rL S2
        refine P (v :: vs) (.tr d v :: L) H2 Z2 (z1.trans z2) (fun hb => ?_) ⟨L, rfl, rL⟩ (S2.perm (List.perm_middle))
        rw [Bool.and_eq_true] at hb
        exact (h1 hb.1).trans (h2 hb.2)
theorem ax_ref {b2 : Bool} {i : Nat} {g : Env → R Env (List Ag × Env)} (ha : PE X e (tVar i)) (hb : Ax X G W b2 es g) (hs : starEach (e :: es) X.env = (false, eval e X.env) :: starEach es X.env := by rfl) : Ax X G W b2 (e :: es) (aRef i g) := by
  refine ⟨fun hq ρ d ρ' h => ?_, fun σ H Z ρ T Q S P => toA (pa_cons ha paR hs) ?_⟩
  · unfold aRef at h
    cases e0 : gVar i ρ with
    | none => rw [e0] at h; cases h
    | some d0 =>
      rw [e0] at h
      simp only [oR_some, R.ok_bind] at h
      cases e2 : g ρ with
      | stuck => rw [e2] at h; cases h
      | exc c fs ρ' => rw [e2] at h; cases h
      | ok q => rw [e2] at h; cases h; exact hb.q hq _ q.1 q.2 e2
  · unfold aRef at P
    cases e0 : gVar i ρ with
    | none => rw [e0] at P; exact P.elim
    | some d0 =>
      rw [e0] at P
      simp only [oR_some, R.ok_bind] at P
      obtain ⟨v, hv⟩ := S.ok.get i d0 (gVar_some e0)
      refine ⟨v, hv, hb.run σ H Z ρ T _ S ?_⟩
      cases e2 : g ρ with
      | stuck => rw [e2] at P; exact P.elim
      | exc c fs ρ' => rw [e2] at P; exact P
      | ok q =>
        obtain ⟨as, ρ2⟩ := q
        rw [e2] at P
        exact fun vs L H2 Z2 z2 h2 rL S2 => P (v :: vs) L H2 Z2 z2 h2 ⟨hv, rL⟩ S2
end

/-! ### what a def does -/
abbrev FR := R (List D) (D × List D)
def sel {α : Type} : List Bool → List α → List α
  | true :: m, x :: xs => x :: sel m xs
  | false :: m, _ :: xs => sel m xs
  | _, _ => []
/-- the values that no mark bears are frozen -/
def frzM : List Bool → List D → Bool
  | false :: m, d :: ds => isFrz d && frzM m ds
  | true :: m, _ :: ds => frzM m ds
  | _, _ => true
def FPost (K : Ct) (Z : Hp) (m : List Bool) (vs : List V) (T : List It) (Q : VK) (E : XK) : FR → Prop
  | .ok (r, outs) => ∀ v H' Z', Same Z Z' → outs.length = (sel m vs).length → SI K Z' H' (.tr r v :: (trs outs (sel m vs) ++ T)) → Q v H'
  | .exc c fs outs => ∀ dx H' Z', Same Z Z' → outs.length = (sel m vs).length → SI K Z' H' (trs outs (sel m vs) ++ T) → ExR K Z' dx fs → E (.ref (K.G (c + 1))) dx H'
  | .stuck => False
def spT (K : Ct) (m : List Bool) (F : List D → FR) : Sp := fun vs H Q E =>
  ∃ Z ds T, vs.length = m.length ∧ ds.length = vs.length ∧ SI K Z H (trs ds vs ++ T) ∧ FPost K Z m vs T Q E (F ds)
/-- a def at work: known by its name, at most k deep; dds: the defaults that fill up -/
structure Fk (P : Program) (w : World) (K : Ct) (mg : Str → Option Value) (base : Heap) (k : Nat) (x : Str) (m : List Bool) (dds : List D) (F : List D → FR) : Prop where
  ex : ∃ (f : Addr) (fd : FuncData) (ps : List Str) (ds : List Value) (dvs : List V), FnOk P w K.K mg base (L2.CX P w) k f fd ps (spT K m F) ∧ mg x = some (.ref f) ∧ PySem.W.keepIn K.K (.ref f) = true ∧ Binds K.K fd ps ds ∧ Vals dvs ds ∧ ∀ Z H, Rps K Z H dds dvs []

def fillA : List Ag → Env → Option (List D × Env)
  | [], ρ => some ([], ρ)
  | .v d :: r, ρ => (fillA r ρ).map fun p => (frz d :: p.1, p.2)
  | .m i :: r, ρ => match gVar i ρ with
    | some d => (fillA r (ρ.set i none)).map fun p => (d :: p.1, p.2)
    | none => none
def putA : List Ag → List D → Env → Env
  | .m i :: r, d :: outs, ρ => putA r outs (ρ.set i (some d))
  | .v _ :: r, outs, ρ => putA r outs ρ
  | _, _, ρ => ρ
def mask : List Ag → List Bool
  | [] => []
  | .v _ :: r => false :: mask r
  | .m _ :: r => true :: mask r
def callD (m : List Bool) (dds : List D) (F : List D → FR) (as : List Ag) (ρ : Env) : R Env (D × Env) :=
  if mask as ++ dds.map (fun _ => false) = m then
    match fillA as ρ with
    | none => .stuck
    | some (ds, ρ1) => match F (ds ++ dds) with
      | .ok (r, outs) => .ok (r, putA as outs ρ1)
      | .exc c fs outs => .exc c fs (putA as outs ρ1)
      | .stuck => .stuck
  else .stuck
def dCall (m : List Bool) (dds : List D) (F : List D → FR) (g : Env → R Env (List Ag × Env)) : Env → R Env (D × Env) := fun ρ => (g ρ).bind fun p => callD m dds F p.1 p.2
@[simp] theorem dCall_eq (m : List Bool) (dds : List D) (F : List D → FR) (g : Env → R Env (List Ag × Env)) (ρ : Env) : dCall m dds F g ρ = (g ρ).bind fun p => callD m dds F p.1 p.2 := rfl

section
variable {K : Ct} {Z H : Hp} {σ : Sg} {T : List It}
theorem Sa.put' {ρ : Env} {d : D} {v : V} {i : Nat} (s : Sa K Z H σ ρ (.tr d v :: T)) (e : σ[i]? = some (some v)) : Sa K Z H σ (ρ.set i (some d)) T := by
  have := s.put (i := i) (List.getElem?_eq_some_iff.mp e).1
  rwa [show σ.set i (some v) = σ from set_self e] at this
theorem fill_ok : ∀ {as : List Ag} {ρ : Env} {vs : List V} {L T : List It} {ds : List D} {ρ1 : Env} {Z : Hp}, resA σ as vs L → Sa K Z H σ ρ (L ++ T) → fillA as ρ = some (ds, ρ1) →
    ∃ Z1, Same Z Z1 ∧ Sa K Z1 H σ ρ1 (trs ds vs ++ T) ∧ ds.length = vs.length ∧ frzM (mask as) ds = true ∧ as.length = vs.length
  | [], ρ, vs, L, T, ds, ρ1, Z, r, S, e => by
    cases vs with
    | cons _ _ => exact r.elim
    | nil => cases r; cases e; exact ⟨Z, Same.refl _, S, rfl, rfl, rfl⟩
  | .v d :: as, ρ, vs, L, T, ds, ρ1, Z, r, S, e => by
    cases vs with
    | nil => exact r.elim
    | cons v vs =>
      obtain ⟨L', rfl, r⟩ := r
      unfold fillA at e
      cases e1 : fillA as ρ with
      | none => rw [e1] at e; cases e
      | some p =>
        obtain ⟨ds', ρ'⟩ := p
        rw [e1] at e
        cases e
        obtain ⟨Z1, z1, S1, l1, f1, la⟩ := fill_ok (T := .tr d v :: T) r (S.perm (List.perm_middle.symm)) e1
        obtain ⟨Z2, z2, S2⟩ := (S1.perm (T' := .tr d v :: (trs ds' vs ++ T)) (List.perm_middle)).freeze
        refine ⟨Z2, z1.trans z2, S2, by simp [l1], ?_, by simp [la]⟩
        show (isFrz (frz d) && frzM (mask as) ds') = true
        rw [isFrz_frz, f1]; rfl
  | .m i :: as, ρ, vs, L, T, ds, ρ1, Z, r, S, e => by
    cases vs with
    | nil => exact r.elim
    | cons v vs =>
      obtain ⟨hv, r⟩ := r
      unfold fillA at e
      cases e0 : gVar i ρ with
      | none => rw [e0] at e; cases e
      | some d =>
        rw [e0] at e
        simp only at e
        cases e1 : fillA as (ρ.set i none) with
        | none => rw [e1] at e; cases e
        | some p =>
          obtain ⟨ds', ρ'⟩ := p
          rw [e1] at e
          cases e
          obtain ⟨v', hv', S0⟩ := S.take (gVar_some e0)
          rw [hv] at hv'
          cases hv'
          obtain ⟨Z1, z1, S1, l1, f1, la⟩ := fill_ok (T := .tr d v :: T) r (S0.perm (List.perm_middle.symm)) e1
          refine ⟨Z1, z1, S1.perm (T' := .tr d v :: (trs ds' vs ++ T)) (List.perm_middle), by simp [l1], f1, by simp [la]⟩
theorem put_ok : ∀ {as : List Ag} {ρ : Env} {vs : List V} {L T : List It} {outs : List D}, resA σ as vs L → outs.length = (sel (mask as) vs).length → Sa K Z H σ ρ (trs outs (sel (mask as) vs) ++ T) → Sa K Z H σ (putA as outs ρ) T
  | [], ρ, vs, L, T, outs, r, l, S => by
    cases vs with
    | cons _ _ => exact r.elim
    | nil => cases outs with
      | nil => exact S
      | cons _ _ => cases l
  | .v d :: as, ρ, vs, L, T, outs, r, l, S => by
    cases vs with
    | nil => exact r.elim
    | cons v vs =>
      obtain ⟨L', rfl, r⟩ := r
      have := put_ok (as := as) (vs := vs) (outs := outs) r l S
      cases outs <;> exact this
  | .m i :: as, ρ, vs, L, T, outs, r, l, S => by
    cases vs with
    | nil => exact r.elim
    | cons v vs =>
      obtain ⟨hv, r⟩ := r
      cases outs with
      | nil => cases l
      | cons d outs =>
        exact put_ok (as := as) (ρ := ρ.set i (some d)) (vs := vs) (outs := outs) r (Nat.succ.inj l) (Sa.put' (T := trs outs (sel (mask as) vs) ++ T) S hv)
theorem trs_app : ∀ {ds : List D} {vs : List V} {ds' : List D} {vs' : List V}, ds.length = vs.length → trs (ds ++ ds') (vs ++ vs') = trs ds vs ++ trs ds' vs'
  | [], [], _, _, _ => rfl
  | d :: ds, v :: vs, ds', vs', l => by
    show It.tr d v :: trs (ds ++ ds') (vs ++ vs') = It.tr d v :: (trs ds vs ++ trs ds' vs')
    rw [trs_app (by simpa using l)]
theorem sel_app : ∀ {α β : Type} {m : List Bool} {vs ws : List α} {dds : List β}, m.length = vs.length → sel (m ++ dds.map (fun _ => false)) (vs ++ ws) = sel m vs
  | α, β, [], [], ws, dds, _ => by
    show sel (dds.map fun _ => false) ws = []
    induction dds generalizing ws with
    | nil => cases ws <;> rfl
    | cons d dds ih => cases ws with
      | nil => rfl
      | cons w ws => exact ih ws
  | α, β, true :: m, v :: vs, ws, dds, l => by
    show v :: sel (m ++ dds.map (fun _ => false)) (vs ++ ws) = v :: sel m vs
    rw [sel_app (by simpa using l)]
  | α, β, false :: m, v :: vs, ws, dds, l => sel_app (m := m) (by simpa using l)
theorem frzM_app : ∀ {m : List Bool} {ds : List D} {dds : List D}, m.length = ds.length → frzM m ds = true → areFrz dds = true → frzM (m ++ dds.map (fun _ => false)) (ds ++ dds) = true
  | [], [], dds, _, _, h => by
    show frzM (dds.map fun _ => false) dds = true
    induction dds with
    | nil => rfl
    | cons d dds ih =>
      simp only [areFrz, Bool.and_eq_true] at h
      show (isFrz d && frzM (dds.map fun _ => false) dds) = true
      rw [h.1, ih h.2]; rfl
  | true :: m, d :: ds, dds, l, f, h => frzM_app (m := m) (by simpa using l) f h
  | false :: m, d :: ds, dds, l, f, h => by
    have f' : (isFrz d && frzM m ds) = true := f
    rw [Bool.and_eq_true] at f'
    show (isFrz d && frzM (m ++ dds.map (fun _ => false)) (ds ++ dds)) = true
    rw [f'.1, frzM_app (m := m) (by simpa using l) f'.2 h]; rfl
theorem mask_len : ∀ {as : List Ag}, (mask as).length = as.length
  | [] => rfl
  | .v _ :: r => by show (mask r).length + 1 = _; rw [mask_len]; rfl
  | .m _ :: r => by show (mask r).length + 1 = _; rw [mask_len]; rfl
mutual
theorem Rp.frz_of {d : D} {v : V} : Rp K Z H d v [] → isFrz d = true := by
  intro h
  cases d with
  | tup ds =>
    obtain ⟨a, vs, e, s, r⟩ := h
    exact Rps.frz_of r
  | nd m k ds =>
    cases m with
    | false => obtain ⟨a, vs, e, s, r, q⟩ := h; exact Rps.frz_of r
    | true =>
      obtain ⟨a, vs, own, fp', e, s, r, q⟩ := h
      have := s.mem
      rw [(List.append_eq_nil_iff.mp q.symm).1] at this
      cases this
  | _ => rfl
termination_by sizeOf d
theorem Rps.frz_of {ds : List D} {vs : List V} : Rps K Z H ds vs [] → areFrz ds = true := by
  intro h
  cases ds with
  | nil => rfl
  | cons d ds =>
    obtain ⟨v, vs', f1, f2, e, q, r, r2⟩ := h
    obtain ⟨rfl, rfl⟩ := List.append_eq_nil_iff.mp q.symm
    show (isFrz d && areFrz ds) = true
    rw [Rp.frz_of r, Rps.frz_of r2]; rfl
termination_by sizeOf ds
end
end
section
variable {X : Cx} {G : Nat → Addr} {W : WX} {e a b c tg iter : Expr} {es : List Expr} {pos p : Pos}
/-- the call itself, the arguments being reckoned -/
theorem call_end (tk : Takes X W) {m : List Bool} {dds : List D} {F : List D → FR} {as : List Ag} {ρ : Env} {σ : Sg} {H Z : Hp} {T L : List It} {Q : VK} {vs dvs : List V} {b1 : Bool}
    (hb : b1 = false) (hd : ∀ Z H, Rps ⟨X.K, G⟩ Z H dds dvs []) (r : resA σ as vs L) (S : Sa ⟨X.K, G⟩ Z H σ ρ (L ++ T)) {H0 : Hp} (P : EPost ⟨X.K, G⟩ b1 Z H0 σ T W Q (callD m dds F as ρ)) :
    spT ⟨X.K, noT G⟩ m F (vs ++ dvs) H Q (fun c d H' => W c d σ H') := by
  subst hb
  unfold callD at P
  split at P
  · rename_i hm
    cases e1 : fillA as ρ with
    | none => rw [e1] at P; exact P.elim
    | some p =>
      obtain ⟨ds, ρ1⟩ := p
      rw [e1] at P
      obtain ⟨Z1, z1, S1, l1, f1, la⟩ := fill_ok r S e1
      have hdl : dds.length = dvs.length := (hd Z H).length
      have s2 : SI ⟨X.K, G⟩ Z1 H (trs (ds ++ dds) (vs ++ dvs) ++ (envL σ ρ1 ++ T)) := by
        rw [trs_app l1]
        have := S1.si.addL (hd Z1 H)
        refine this.perm ?_
        have p1 : (trs dds dvs ++ (envL σ ρ1 ++ (trs ds vs ++ T))).Perm (trs dds dvs ++ (trs ds vs ++ (envL σ ρ1 ++ T))) := by
          refine List.Perm.append_left _ ?_
          rw [← List.append_assoc, ← List.append_assoc]
          exact List.perm_append_comm.append_right T
        refine p1.trans ?_
        rw [← List.append_assoc]
        exact List.perm_append_comm.append_right _
      have hsel : sel m (vs ++ dvs) = sel (mask as) vs := by rw [← hm]; exact sel_app (by rw [mask_len]; exact la)
      refine ⟨Z1, ds ++ dds, (envL σ ρ1 ++ T) ++ tabs ⟨X.K, G⟩, ?_, by simp [l1, hdl], by rw [← List.append_assoc]; exact SI_n.mpr s2, ?_⟩
      · rw [← hm]; simp [mask_len, la, hdl]
      · simp only at P
        cases e2 : F (ds ++ dds) with
        | stuck => rw [e2] at P; exact P.elim
        | exc c fs outs =>
          rw [e2] at P
          intro dx H' Z' z' lo s' x'
          rw [ExR_n] at x'
          rw [← List.append_assoc] at s'
          have s' := SI_n.mp s'
          rw [hsel] at lo s'
          refine P dx H' Z' (z1.trans z') (put_ok r lo ⟨S1.ok, s'.perm ?_⟩) x'
          rw [← List.append_assoc, ← List.append_assoc]
          exact List.perm_append_comm.append_right T
        | ok q =>
          obtain ⟨rd, outs⟩ := q
          rw [e2] at P
          intro v H' Z' z' lo s'
          have s' : SI ⟨X.K, noT G⟩ Z' H' ((.tr rd v :: (trs outs (sel m (vs ++ dvs)) ++ (envL σ ρ1 ++ T))) ++ tabs ⟨X.K, G⟩) := by
            rw [List.cons_append, List.append_assoc]; exact s'
          have s' := SI_n.mp s'
          rw [hsel] at lo s'
          refine P v H' Z' (z1.trans z') (fun z => (Bool.false_ne_true z).elim) (put_ok r lo ⟨S1.ok, s'.perm ?_⟩)
          have p1 : (It.tr rd v :: (trs outs (sel (mask as) vs) ++ (envL σ ρ1 ++ T))).Perm (It.tr rd v :: (envL σ ρ1 ++ (trs outs (sel (mask as) vs) ++ T))) := by
            refine List.Perm.cons _ ?_
            rw [← List.append_assoc, ← List.append_assoc]
            exact List.perm_append_comm.append_right T
          refine p1.trans ?_
          refine (List.perm_middle (l₁ := envL σ ρ1)).symm.trans ?_
          exact (List.perm_middle (l₁ := trs outs (sel (mask as) vs))).symm.append_left _
  · exact P.elim
theorem run_fnS {CX : CXT} {k : Nat} {f : Addr} {fd : FuncData} {ps : List Str} {sp : Sp} {dvs : List V} {ds : List Value} {E : XK} {pins : List (Addr × Obj)} {s : Shared} {σ : Sg} {H : Hp} {Q : VK} {us : List Value} {vs : List V}
    (F : FnOk X.prog X.w X.K X.mg X.base CX k f fd ps sp) (hr : Room k X.A) (hb : Binds X.K fd ps ds) (hd : Vals dvs ds)
    (I : Inv X pins σ H s) (r : Vals vs us) (h : sp (vs ++ dvs) H Q E) (hx : ∀ e s', CX X.stack H s E e s' → X.xe e s') : wpAny (model X.prog X.w) X.A (call (.ref f) us) (EP X pins σ Q) X.xe s := by
  have r2 : Vals (vs ++ dvs) (us ++ ds) := r.append hd
  have hl : (us ++ ds).length = ps.length := by rw [← r2.length]; exact F.len _ _ _ _ h
  refine wpAny_call (codeAny_mono (F.run X.A X.stack s H ⟨us, []⟩ (us ++ ds) (vs ++ dvs) Q E hr I.env0 (hb s us I.kIn hl) r2 h) fun r s' hq => ?_)
  cases r with
  | error e => exact hx e s' hq
  | ok fl =>
    cases fl with
    | ret u => exact I.after hq
    | next => exact False.elim hq
    | brk => exact False.elim hq
    | cont => exact False.elim hq
theorem dCall_post {b1 : Bool} {m : List Bool} {dds : List D} {F : List D → FR} {g : Env → R Env (List Ag × Env)} {σ : Sg} {H Z : Hp} {ρ : Env} {T : List It} {Q : VK} {dvs : List V} (tk : Takes X W) (hd : ∀ Z H, Rps ⟨X.K, G⟩ Z H dds dvs [])
    (P : EPost ⟨X.K, G⟩ false Z H σ T W Q (dCall m dds F g ρ)) : APost ⟨X.K, G⟩ b1 Z H σ T W (fun vs H1 => spT ⟨X.K, noT G⟩ m F (vs ++ dvs) H1 Q (fun c d H' => W c d σ H')) (g ρ) := by
  unfold dCall at P
  cases e1 : g ρ with
  | stuck => rw [e1] at P; exact P
  | exc c fs ρ' => rw [e1] at P; exact P
  | ok p =>
    obtain ⟨as, ρ1⟩ := p
    rw [e1] at P
    intro vs L H1 Z1 z1 h1 rL S1
    exact call_end (H0 := H1) tk rfl hd rL S1 (EPost.of (b1 := false) (b2 := false) P z1 fun z => (Bool.false_ne_true z).elim)
theorem ev_call {G1 : Nat → Addr} {x : Str} {k : Nat} {m : List Bool} {dds : List D} {F : List D → FR} (O : XOk X W) (C : Fk X.prog X.w ⟨X.K, G1⟩ X.mg X.base k x m dds F) (hr : Room k X.A) (hg : Gl X x) {b1 : Bool} {g : Env → R Env (List Ag × Env)} (ha : Ax X G W b1 (e :: es) g)
    (hdb : (x == ("__debug__" : Str)) = false := by decide) (he : starEach (e :: es) X.env = (false, eval e X.env) :: starEach es X.env := by rfl)
    (hpl : (backTo pos (starEach es X.env)).any (·.1) = false := by rfl)
    (hG : noT G = G1 := by first | rfl | exact noT_noT) : Ev X G W false (.Call (.Name x p) (e :: es) [] pos) (dCall m dds F g) := by
  subst hG
  refine ⟨fun z => (Bool.false_ne_true z).elim, fun σ H Z ρ T Q S P pins s I => ?_⟩
  obtain ⟨f, fd, ps, ds, dvs, hF, hm, hk, hB, hv, hd⟩ := C.ex
  simp only [Rps_n] at hd
  refine wpAny_Call_Name_kw (ld_glob I hg hm ?_ hdb)
  refine PySem.W.callWith_K (h₀ := X.base) I.ok.mod.kin hk (thn (ha.run σ H Z ρ T _ S (dCall_post O.tk hd P) pos pins s I) fun us s1 ⟨vs, H1, I1, r, q⟩ => ⟨I1.kIn, ?_⟩) he hpl
  exact run_fnS hF hr hB hv I1 r q fun e s' hx => O.tk e s' (XE.of_call I1 (fun _ _ _ h => h) hx)
theorem ev_call0 {G1 : Nat → Addr} {x : Str} {k : Nat} {m : List Bool} {dds : List D} {F : List D → FR} (O : XOk X W) (C : Fk X.prog X.w ⟨X.K, G1⟩ X.mg X.base k x m dds F) (hr : Room k X.A) (hg : Gl X x)
    (hdb : (x == ("__debug__" : Str)) = false := by decide)
    (hG : noT G = G1 := by first | rfl | exact noT_noT) : Ev X G W false (.Call (.Name x p) [] [] pos) (dCall m dds F aNil) := by
  subst hG
  refine ⟨fun z => (Bool.false_ne_true z).elim, fun σ H Z ρ T Q S P pins s I => ?_⟩
  obtain ⟨f, fd, ps, ds, dvs, hF, hm, hk, hB, hv, hd⟩ := C.ex
  simp only [Rps_n] at hd
  refine wpAny_Call_Name_kw (ld_glob I hg hm ?_ hdb)
  exact PySem.W.callWith_K0 I.kIn hk (run_fnS (us := []) hF hr hB hv I .nil (dCall_post (b1 := true) O.tk hd P [] [] H Z (Same.refl _) (fun _ => Same.refl _) rfl S) fun e s' hx => O.tk e s' (XE.of_call I (fun _ _ _ h => h) hx))
end

/-! ### a call that changes nothing that stood -/
def raws (H : Hp) : List Addr → List It
  | [] => []
  | a :: l => match H a with
    | some o => .raw a o :: raws H l
    | none => raws H l
section
variable {K : Ct} {Z Z' H H' : Hp} {L : List It}
theorem raws_fp : ∀ {l : List Addr}, (∀ a ∈ l, ∃ o, H a = some o) → Fp K Z H (raws H l) l
  | [], _ => rfl
  | a :: l, h => by
    obtain ⟨o, e⟩ := h a (by simp)
    unfold raws
    rw [e]
    exact ⟨[a], l, rfl, ⟨e, rfl⟩, raws_fp fun b hb => h b (List.mem_cons_of_mem _ hb)⟩
theorem raws_of : ∀ {l : List Addr} {fp : List Addr}, Fp K Z H' (raws H l) fp → ∀ a ∈ l, ∀ o, H a = some o → a ∈ fp ∧ H' a = some o
  | [], _, _ => by simp
  | b :: l, fp, h => by
    intro a ha o e
    unfold raws at h
    rcases List.mem_cons.mp ha with rfl | ha
    · rw [e] at h
      obtain ⟨f1, f2, rfl, ⟨e1, rfl⟩, h2⟩ := h
      exact ⟨by simp, e1⟩
    · cases e2 : H b with
      | none => rw [e2] at h; exact raws_of h a ha o e
      | some u =>
        rw [e2] at h
        obtain ⟨f1, f2, rfl, ⟨e1, rfl⟩, h2⟩ := h
        have := raws_of h2 a ha o e
        exact ⟨List.mem_cons_of_mem _ this.1, this.2⟩
def allOf (Z H : Hp) (n : Nat) : List Addr := (List.range n).filter fun a => (H a).isSome && (Z a).isNone
theorem SI.all {n : Nat} (ht : tabs K = []) (z : Same Z H) : SI K Z H (raws H (allOf Z H n)) := by
  refine ⟨z, allOf Z H n, Eq.mp (by rw [ht, List.append_nil]) (raws_fp (K := K) (Z := Z) (H := H) (l := allOf Z H n) fun a ha => ?_), List.nodup_range.filter _, fun a ha => ?_⟩
  · have := (List.mem_filter.mp ha).2
    rw [Bool.and_eq_true] at this
    exact Option.isSome_iff_exists.mp this.1
  · have := (List.mem_filter.mp ha).2
    rw [Bool.and_eq_true] at this
    exact Option.isNone_iff_eq_none.mp this.2
/-- what was kept as raw cells is as it was -/
theorem SI.back {K : PySem.W.Frag} {G : Nat → Addr} {n : Nat} {d : D} {v : V} (hn : ∀ a o, H a = some o → a < n) (s : SI ⟨K, G⟩ Z H L) (z : Same Z Z') (s' : SI ⟨K, noT G⟩ Z' H' (.tr d v :: raws H (allOf Z H n))) : Same H H' ∧ SI ⟨K, G⟩ Z' H' (.tr d v :: L) := by
  obtain ⟨zh, fp, h, nd, q⟩ := s
  obtain ⟨zh', fp', ⟨f1, f2, rfl, r, h2⟩, nd', q'⟩ := s'
  rw [Rp_n] at r
  rw [show (raws H (allOf Z H n)).append (tabs ⟨K, noT G⟩) = raws H (allOf Z H n) from by rw [tabs_n]; exact List.append_nil _] at h2
  have mem : ∀ a o, H a = some o → Z a = none → a ∈ f2 ∧ H' a = some o := fun a o e e2 => raws_of h2 a (List.mem_filter.mpr ⟨List.mem_range.mpr (hn a o e), by rw [e, e2]; rfl⟩) o e
  have same : Same H H' := fun a o e => by
    cases e2 : Z a with
    | none => exact (mem a o e e2).2
    | some u =>
      have e3 := zh a u e2
      rw [e] at e3
      cases e3
      exact zh' a o (z a o e2)
  have sub : ∀ a ∈ fp, a ∈ f2 := fun a ha => by
    obtain ⟨o, e⟩ := h.there a ha
    exact (mem a o e (q a ha)).1
  obtain ⟨n1, n2, n3⟩ := List.nodup_append.mp nd'
  refine ⟨same, zh', f1 ++ fp, ⟨f1, fp, rfl, r, h.keep z fun b _ o e => same b o e⟩, List.nodup_append.mpr ⟨n1, nd, fun a ha b hb => n3 a ha b (sub b hb)⟩, fun a ha => ?_⟩
  rcases List.mem_append.mp ha with ha | ha
  · exact q' a (List.mem_append_left _ ha)
  · exact q' a (List.mem_append_right _ (sub a ha))
end
theorem sel_none : ∀ {α : Type} {as : List Ag} {vs : List α} {ds : List D}, vals as = some ds → sel (mask as) vs = []
  | _, [], vs, _, _ => by cases vs <;> rfl
  | _, .v d :: as, vs, ds, h => by
    cases vs with
    | nil => rfl
    | cons v vs =>
      unfold vals at h
      cases e : vals as with
      | none => rw [e] at h; cases h
      | some ds' =>
        show sel (mask as) vs = []
        exact sel_none (as := as) e
  | _, .m _ :: as, vs, ds, h => by cases h
theorem fill_vals : ∀ {as : List Ag} {ds : List D} {ρ : Env}, vals as = some ds → fillA as ρ = some (frzs ds, ρ)
  | [], ds, ρ, h => by cases h; rfl
  | .v d :: as, ds, ρ, h => by
    unfold vals at h
    cases e : vals as with
    | none => rw [e] at h; cases h
    | some ds' =>
      rw [e] at h; cases h
      unfold fillA
      rw [fill_vals e]; rfl
  | .m _ :: as, ds, ρ, h => by cases h
/-- a call with values alone -/
def callV (m : List Bool) (dds : List D) (F : List D → FR) (as : List Ag) (ρ : Env) : R Env (D × Env) :=
  match vals as with
  | none => .stuck
  | some ds => if mask as ++ dds.map (fun _ => false) = m then
    match F (frzs ds ++ dds) with
      | .ok (r, _) => .ok (r, ρ)
      | .exc c fs _ => .exc c fs ρ
      | .stuck => .stuck
    else .stuck
def dCallV (m : List Bool) (dds : List D) (F : List D → FR) (g : Env → R Env (List Ag × Env)) : Env → R Env (D × Env) := fun ρ => (g ρ).bind fun p => callV m dds F p.1 p.2
@[simp] theorem dCallV_eq (m : List Bool) (dds : List D) (F : List D → FR) (g : Env → R Env (List Ag × Env)) (ρ : Env) : dCallV m dds F g ρ = (g ρ).bind fun p => callV m dds F p.1 p.2 := rfl
section
variable {X : Cx} {G : Nat → Addr} {W : WX} {e a b c tg iter : Expr} {es : List Expr} {pos p : Pos}
theorem callV_q {m : List Bool} {dds : List D} {F : List D → FR} {as : List Ag} {ρ : Env} {d : D} {ρ' : Env} (h : callV m dds F as ρ = .ok (d, ρ')) : ρ' = ρ := by
  unfold callV at h
  split at h
  · cases h
  · split at h
    · split at h
      · cases h; rfl
      · cases h
      · cases h
    · cases h
theorem callV_end (tk : Takes X W) {m : List Bool} {dds : List D} {F : List D → FR} {as : List Ag} {ρ : Env} {σ : Sg} {H Z : Hp} {T L : List It} {Q : VK} {vs dvs : List V} {b1 : Bool} {n : Nat}
    (hn : ∀ a o, H a = some o → a < n) (hd : ∀ Z H, Rps ⟨X.K, G⟩ Z H dds dvs []) (r : resA σ as vs L) (S : Sa ⟨X.K, G⟩ Z H σ ρ (L ++ T)) {H0 : Hp} (h0 : b1 = true → Same H0 H) (P : EPost ⟨X.K, G⟩ b1 Z H0 σ T W Q (callV m dds F as ρ)) :
    spT ⟨X.K, noT G⟩ m F (vs ++ dvs) H Q (fun c d H' => W c d σ H') := by
  unfold callV at P
  cases ev : vals as with
  | none => rw [ev] at P; exact P.elim
  | some ds =>
  rw [ev] at P
  simp only at P
  split at P
  · rename_i hm
    obtain ⟨Z1, z1, S1, l1, f1, la⟩ := fill_ok r S (fill_vals ev)
    have hdl : dds.length = dvs.length := (hd Z H).length
    have fz : areFrz (frzs ds) = true := areFrz_frzs ds
    have rps : Rps ⟨X.K, G⟩ Z1 H (frzs ds) vs [] := by
      obtain ⟨zh, fp, h, nd, q⟩ := S1.si.perm (L' := trs (frzs ds) vs ++ (envL σ ρ ++ T)) (by
        rw [← List.append_assoc, ← List.append_assoc]
        exact List.perm_append_comm.append_right T)
      rw [List.append_assoc] at h
      obtain ⟨g1, g2, rfl, r1, _⟩ := h.unapp
      have r2 := r1.trs_of l1
      rwa [r2.isFrz fz] at r2
    have s0 : SI ⟨X.K, G⟩ Z1 H (envL σ ρ ++ T) := (S1.si.perm (L' := trs (frzs ds) vs ++ (envL σ ρ ++ T)) (by
        rw [← List.append_assoc, ← List.append_assoc]
        exact List.perm_append_comm.append_right T)).dropL
    have s2 : SI ⟨X.K, noT G⟩ Z1 H (trs (frzs ds ++ dds) (vs ++ dvs) ++ raws H (allOf Z1 H n)) := by
      rw [trs_app l1]
      rw [List.append_assoc]
      exact ((SI.all tabs_n S1.si.zh).addL (by rw [Rps_n]; exact hd Z1 H)).addL (by rw [Rps_n]; exact rps)
    have hsel : sel m (vs ++ dvs) = [] := by rw [← hm, sel_app (by rw [mask_len]; exact la), sel_none ev]
    refine ⟨Z1, frzs ds ++ dds, raws H (allOf Z1 H n), ?_, by simp [l1, hdl], s2, ?_⟩
    · rw [← hm]; simp [mask_len, la, hdl]
    · cases e2 : F (frzs ds ++ dds) with
      | stuck => rw [e2] at P; exact P.elim
      | exc c fs outs =>
        rw [e2] at P
        intro dx H' Z' z' lo s' x'
        rw [ExR_n] at x'
        rw [hsel] at lo s'
        have : outs = [] := List.length_eq_zero_iff.mp lo
        subst this
        have s'' : SI ⟨X.K, noT G⟩ Z' H' (.tr .non .non :: raws H (allOf Z1 H n)) := SI.add s' ⟨rfl, rfl⟩
        obtain ⟨sm, sb⟩ := SI.back hn s0 z' s''
        exact P dx H' Z' (z1.trans z') ⟨S1.ok, sb.drop⟩ x'
      | ok q =>
        obtain ⟨rd, outs⟩ := q
        rw [e2] at P
        intro v H' Z' z' lo s'
        rw [hsel] at lo s'
        have : outs = [] := List.length_eq_zero_iff.mp lo
        subst this
        obtain ⟨sm, sb⟩ := SI.back hn s0 z' s'
        exact P v H' Z' (z1.trans z') (fun hb => (h0 hb).trans sm) (.of_front S1.ok sb)
  · exact P.elim
theorem dCallV_q {b1 : Bool} {m : List Bool} {dds : List D} {F : List D → FR} {g : Env → R Env (List Ag × Env)} (hg : b1 = true → ∀ ρ d ρ', g ρ = .ok (d, ρ') → ρ' = ρ) : b1 = true → ∀ ρ d ρ', dCallV m dds F g ρ = .ok (d, ρ') → ρ' = ρ := by
  intro hb ρ d ρ' h
  unfold dCallV at h
  cases e1 : g ρ with
  | stuck => rw [e1] at h; cases h
  | exc c fs ρ' => rw [e1] at h; cases h
  | ok p => rw [e1] at h; exact (callV_q h).trans (hg hb ρ p.1 p.2 e1)
theorem ev_callV {G1 : Nat → Addr} {x : Str} {k : Nat} {m : List Bool} {dds : List D} {F : List D → FR} (O : XOk X W) (C : Fk X.prog X.w ⟨X.K, G1⟩ X.mg X.base k x m dds F) (hr : Room k X.A) (hg : Gl X x) {b1 : Bool} {g : Env → R Env (List Ag × Env)} (ha : Ax X G W b1 (e :: es) g)
    (hdb : (x == ("__debug__" : Str)) = false := by decide) (he : starEach (e :: es) X.env = (false, eval e X.env) :: starEach es X.env := by rfl)
    (hpl : (backTo pos (starEach es X.env)).any (·.1) = false := by rfl)
    (hG : noT G = G1 := by first | rfl | exact noT_noT) : Ev X G W b1 (.Call (.Name x p) (e :: es) [] pos) (dCallV m dds F g) := by
  subst hG
  refine ⟨dCallV_q ha.q, fun σ H Z ρ T Q S P pins s I => ?_⟩
  obtain ⟨f, fd, ps, ds, dvs, hF, hm, hk, hB, hv, hd⟩ := C.ex
  simp only [Rps_n] at hd
  refine wpAny_Call_Name_kw (ld_glob I hg hm ?_ hdb)
  refine PySem.W.callWith_K (h₀ := X.base) I.ok.mod.kin hk (thn (ha.run σ H Z ρ T (fun vs H1 => (∃ n, ∀ a o, H1 a = some o → a < n) → spT ⟨X.K, noT G⟩ m F (vs ++ dvs) H1 Q (fun c d H' => W c d σ H')) S ?_ pos pins s I) fun us s1 ⟨vs, H1, I1, r, q⟩ => ⟨I1.kIn, ?_⟩) he hpl
  · unfold dCallV at P
    cases e1 : g ρ with
    | stuck => rw [e1] at P; exact P
    | exc c fs ρ' => rw [e1] at P; exact P
    | ok p =>
      obtain ⟨as, ρ1⟩ := p
      rw [e1] at P
      intro vs L H1 Z1 z1 h1 rL S1 ⟨n, hn⟩
      exact callV_end (H0 := H1) (b1 := b1) O.tk hn hd rL S1 (fun _ => Same.refl _) (EPost.of (b1 := b1) (b2 := b1) (by rw [Bool.and_self]; exact P) z1 h1)
  · exact run_fnS hF hr hB hv I1 r (q ⟨s1.heap.objs.size, fun a o e => I1.hok.lt e⟩) fun e s' hx => O.tk e s' (XE.of_call I1 (fun _ _ _ h => h) hx)
end

/-! ### a def's body -/
def ini (n : Nat) (ds : List D) : Env := ds.map some ++ List.replicate (n - ds.length) none
/-- the things of the marked slots -/
def outsOf : List Bool → Env → Option (List D)
  | true :: m, some d :: ρ => (outsOf m ρ).map (d :: ·)
  | true :: _, _ => none
  | false :: m, _ :: ρ => outsOf m ρ
  | false :: m, [] => outsOf m []
  | [], _ => some []
def defD (n : Nat) (m : List Bool) (g : Env → R Env Out) : List D → FR := fun ds =>
  match g (ini n ds) with
  | .ok (.rt d ρ) => match outsOf m ρ with
    | some os => .ok (d, os)
    | none => .stuck
  | .ok (.nx ρ) => match outsOf m ρ with
    | some os => .ok (.non, os)
    | none => .stuck
  | .exc c fs ρ => match outsOf m ρ with
    | some os => .exc c fs os
    | none => .stuck
  | _ => .stuck
def marks : List Bool → Nat → List Nat
  | [], _ => []
  | true :: m, i => i :: marks m (i + 1)
  | false :: m, i => marks m (i + 1)
section
variable {K : Ct} {Z H : Hp} {T : List It}
theorem envL_start : ∀ {ds : List D} {vs : List V} (k j : Nat), ds.length = vs.length → envL (vs.map some ++ List.replicate k none) (ds.map some ++ List.replicate j none) = trs ds vs
  | [], [], k, j, _ => by
    show envL (List.replicate k none) (List.replicate j none) = []
    induction k generalizing j with
    | zero => cases j <;> rfl
    | succ k ih => cases j with
      | zero => rfl
      | succ j => rw [List.replicate_succ, List.replicate_succ, envL_none]; exact ih j
  | d :: ds, v :: vs, k, j, l => by
    show It.tr d v :: envL (vs.map some ++ List.replicate k none) (ds.map some ++ List.replicate j none) = _
    rw [envL_start k j (by simpa using l)]; rfl
theorem outs_perm : ∀ {m : List Bool} {σ : Sg} {ρ : Env} {vs : List V} {os : List D} (i : Nat), ρ.length = σ.length → m.length ≤ σ.length → vs.length = m.length → (∀ (j : Nat) (v : V), m[j]? = some true → vs[j]? = some v → σ[j]? = some (some v)) → outsOf m ρ = some os →
    os.length = (sel m vs).length ∧ ∃ L, (envL σ ρ).Perm (trs os (sel m vs) ++ L)
  | [], σ, ρ, vs, os, i, l, lm, lv, h, e => by
    cases vs with
    | cons _ _ => cases lv
    | nil => cases e; exact ⟨rfl, envL σ ρ, .refl _⟩
  | true :: m, [], ρ, vs, os, i, l, lm, lv, h, e => by cases lm
  | true :: m, x :: σ, [], vs, os, i, l, lm, lv, h, e => by cases l
  | true :: m, x :: σ, none :: ρ, vs, os, i, l, lm, lv, h, e => by cases e
  | true :: m, x :: σ, some d :: ρ, [], os, i, l, lm, lv, h, e => by cases lv
  | true :: m, x :: σ, some d :: ρ, v :: vs, os, i, l, lm, lv, h, e => by
    unfold outsOf at e
    cases e1 : outsOf m ρ with
    | none => rw [e1] at e; cases e
    | some os' =>
      rw [e1] at e; cases e
      have h0 : x = some v := Option.some.inj (h 0 v rfl rfl)
      subst h0
      obtain ⟨l1, L, p⟩ := outs_perm (m := m) (σ := σ) (ρ := ρ) (vs := vs) (i + 1) (by simpa using l) (by simpa using lm) (by simpa using lv) (fun j v hj hv => h (j + 1) v hj hv) e1
      exact ⟨by show os'.length + 1 = (sel m vs).length + 1; rw [l1], L, p.cons _⟩
  | false :: m, [], ρ, vs, os, i, l, lm, lv, h, e => by cases lm
  | false :: m, x :: σ, [], vs, os, i, l, lm, lv, h, e => by cases l
  | false :: m, x :: σ, y :: ρ, [], os, i, l, lm, lv, h, e => by cases lv
  | false :: m, x :: σ, y :: ρ, v :: vs, os, i, l, lm, lv, h, e => by
    obtain ⟨l1, L, p⟩ := outs_perm (m := m) (σ := σ) (ρ := ρ) (vs := vs) (os := os) (i + 1) (by simpa using l) (by simpa using lm) (by simpa using lv) (fun j v hj hv => h (j + 1) v hj hv) e
    refine ⟨l1, ?_⟩
    cases x with
    | none => exact ⟨L, p⟩
    | some u => cases y with
      | none => exact ⟨L, p⟩
      | some d => exact ⟨.tr d u :: L, (p.cons _).trans (List.perm_middle.symm)⟩
theorem mem_marks : ∀ {m : List Bool} {i j : Nat}, m[j]? = some true → i + j ∈ marks m i
  | [], i, j, h => by simp at h
  | true :: m, i, 0, h => by simp [marks]
  | true :: m, i, j + 1, h => by
    refine List.mem_cons_of_mem _ ?_
    have := mem_marks (m := m) (i := i + 1) (j := j) h
    rwa [show i + (j + 1) = i + 1 + j by omega]
  | false :: m, i, 0, h => by simp at h
  | false :: m, i, j + 1, h => by
    have := mem_marks (m := m) (i := i + 1) (j := j) h
    show i + (j + 1) ∈ marks m (i + 1)
    rwa [show i + (j + 1) = i + 1 + j by omega]
end
section
variable {P : Program} {w : World} {K : PySem.W.Frag} {mg : Str → Option Value} {base : Heap} {G : Nat → Addr}
/-- a def's body, walked once for all its arguments, its code object being known -/
theorem fn_bodyL {x qual : Str} {st : Stmt} {f : Addr} {fd : FuncData} {N ps : List Str} {k : Nat} {m : List Bool} {g : Env → R Env Out} (F : Fun K x qual st f fd) (S : FnScope N ps (defScope st)) (hm : m.length = ps.length) (hN : ps.length ≤ N.length)
    (hbody : ∀ (cdv : Value), fd.code = cdv → ∀ (A : Around) (outer : List PySem.Env) (s : Shared) (H : Hp) (E : XK), XOk (cxOf (L2.CX P w) P w K mg base N qual (defScope st) f cdv A outer s H E) (fun c d _ H => E c d H) → Room k (A.deeper (PyProof.Rows.envOfC qual (defScope st) s.heap.objs.size f cdv)) →
      Bx (cxOf (L2.CX P w) P w K mg base N qual (defScope st) f cdv A outer s H E) G (fun c d _ H => E c d H) (marks m 0) (defBody st) g) :
    FnOk P w K mg base (L2.CX P w) (k + 1) f fd ps (spT ⟨K, G⟩ m (defD N.length m g)) := by
  obtain ⟨oc, od, kV, doc, pm, an, cdv, ct, osl, rfl, lk, hcd⟩ := F.ex
  refine fn_of lk hcd S (fun vs H Q E h => ?_) fun A outer s H vs Q E hr h => ?_
  · obtain ⟨Z, ds, T, l, _⟩ := h
    rw [l, hm]
  · obtain ⟨Z, ds, T, lv, ld, si, po⟩ := h
    have B := hbody cdv rfl A outer s H E ⟨rfl, S.nd, takes_of rfl rfl rfl rfl, passes_of rfl⟩ hr
    refine ⟨fun D σ H => RunB _ (defBody st) σ H D, pbR, ?_⟩
    have hlN : vs.length ≤ N.length := by rw [lv, hm]; exact hN
    have ok : EnvOk (L2.start N vs) (ini N.length ds) := by
      refine ⟨by simp [L2.start, ini, ld], fun i d e => ?_⟩
      unfold ini at e
      have hi : i < ds.length := by
        by_cases hi : i < ds.length
        · exact hi
        · rw [List.getElem?_append_right (by simp; omega)] at e
          have := List.mem_of_getElem? e
          simp at this
      unfold L2.start
      rw [List.getElem?_append_left (by simp; omega), List.getElem?_map, List.getElem?_eq_getElem (by omega)]
      exact ⟨_, rfl⟩
    have s0 : Sa ⟨K, G⟩ Z H (L2.start N vs) (ini N.length ds) T := ⟨ok, by
      unfold L2.start ini
      rw [envL_start _ _ ld]
      exact si⟩
    have fix : ∀ {σ' : Sg}, Fx (marks m 0) (L2.start N vs) σ' → ∀ (j : Nat) (v : V), m[j]? = some true → vs[j]? = some v → σ'[j]? = some (some v) := fun f j v hj hv => by
      have := f.2 j (by have := mem_marks (i := 0) hj; rwa [Nat.zero_add] at this)
      rw [this]
      unfold L2.start
      have hjl := (List.getElem?_eq_some_iff.mp hv).1
      rw [List.getElem?_append_left (by simpa using hjl), List.getElem?_map, hv]; rfl
    refine B.run (L2.start N vs) H Z (ini N.length ds) T _ s0 ?_
    unfold defD at po
    have slen : (L2.start N vs).length = N.length := by simp [L2.start]; omega
    have go : ∀ {ρ' : Env} {os : List D} {σ' : Sg} {Z' H' : Hp} {T' : List It}, Sa ⟨K, G⟩ Z' H' σ' ρ' T' → Fx (marks m 0) (L2.start N vs) σ' → outsOf m ρ' = some os → os.length = (sel m vs).length ∧ SI ⟨K, G⟩ Z' H' (trs os (sel m vs) ++ T') := fun {ρ'} {os} {σ'} {Z'} {H'} {T'} S' f' e => by
      obtain ⟨l1, L, p⟩ := outs_perm (vs := vs) 0 S'.ok.len (by rw [f'.1, slen, hm]; exact hN) lv (fix f') e
      refine ⟨l1, ?_⟩
      have := (S'.si.perm (p.append_right _)).perm (L' := L ++ (trs os (sel m vs) ++ T')) (by
        rw [List.append_assoc]
        exact (List.perm_append_comm_assoc _ _ _))
      exact this.dropL
    cases e1 : g (ini N.length ds) with
    | stuck => rw [e1] at po; exact po.elim
    | exc c fs ρ' =>
      rw [e1] at po
      simp only at po
      cases e2 : outsOf m ρ' with
      | none => rw [e2] at po; exact po.elim
      | some os =>
        rw [e2] at po
        intro dx σ' H' Z' z' f' S' x'
        obtain ⟨l1, s1⟩ := go S' f' e2
        exact po dx H' Z' z' l1 s1 x'
    | ok o =>
      rw [e1] at po
      cases o with
      | bk ρ' => exact po.elim
      | ct ρ' => exact po.elim
      | nx ρ' =>
        simp only at po
        cases e2 : outsOf m ρ' with
        | none => rw [e2] at po; exact po.elim
        | some os =>
          rw [e2] at po
          intro σ' H' Z' z' f' S'
          obtain ⟨l1, s1⟩ := go S' f' e2
          exact po .non H' Z' z' l1 (s1.add ⟨rfl, rfl⟩)
      | rt d ρ' =>
        simp only at po
        cases e2 : outsOf m ρ' with
        | none => rw [e2] at po; exact po.elim
        | some os =>
          rw [e2] at po
          intro v σ' H' Z' z' f' S'
          obtain ⟨l1, s1⟩ := go S' f' e2
          exact po v H' Z' z' l1 (s1.perm (List.perm_middle))
/-- a def's body, walked once for all its arguments -/
theorem fn_body {x qual : Str} {st : Stmt} {f : Addr} {fd : FuncData} {N ps : List Str} {k : Nat} {m : List Bool} {g : Env → R Env Out} (F : Fun K x qual st f fd) (S : FnScope N ps (defScope st)) (hm : m.length = ps.length) (hN : ps.length ≤ N.length)
    (hbody : ∀ (cdv : Value) (A : Around) (outer : List PySem.Env) (s : Shared) (H : Hp) (E : XK), XOk (cxOf (L2.CX P w) P w K mg base N qual (defScope st) f cdv A outer s H E) (fun c d _ H => E c d H) → Room k (A.deeper (PyProof.Rows.envOfC qual (defScope st) s.heap.objs.size f cdv)) →
      Bx (cxOf (L2.CX P w) P w K mg base N qual (defScope st) f cdv A outer s H E) G (fun c d _ H => E c d H) (marks m 0) (defBody st) g) :
    FnOk P w K mg base (L2.CX P w) (k + 1) f fd ps (spT ⟨K, G⟩ m (defD N.length m g)) := by
  exact fn_bodyL F S hm hN fun cdv _ => hbody cdv
end
end Tw

set_option maxRecDepth 100000
namespace Tw
open PySem PySem.Spec L2

abbrev lim : Nat := 1000000
theorem lim_le : lim ≤ sizeLine := by decide
theorem lim_of {n : Nat} (h : n ≤ lim) : n ≤ sizeLine := Nat.le_trans h lim_le
theorem lim_lt {n : Nat} (h : n < lim) : n < sizeLine := Nat.lt_of_lt_of_le h lim_le
section
variable {K : Ct} {Z H : Hp}
theorem resA_vals : ∀ {σ : Sg} {as : List Ag} {vs : List V} {L : List It} {ds : List D}, resA σ as vs L → vals as = some ds → L = trs ds vs ∧ ds.length = vs.length
  | σ, [], vs, L, ds, r, h => by
    cases vs with
    | cons _ _ => exact r.elim
    | nil => cases r; cases h; exact ⟨rfl, rfl⟩
  | σ, .v d :: as, vs, L, ds, r, h => by
    cases vs with
    | nil => exact r.elim
    | cons v vs =>
      obtain ⟨L', rfl, r⟩ := r
      unfold vals at h
      cases e : vals as with
      | none => rw [e] at h; cases h
      | some ds' =>
        rw [e] at h; cases h
        obtain ⟨rfl, l⟩ := resA_vals r e
        exact ⟨rfl, by simp [l]⟩
  | σ, .m _ :: as, vs, L, ds, r, h => by cases h
theorem Rps.at : ∀ {ds : List D} {vs : List V} {fp : List Addr} {j : Nat} {d : D}, Rps K Z H ds vs fp → ds[j]? = some d → ∃ v f, vs[j]? = some v ∧ Rp K Z H d v f
  | [], _, _, _, _, _, h => by simp at h
  | x :: ds, vs, fp, 0, d, r, h => by
    obtain ⟨v, vs', f1, f2, rfl, rfl, r1, r2⟩ := r
    simp at h; subst h
    exact ⟨v, f1, rfl, r1⟩
  | x :: ds, vs, fp, j + 1, d, r, h => by
    obtain ⟨v, vs', f1, f2, rfl, rfl, r1, r2⟩ := r
    exact Rps.at (ds := ds) (j := j) r2 (by simpa using h)
theorem Rps.atI {ds : List D} {vs : List V} {fp : List Addr} {i : Int} {d : D} (r : Rps K Z H ds vs fp) (h : L2.atI ds i = some d) : ∃ v f, L2.atI vs i = some v ∧ Rp K Z H d v f := by
  unfold L2.atI at h ⊢
  rw [← r.length]
  cases e : ixN ds.length i with
  | none => rw [e] at h; cases h
  | some j => rw [e] at h; exact r.at h
end

section
variable {X : Cx} {G : Nat → Addr} {W : WX} {e a b c tg iter : Expr} {es : List Expr} {pos p : Pos}
/-! ### tuples and lists as they are written -/
def dTup (g : Env → R Env (List Ag × Env)) : Env → R Env (D × Env) := fun ρ => (g ρ).bind fun q => match vals q.1 with
  | some ds => if ds.length ≤ lim then .ok (.tup ds, q.2) else .stuck
  | none => .stuck
def dLst (g : Env → R Env (List Ag × Env)) : Env → R Env (D × Env) := fun ρ => (g ρ).bind fun q => match vals q.1 with
  | some ds => if ds.length ≤ lim then .ok (.lst true ds, q.2) else .stuck
  | none => .stuck
@[simp] theorem dTup_eq (g : Env → R Env (List Ag × Env)) (ρ : Env) : dTup g ρ = (g ρ).bind fun q => match vals q.1 with
  | some ds => if ds.length ≤ lim then .ok (.tup ds, q.2) else .stuck
  | none => .stuck := rfl
@[simp] theorem dLst_eq (g : Env → R Env (List Ag × Env)) (ρ : Env) : dLst g ρ = (g ρ).bind fun q => match vals q.1 with
  | some ds => if ds.length ≤ lim then .ok (.lst true ds, q.2) else .stuck
  | none => .stuck := rfl
theorem bindq {α β : Type} {b1 : Bool} {g : Env → R Env (α × Env)} {h : α × Env → R Env (β × Env)} (hg : b1 = true → ∀ ρ d ρ', g ρ = .ok (d, ρ') → ρ' = ρ) (hh : ∀ p d ρ', h p = .ok (d, ρ') → ρ' = p.2) :
    b1 = true → ∀ ρ d ρ', (g ρ).bind h = .ok (d, ρ') → ρ' = ρ := by
  intro hb ρ d ρ' e
  cases e1 : g ρ with
  | stuck => rw [e1] at e; cases e
  | exc c fs ρ' => rw [e1] at e; cases e
  | ok p => rw [e1] at e; exact (hh p d ρ' e).trans (hg hb ρ p.1 p.2 e1)
theorem ev_tup {b1 : Bool} {g : Env → R Env (List Ag × Env)} {x1 : Nat} (h : Ax X G W b1 es g) : Ev X G W b1 (.Tuple es x1 pos) (dTup g) := by
  refine ⟨bindq h.q fun p d ρ' e => ?_, fun σ H Z ρ T Q S P => toE (pe_tup paR) (h.run σ H Z ρ T _ S ?_)⟩
  · split at e
    · split at e
      · cases e; rfl
      · cases e
    · cases e
  · unfold dTup at P
    cases e1 : g ρ with
    | stuck => rw [e1] at P; exact P
    | exc c fs ρ' => rw [e1] at P; exact P
    | ok q =>
      obtain ⟨as, ρ1⟩ := q
      rw [e1] at P
      simp only [R.ok_bind] at P
      intro vs L H1 Z1 z1 h1 rL S1
      split at P
      · rename_i ds ev
        split at P
        · rename_i hl
          obtain ⟨rfl, l⟩ := resA_vals rL ev
          refine ⟨lim_of (by rw [← l]; exact hl), fun q hq => ?_⟩
          have sf : SI ⟨X.K, G⟩ Z1 H1 (trs ds vs ++ (envL σ ρ1 ++ T)) := S1.si.perm (by
            rw [← List.append_assoc, ← List.append_assoc]
            exact List.perm_append_comm.append_right T)
          obtain ⟨z2, s2⟩ := SI.newT l sf hq
          exact P _ _ _ (z1.trans z2) (fun hb => (h1 hb).trans fun b o e => by rw [upd_ne (ne_of_none e hq)]; exact e) (.of_front S1.ok s2)
        · exact P.elim
      · exact P.elim
theorem ev_lst {b1 : Bool} {g : Env → R Env (List Ag × Env)} (h : Ax X G W b1 es g) : Ev X G W b1 (.List es pos) (dLst g) := by
  refine ⟨bindq h.q fun p d ρ' e => ?_, fun σ H Z ρ T Q S P => toE (pe_lst paR) (h.run σ H Z ρ T _ S ?_)⟩
  · split at e
    · split at e
      · cases e; rfl
      · cases e
    · cases e
  · unfold dLst at P
    cases e1 : g ρ with
    | stuck => rw [e1] at P; exact P
    | exc c fs ρ' => rw [e1] at P; exact P
    | ok q =>
      obtain ⟨as, ρ1⟩ := q
      rw [e1] at P
      simp only [R.ok_bind] at P
      intro vs L H1 Z1 z1 h1 rL S1
      split at P
      · rename_i ds ev
        split at P
        · rename_i hl
          obtain ⟨rfl, l⟩ := resA_vals rL ev
          refine ⟨lim_of (by rw [← l]; exact hl), fun q hq => ?_⟩
          have sf : SI ⟨X.K, G⟩ Z1 H1 (trs ds vs ++ (envL σ ρ1 ++ T)) := S1.si.perm (by
            rw [← List.append_assoc, ← List.append_assoc]
            exact List.perm_append_comm.append_right T)
          exact P _ _ _ z1 (fun hb => (h1 hb).trans fun b o e => by rw [upd_ne (ne_of_none e hq)]; exact e) (.of_front S1.ok (SI.newL l sf hq))
        · exact P.elim
      · exact P.elim
/-! ### a if t else b; and, or as values -/
def dIf (t : Env → R Env (Bool × Env)) (f g : Env → R Env (D × Env)) : Env → R Env (D × Env) := fun ρ => (t ρ).bind fun q => if q.1 = true then f q.2 else g q.2
@[simp] theorem dIf_eq (t : Env → R Env (Bool × Env)) (f g : Env → R Env (D × Env)) (ρ : Env) : dIf t f g ρ = (t ρ).bind fun q => if q.1 = true then f q.2 else g q.2 := rfl
theorem ev_if {b1 b2 b3 : Bool} {t : Env → R Env (Bool × Env)} {f g : Env → R Env (D × Env)} (hc : Tx X G W b1 c t) (ha : Ev X G W b2 a f) (hb : Ev X G W b3 b g) : Ev X G W (b1 && (b2 && b3)) (.IfExp c a b pos) (dIf t f g) := by
  refine ⟨fun hq ρ d ρ' e => ?_, fun σ H Z ρ T Q S P => toE (pe_ifExp ptR peR peR) (hc.run σ H Z ρ T _ S ?_)⟩
  · simp only [Bool.and_eq_true] at hq
    refine bindq (b1 := b1) hc.q (fun p d ρ' e => ?_) hq.1 ρ d ρ' e
    split at e
    · exact ha.q hq.2.1 _ _ _ e
    · exact hb.q hq.2.2 _ _ _ e
  · unfold dIf at P
    cases e1 : t ρ with
    | stuck => rw [e1] at P; exact P
    | exc c fs ρ' => rw [e1] at P; exact P
    | ok r =>
      obtain ⟨k, ρ1⟩ := r
      rw [e1] at P
      simp only [R.ok_bind] at P
      intro H1 Z1 z1 h1 S1
      cases k with
      | true =>
        rw [if_pos rfl] at P ⊢
        have P1 := P.of z1 h1
        rw [Bool.and_comm] at P1
        refine ha.run σ H1 Z1 ρ1 T Q S1 (?_ : EPost _ b2 _ _ _ _ _ _ _)
        cases e2 : f ρ1 with
        | stuck => rw [e2] at P1; exact P1
        | exc c fs ρ' => rw [e2] at P1; exact P1
        | ok q => rw [e2] at P1; exact fun v H' Z' z' h' S' => P1 v H' Z' z' (fun hb => h' (by rw [Bool.and_eq_true] at hb; exact hb.2)) S'
      | false =>
        rw [if_neg Bool.false_ne_true] at P ⊢
        have P1 := P.of z1 h1
        refine hb.run σ H1 Z1 ρ1 T Q S1 (?_ : EPost _ b3 _ _ _ _ _ _ _)
        cases e2 : g ρ1 with
        | stuck => rw [e2] at P1; exact P1
        | exc c fs ρ' => rw [e2] at P1; exact P1
        | ok q => rw [e2] at P1; exact fun v H' Z' z' h' S' => P1 v H' Z' z' (fun hb => h' (by rw [Bool.and_eq_true] at hb; exact hb.2)) S'
theorem ev_one {op : BoolOp} {b1 : Bool} {f : Env → R Env (D × Env)} (ha : Ev X G W b1 a f) : Ev X G W b1 (.BoolOp op [a] pos) f := ⟨ha.q, fun σ H Z ρ T Q S P => toE (pe_one peR) (ha.run σ H Z ρ T _ S P)⟩
def dAnd (f g : Env → R Env (D × Env)) : Env → R Env (D × Env) := fun ρ => (f ρ).bind fun q => match q.1 with
  | .bl true => g q.2
  | .bl false => .ok (.bl false, q.2)
  | _ => .stuck
def dOr (f g : Env → R Env (D × Env)) : Env → R Env (D × Env) := fun ρ => (f ρ).bind fun q => match q.1 with
  | .bl false => g q.2
  | .bl true => .ok (.bl true, q.2)
  | _ => .stuck
@[simp] theorem dAnd_eq (f g : Env → R Env (D × Env)) (ρ : Env) : dAnd f g ρ = (f ρ).bind fun q => match q.1 with
  | .bl true => g q.2
  | .bl false => .ok (.bl false, q.2)
  | _ => .stuck := rfl
@[simp] theorem dOr_eq (f g : Env → R Env (D × Env)) (ρ : Env) : dOr f g ρ = (f ρ).bind fun q => match q.1 with
  | .bl false => g q.2
  | .bl true => .ok (.bl true, q.2)
  | _ => .stuck := rfl
theorem EPost.end1 {K : Ct} {Z Z1 H H1 : Hp} {σ : Sg} {T : List It} {Q : VK} {b1 b2 : Bool} {d : D} {v : V} {ρ' : Env} (P : EPost K (b1 && b2) Z H σ T W Q (.ok (d, ρ'))) (z : Same Z Z1) (h : b1 = true → Same H H1) (s : Sa K Z1 H1 σ ρ' (.tr d v :: T)) : Q v H1 :=
  P v H1 Z1 z (fun hb => by rw [Bool.and_eq_true] at hb; exact h hb.1) s
theorem ev_and {rest : List Expr} {b1 b2 : Bool} {f g : Env → R Env (D × Env)} (ha : Ev X G W b1 a f) (hb : Ev X G W b2 (.BoolOp .And (b :: rest) pos) g) : Ev X G W (b1 && b2) (.BoolOp .And (a :: b :: rest) pos) (dAnd f g) := by
  refine ⟨fun hq ρ d ρ' e => ?_, fun σ H Z ρ T Q S P => toE (pe_and peR peR) (ha.run σ H Z ρ T _ S ?_)⟩
  · simp only [Bool.and_eq_true] at hq
    refine bindq (b1 := b1) ha.q (fun p d ρ' e => ?_) hq.1 ρ d ρ' e
    split at e
    · exact hb.q hq.2 _ _ _ e
    · cases e; rfl
    · cases e
  · unfold dAnd at P
    cases e1 : f ρ with
    | stuck => rw [e1] at P; exact P
    | exc c fs ρ' => rw [e1] at P; exact P
    | ok r =>
      obtain ⟨d, ρ1⟩ := r
      rw [e1] at P
      simp only [R.ok_bind] at P
      intro v H1 Z1 z1 h1 S1
      cases d with
      | bl k =>
        obtain ⟨fp, rv, _⟩ := S1.rp
        refine ⟨k, rv, ?_⟩
        cases k with
        | true => rw [if_pos rfl]; exact hb.run σ H1 Z1 ρ1 T Q S1.drop (P.of z1 h1)
        | false => rw [if_neg Bool.false_ne_true]; rw [rv] at S1; exact P.end1 z1 h1 S1
      | _ => exact P.elim
theorem ev_or {rest : List Expr} {b1 b2 : Bool} {f g : Env → R Env (D × Env)} (ha : Ev X G W b1 a f) (hb : Ev X G W b2 (.BoolOp .Or (b :: rest) pos) g) : Ev X G W (b1 && b2) (.BoolOp .Or (a :: b :: rest) pos) (dOr f g) := by
  refine ⟨fun hq ρ d ρ' e => ?_, fun σ H Z ρ T Q S P => toE (pe_or peR peR) (ha.run σ H Z ρ T _ S ?_)⟩
  · simp only [Bool.and_eq_true] at hq
    refine bindq (b1 := b1) ha.q (fun p d ρ' e => ?_) hq.1 ρ d ρ' e
    split at e
    · exact hb.q hq.2 _ _ _ e
    · cases e; rfl
    · cases e
  · unfold dOr at P
    cases e1 : f ρ with
    | stuck => rw [e1] at P; exact P
    | exc c fs ρ' => rw [e1] at P; exact P
    | ok r =>
      obtain ⟨d, ρ1⟩ := r
      rw [e1] at P
      simp only [R.ok_bind] at P
      intro v H1 Z1 z1 h1 S1
      cases d with
      | bl k =>
        obtain ⟨fp, rv, _⟩ := S1.rp
        refine ⟨k, rv, ?_⟩
        cases k with
        | false => rw [if_neg Bool.false_ne_true]; exact hb.run σ H1 Z1 ρ1 T Q S1.drop (P.of z1 h1)
        | true => rw [if_pos rfl]; rw [rv] at S1; exact P.end1 z1 h1 S1
      | _ => exact P.elim
def dNot (f : Env → R Env (D × Env)) : Env → R Env (D × Env) := fun ρ => (f ρ).bind fun q => match q.1 with
  | .bl k => .ok (.bl (!k), q.2)
  | _ => .stuck
@[simp] theorem dNot_eq (f : Env → R Env (D × Env)) (ρ : Env) : dNot f ρ = (f ρ).bind fun q => match q.1 with
  | .bl k => .ok (.bl (!k), q.2)
  | _ => .stuck := rfl
theorem ev_not {b1 : Bool} {f : Env → R Env (D × Env)} (ha : Ev X G W b1 a f) : Ev X G W b1 (.UnaryOp .Not a pos) (dNot f) := by
  refine ⟨bindq ha.q fun p d ρ' e => ?_, fun σ H Z ρ T Q S P => toE (pe_not peR) (ha.run σ H Z ρ T _ S ?_)⟩
  · split at e
    · cases e; rfl
    · cases e
  · unfold dNot at P
    cases e1 : f ρ with
    | stuck => rw [e1] at P; exact P
    | exc c fs ρ' => rw [e1] at P; exact P
    | ok r =>
      obtain ⟨d, ρ1⟩ := r
      rw [e1] at P
      simp only [R.ok_bind] at P
      intro v H1 Z1 z1 h1 S1
      cases d with
      | bl k =>
        obtain ⟨fp, rv, _⟩ := S1.rp
        exact ⟨k, rv, P _ H1 Z1 z1 h1 (Al.sa (Al.flat fun _ _ => ⟨rfl, rfl⟩) S1.drop)⟩
      | _ => exact P.elim
/-! ### items -/
def lookD : List Ky → List D → Ky → Option D
  | k :: ks, d :: ds, j => if k = j then some d else lookD ks ds j
  | _, _, _ => none
theorem mkK_inj {a b : Ky} (h : mkK a = mkK b) : a = b := by
  cases a <;> cases b <;> simp only [mkK] at h
  · cases h; rfl
  · cases h
  · cases h
  · rw [mkS_inj (Sum.inr.inj h)]
theorem look_rps {K : Ct} {Z H : Hp} {k : Ky} : ∀ {ks : List Ky} {ds : List D} {vs : List V} {fp : List Addr} {d : D}, Rps K Z H ds vs fp → lookD ks ds k = some d → ∃ w f, valV ((ks.map mkK).zip vs) (mkK k) = some w ∧ Rp K Z H d w f
  | [], _, _, _, _, _, h => by cases h
  | _ :: _, [], _, _, _, _, h => by cases h
  | j :: ks, x :: ds, vs, fp, d, r, h => by
    obtain ⟨v, vs', f1, f2, rfl, rfl, r1, r2⟩ := r
    unfold lookD at h
    by_cases e : j = k
    · rw [if_pos e] at h; cases h
      exact ⟨v, f1, valV_pos (by rw [e]), r1⟩
    · rw [if_neg e] at h
      obtain ⟨w, f, h1, h2⟩ := look_rps r2 h
      exact ⟨w, f, (valV_neg (fun z => e (mkK_inj z))).trans h1, h2⟩
def rIxK : V → V → Hp → VK → Prop := fun x y H Q => ∃ (a : Addr) (kvs : List (Key × V)) (k : Key) (v : V), x = .ref a ∧ y = kV k ∧ H a = some (.dK kvs) ∧ valV kvs k = some v ∧ Q v H
theorem ix_dK {X : Cx} : IxR X rIxK := by
  intro value slice pins s σ H x y v u Q I rx ry h hs
  obtain ⟨a, kvs, k, z, rfl, rfl, e, l, q⟩ := h
  obtain rfl : v = Value.ref a := rx
  obtain ⟨_, _, vs, rel, dd⟩ := dk_rd I.hok (.inl e)
  obtain ⟨w', hw, rw'⟩ := RelO.some_of (v := z) (o := valueAt vs k) (by rw [← l]; exact rel.val k)
  exact PyProof.Rows.tail_any (dict_typeIs I (.inl ⟨kvs, k, .inl e, rfl, rfl⟩)) PySem.F.slot_dict_getitem.lookup (wpAny_getItem_of (kV_is ry) dd.mapOf hw ⟨z, H, I.tok _, rw', q⟩) hs
theorem kyV_int (i : Int) : kV (mkK (.inl i)) = .int i := rfl
theorem kyV_str (l : List Nat) : kV (mkK (.inr l)) = .str (mkS l) := rfl
def getIx : D → D → Option D
  | .tup ds, .int i => L2.atI ds i
  | .nd _ .lst ds, .int i => L2.atI ds i
  | .nd false .ro ds, .int i => L2.atI ds i
  | .str l, .int i => if l.length ≤ lim then (L2.atI l i).map fun c => .str [c] else none
  | .nd _ (.dct ks) ds, .int i => lookD ks ds (.inl i)
  | .nd _ (.dct ks) ds, .str l => lookD ks ds (.inr l)
  | _, _ => none
abbrev rIx' (X : Cx) : V → V → Hp → VK → Prop := fun x y H Q => rIx X.K x y H Q ∨ rIxK x y H Q
theorem ix_any {X : Cx} : IxR X (rIx' X) := ix_seq.or ix_dK
def gIx (f g : Env → Option D) : Env → Option D := fun ρ => (f ρ).bind fun x => (g ρ).bind fun i => getIx x i
@[simp] theorem gIx_eq (f g : Env → Option D) (ρ : Env) : gIx f g ρ = (f ρ).bind fun x => (g ρ).bind fun i => getIx x i := rfl
theorem ix_ok {Z H : Hp} {x i d : D} {v u : V} {fx fi : List Addr} {Q : VK} (zh : Same Z H) (rx : Rp ⟨X.K, G⟩ Z H x v fx) (ri : Rp ⟨X.K, G⟩ Z H i u fi) (e : getIx x i = some d) (q : ∀ w f, Rp ⟨X.K, G⟩ Z H d w f → Q w H) : rIx' X v u H Q := by
  have dct : ∀ {m : Bool} {ks : List Ky} {ds : List D} {k : Ky}, Rp ⟨X.K, G⟩ Z H (.nd m (.dct ks) ds) v fx → u = kV (mkK k) → lookD ks ds k = some d → rIx' X v u H Q := by
    intro m ks ds k rx eu e
    cases m with
    | true =>
      obtain ⟨a, vs, own, fp', rfl, s, r, _⟩ := rx
      obtain ⟨w, f, h1, h2⟩ := look_rps r e
      exact .inr ⟨a, _, _, w, rfl, eu, s.2.1, h1, q w f h2⟩
    | false =>
      obtain ⟨a, vs, rfl, ⟨own, s⟩, r, _⟩ := rx
      obtain ⟨w, f, h1, h2⟩ := look_rps r e
      exact .inr ⟨a, _, _, w, rfl, eu, zh _ _ s.2.1, h1, q w f h2⟩
  cases i with
  | int j =>
    obtain ⟨rfl, rfl⟩ := ri
    cases x with
    | tup ds =>
      obtain ⟨a, vs, rfl, s, r⟩ := rx
      obtain ⟨w, f, e2, rw'⟩ := r.atI e
      exact .inl (.inr (.inl ⟨a, vs, j, w, rfl, rfl, sqT_mono s zh, e2, q w f rw'⟩))
    | str l =>
      have e : (if l.length ≤ lim then (L2.atI l j).map fun c => D.str [c] else none) = some d := e
      split at e <;> rename_i hl
      · obtain ⟨rfl, rfl⟩ := rx
        cases e3 : L2.atI l j with
        | none => rw [e3] at e; cases e
        | some c =>
          rw [e3] at e; cases e
          exact .inl (.inr (.inr ⟨mkS l, j, c, rfl, rfl, by show l.toArray.size ≤ sizeLine; rw [List.size_toArray]; exact lim_of hl, by show L2.atI l.toArray.toList j = some c; rw [List.toList_toArray]; exact e3, q _ [] ⟨rfl, rfl⟩⟩))
      · cases e
    | nd m k ds =>
      cases k with
      | dct ks => exact dct (k := .inl j) rx rfl (by cases m <;> exact e)
      | obj C ns => cases m <;> cases e
      | hole => cases m <;> cases e
      | ro =>
        cases m with
        | true => cases e
        | false =>
          obtain ⟨a, vs, rfl, s, r, _⟩ := rx
          obtain ⟨w, f, e2, rw'⟩ := r.atI e
          exact .inl (.inl ⟨a, vs, j, w, rfl, rfl, zh.seq s, e2, q w f rw'⟩)
      | lst =>
        cases m with
        | true =>
          obtain ⟨a, vs, own, fp', rfl, s, r, _⟩ := rx
          obtain ⟨w, f, e2, rw'⟩ := r.atI e
          exact .inl (.inl ⟨a, vs, j, w, rfl, rfl, SqL.of s.1, e2, q w f rw'⟩)
        | false =>
          obtain ⟨a, vs, rfl, ⟨own, s⟩, r, _⟩ := rx
          obtain ⟨w, f, e2, rw'⟩ := r.atI e
          exact .inl (.inl ⟨a, vs, j, w, rfl, rfl, SqL.of (zh _ _ s.1), e2, q w f rw'⟩)
    | _ => cases e
  | str l =>
    obtain ⟨rfl, rfl⟩ := ri
    cases x with
    | nd m k ds => cases k with
      | dct ks => exact dct (k := .inr l) rx rfl (by cases m <;> exact e)
      | _ => cases m <;> cases e
    | _ => cases e
  | _ => cases x <;> (try cases e) <;> (rename_i m k ds; cases m <;> cases k <;> cases e)
theorem bo_ix {f g : Env → Option D} (ha : Bo X G a f) (hb : Bo X G b g) (hs : PlainIx b) : Bo X G (.Subscript a b pos) (gIx f g) := by
  refine ⟨fun σ H Z ρ T Q d S e q => toE (pe_ix ix_any peR peR hs) ?_⟩
  simp only [gIx_eq, Option.bind_eq_some_iff] at e
  obtain ⟨x, e1, i, e2, e3⟩ := e
  refine ha.run σ H Z ρ T _ x S e1 fun v H1 Z1 fx z1 h1 S1 rx => ?_
  refine hb.run σ H1 Z1 ρ T _ i S1 e2 fun u H2 Z2 fi z2 h2 S2 ri => ?_
  exact ix_ok S2.si.zh (rx.keep z2 fun b _ o e => h2 b o e) ri e3 fun w f' rw' => q w H2 Z2 f' (z1.trans z2) (h1.trans h2) S2 rw'
/-- an item of what has just been reckoned, frozen -/
def fIx : F2 := fun x i => getIx (frz x) i
def dIx (f g : Env → R Env (D × Env)) : Env → R Env (D × Env) := d2 fIx f g
@[simp] theorem dIx_eq (f g : Env → R Env (D × Env)) (ρ : Env) : dIx f g ρ = (f ρ).bind fun p => (g p.2).bind fun q => (oR (getIx (frz p.1) q.1)).bind fun d => .ok (d, q.2) := rfl
end
section
variable {K : Ct} {Z H : Hp}
theorem atI_frz {ds : List D} {i : Int} {d : D} (h : L2.atI (frzs ds) i = some d) : isFrz d = true := by
  unfold L2.atI at h
  cases e : ixN (frzs ds).length i with
  | none => rw [e] at h; cases h
  | some j =>
    rw [e] at h
    have h' : (frzs ds)[j]? = some d := h
    rw [frzs_map, List.getElem?_map] at h'
    cases e2 : ds[j]? with
    | none => rw [e2] at h'; cases h'
    | some x => rw [e2] at h'; cases h'; exact isFrz_frz x
theorem look_frz {k : Ky} : ∀ {ks : List Ky} {ds : List D} {d : D}, lookD ks (frzs ds) k = some d → isFrz d = true
  | [], _, _, h => by cases h
  | _ :: _, [], _, h => by cases h
  | j :: ks, x :: ds, d, h => by
    show isFrz d = true
    have h : (if j = k then some (frz x) else lookD ks (frzs ds) k) = some d := h
    by_cases e : j = k
    · rw [if_pos e] at h; cases h; exact isFrz_frz x
    · rw [if_neg e] at h; exact look_frz h
theorem getIx_frz {x i d : D} (h : getIx (frz x) i = some d) : isFrz d = true := by
  cases i with
  | int j =>
    cases x with
    | tup ds => exact atI_frz h
    | str l =>
      have h : (if l.length ≤ lim then (L2.atI l j).map fun c => D.str [c] else none) = some d := h
      split at h
      · cases e3 : L2.atI l j with
        | none => rw [e3] at h; cases h
        | some c => rw [e3] at h; cases h; rfl
      · cases h
    | nd m k ds =>
      cases k with
      | lst => exact atI_frz h
      | ro => exact atI_frz h
      | dct ks => exact look_frz h
      | obj C ns => cases h
      | hole => cases h
    | _ => cases h
  | str l =>
    cases x with
    | nd m k ds => cases k with
      | dct ks => exact look_frz h
      | _ => cases h
    | _ => cases h
  | _ => cases x <;> (try cases h) <;> (rename_i m k ds; cases k <;> cases h)
end
section
variable {X : Cx} {G : Nat → Addr} {W : WX} {e a b c tg iter : Expr} {es : List Expr} {pos p : Pos}
theorem ev_ix {b1 b2 : Bool} {f g : Env → R Env (D × Env)} (ha : Ev X G W b1 a f) (hb : Ev X G W b2 b g) (hs : PlainIx b) : Ev X G W (b1 && b2) (.Subscript a b pos) (dIx f g) := by
  refine ⟨d2_q ha hb, fun σ H Z ρ T Q S P => toE (pe_ix ix_any peR peR hs) ?_⟩
  refine ha.run σ H Z ρ T _ S ?_
  unfold dIx d2 at P
  cases e1 : f ρ with
  | stuck => rw [e1] at P; exact P
  | exc c fs ρ' => rw [e1] at P; exact P
  | ok p =>
    obtain ⟨x, ρ1⟩ := p
    rw [e1] at P
    intro v H1 Z1 z1 h1 S1
    refine hb.run σ H1 Z1 ρ1 _ _ S1 ?_
    simp only [R.ok_bind] at P
    cases e2 : g ρ1 with
    | stuck => rw [e2] at P; exact P
    | exc c fs ρ' => rw [e2] at P; exact XPost.drop (XPost.of P z1)
    | ok p =>
      obtain ⟨y, ρ2⟩ := p
      rw [e2] at P
      intro u H2 Z2 z2 h2 S2
      simp only [R.ok_bind] at P
      cases e3 : fIx x y with
      | none => rw [e3] at P; exact P.elim
      | some d =>
        rw [e3] at P
        obtain ⟨Z3, z3, S3⟩ := (S2.perm (List.Perm.swap _ _ _)).freeze
        obtain ⟨fx, rx⟩ := S3.rp
        obtain ⟨fy, ry⟩ := S3.drop.rp
        refine ix_ok S3.si.zh rx ry e3 fun w f' rw' => ?_
        have fd := rw'.isFrz (getIx_frz e3)
        subst fd
        refine P w H2 Z3 ((z1.trans z2).trans z3) (fun hb => ?_) (.of_front S3.ok (S3.drop.drop.si.add rw'))
        rw [Bool.and_eq_true] at hb
        exact (h1 hb.1).trans (h2 hb.2)
/-- an item of a name's thing, the index being reckoned first -/
def dIxV (i : Nat) (g : Env → R Env (D × Env)) : Env → R Env (D × Env) := fun ρ => (oR (gVar i ρ)).bind fun _ => (g ρ).bind fun q => (oR (gVar i q.2)).bind fun x => (oR (getIx x q.1)).bind fun d => if isFrz d = true then .ok (d, q.2) else .stuck
@[simp] theorem dIxV_eq (i : Nat) (g : Env → R Env (D × Env)) (ρ : Env) : dIxV i g ρ = (oR (gVar i ρ)).bind fun _ => (g ρ).bind fun q => (oR (gVar i q.2)).bind fun x => (oR (getIx x q.1)).bind fun d => if isFrz d = true then .ok (d, q.2) else .stuck := rfl
theorem ev_ixV {i : Nat} {b2 : Bool} {g : Env → R Env (D × Env)} (ha : PE X a (tVar i)) (hb : Ev X G W b2 b g) (hs : PlainIx b) : Ev X G W b2 (.Subscript a b pos) (dIxV i g) := by
  refine ⟨fun hq ρ d ρ' e => ?_, fun σ H Z ρ T Q S P => toE (pe_ix ix_any ha peR hs) ?_⟩
  · unfold dIxV at e
    cases e0 : gVar i ρ with
    | none => rw [e0] at e; cases e
    | some d0 =>
      rw [e0] at e
      refine bindq (b1 := b2) hb.q (fun p d ρ' e => ?_) hq ρ d ρ' e
      cases e1 : gVar i p.2 with
      | none => rw [e1] at e; cases e
      | some x =>
        rw [e1] at e
        simp only [oR_some, R.ok_bind] at e
        cases e2 : getIx x p.1 with
        | none => rw [e2] at e; cases e
        | some y =>
          rw [e2] at e
          simp only [oR_some, R.ok_bind] at e
          split at e
          · cases e; rfl
          · cases e
  · unfold dIxV at P
    cases e0 : gVar i ρ with
    | none => rw [e0] at P; exact P.elim
    | some d0 =>
      rw [e0] at P
      simp only [oR_some, R.ok_bind] at P
      obtain ⟨v, hv⟩ := S.ok.get i d0 (gVar_some e0)
      refine ⟨v, hv, hb.run σ H Z ρ T _ S ?_⟩
      cases e1 : g ρ with
      | stuck => rw [e1] at P; exact P
      | exc c fs ρ' => rw [e1] at P; exact P
      | ok q =>
        obtain ⟨y, ρ1⟩ := q
        rw [e1] at P
        simp only [R.ok_bind] at P
        intro u H1 Z1 z1 h1 S1
        cases e2 : gVar i ρ1 with
        | none => rw [e2] at P; exact P.elim
        | some x =>
          rw [e2] at P
          simp only [oR_some, R.ok_bind] at P
          cases e3 : getIx x y with
          | none => rw [e3] at P; exact P.elim
          | some d =>
            rw [e3] at P
            simp only [oR_some, R.ok_bind] at P
            split at P
            · rename_i fd
              obtain ⟨v', fx, hv', rx⟩ := S1.view (gVar_some e2)
              rw [hv] at hv'; cases hv'
              obtain ⟨fy, ry⟩ := S1.rp
              refine ix_ok S1.si.zh rx ry e3 fun w f' rw' => ?_
              have fd' := rw'.isFrz fd
              subst fd'
              exact P w H1 Z1 z1 h1 (.of_front S1.ok (S1.drop.si.add rw'))
            · exact P.elim
end
end Tw

set_option maxRecDepth 100000
namespace Tw
open PySem PySem.Spec L2

section
variable {X : Cx} {G : Nat → Addr} {W : WX} {e a b c tg iter : Expr} {es : List Expr} {pos p : Pos} {K : Ct} {Z H : Hp}
theorem q_int {i : Int} {Q : VK} (q : ∀ w H' Z', Al K Z H Z' H' (.int i) w → Q w H') : Q (.int i) H := q _ H Z (Al.flat fun _ _ => ⟨rfl, rfl⟩)
theorem q_bl {i : Bool} {Q : VK} (q : ∀ w H' Z', Al K Z H Z' H' (.bl i) w → Q w H') : Q (.bl i) H := q _ H Z (Al.flat fun _ _ => ⟨rfl, rfl⟩)
theorem q_str {l : List Nat} {Q : VK} (q : ∀ w H' Z', Al K Z H Z' H' (.str l) w → Q w H') : Q (.str (mkS l)) H := q _ H Z (Al.flat fun _ _ => ⟨rfl, rfl⟩)
theorem mkS_app (a b : List Nat) : mkS a ++ mkS b = mkS (a ++ b) := by
  show Str.mk (a.toArray ++ b.toArray) = _
  simp [mkS]
theorem mkS_len (a : List Nat) : (mkS a).length = a.length := by
  show a.toArray.size = _
  simp
/-! ### numbers -/
def subF : F2
  | .int i, .int j => some (.int (i - j))
  | _, _ => none
theorem opF_sub : OpF X G (rI0 fun i j => .int (i - j)) subF := by
  intro Z H x y v u fx fy d Q zh rx ry e q
  unfold subF at e
  split at e
  · obtain ⟨rfl, rfl⟩ := rx
    obtain ⟨rfl, rfl⟩ := ry
    cases e
    exact ⟨_, _, rfl, rfl, q_int q⟩
  · cases e
def modF : F2
  | .int i, .int j => if 0 < j then some (.int (i % j)) else none
  | _, _ => none
theorem opF_mod : OpF X G (rI (fun _ j => 0 < j) fun i j => .int (i % j)) modF := by
  intro Z H x y v u fx fy d Q zh rx ry e q
  unfold modF at e
  split at e
  · obtain ⟨rfl, rfl⟩ := rx
    obtain ⟨rfl, rfl⟩ := ry
    split at e
    · rename_i h; cases e; exact ⟨_, _, rfl, rfl, h, q_int q⟩
    · cases e
  · cases e
def divF : F2
  | .int i, .int j => if 0 < j ∧ j < 1073741824 then some (.int (i / j)) else none
  | _, _ => none
theorem opF_div : OpF X G (rI CDiv fun i j => .int (i / j)) divF := by
  intro Z H x y v u fx fy d Q zh rx ry e q
  unfold divF at e
  split at e
  · obtain ⟨rfl, rfl⟩ := rx
    obtain ⟨rfl, rfl⟩ := ry
    split at e
    · rename_i h; cases e; exact ⟨_, _, rfl, rfl, h, q_int q⟩
    · cases e
  · cases e
def powF : F2
  | .int i, .int j => if 0 ≤ j ∧ j ≤ 1000000 ∧ i.natAbs < 2 ^ 64 then some (.int (i ^ j.toNat)) else none
  | _, _ => none
theorem opF_pow : OpF X G (rI CPow fun i j => .int (i ^ j.toNat)) powF := by
  intro Z H x y v u fx fy d Q zh rx ry e q
  unfold powF at e
  split at e
  · obtain ⟨rfl, rfl⟩ := rx
    obtain ⟨rfl, rfl⟩ := ry
    split at e
    · rename_i h; cases e; exact ⟨_, _, rfl, rfl, h, q_int q⟩
    · cases e
  · cases e
def ltF : F2
  | .int i, .int j => some (.bl (decide (i < j)))
  | _, _ => none
def leF : F2
  | .int i, .int j => some (.bl (decide (i ≤ j)))
  | _, _ => none
def gtF : F2
  | .int i, .int j => some (.bl (decide (j < i)))
  | _, _ => none
def geF : F2
  | .int i, .int j => some (.bl (decide (j ≤ i)))
  | _, _ => none
theorem opF_lt : OpF X G (rI0 fun i j => .bl (decide (i < j))) ltF := by
  intro Z H x y v u fx fy d Q zh rx ry e q
  unfold ltF at e
  split at e
  · obtain ⟨rfl, rfl⟩ := rx
    obtain ⟨rfl, rfl⟩ := ry
    cases e
    exact ⟨_, _, rfl, rfl, q_bl q⟩
  · cases e
theorem opF_le : OpF X G (rI0 fun i j => .bl (decide (i ≤ j))) leF := by
  intro Z H x y v u fx fy d Q zh rx ry e q
  unfold leF at e
  split at e
  · obtain ⟨rfl, rfl⟩ := rx
    obtain ⟨rfl, rfl⟩ := ry
    cases e
    exact ⟨_, _, rfl, rfl, q_bl q⟩
  · cases e
theorem opF_gt : OpF X G (rI0 fun i j => .bl (decide (j < i))) gtF := by
  intro Z H x y v u fx fy d Q zh rx ry e q
  unfold gtF at e
  split at e
  · obtain ⟨rfl, rfl⟩ := rx
    obtain ⟨rfl, rfl⟩ := ry
    cases e
    exact ⟨_, _, rfl, rfl, q_bl q⟩
  · cases e
theorem opF_ge : OpF X G (rI0 fun i j => .bl (decide (j ≤ i))) geF := by
  intro Z H x y v u fx fy d Q zh rx ry e q
  unfold geF at e
  split at e
  · obtain ⟨rfl, rfl⟩ := rx
    obtain ⟨rfl, rfl⟩ := ry
    cases e
    exact ⟨_, _, rfl, rfl, q_bl q⟩
  · cases e
def dNeg (f : Env → R Env (D × Env)) : Env → R Env (D × Env) := fun ρ => (f ρ).bind fun q => match q.1 with
  | .int i => .ok (.int (-i), q.2)
  | _ => .stuck
@[simp] theorem dNeg_eq (f : Env → R Env (D × Env)) (ρ : Env) : dNeg f ρ = (f ρ).bind fun q => match q.1 with
  | .int i => .ok (.int (-i), q.2)
  | _ => .stuck := rfl
theorem ev_neg {b1 : Bool} {f : Env → R Env (D × Env)} (ha : Ev X G W b1 a f) : Ev X G W b1 (.UnaryOp .USub a pos) (dNeg f) := by
  refine ⟨bindq ha.q fun p d ρ' e => ?_, fun σ H Z ρ T Q S P => toE (pe_un un_neg peR) (ha.run σ H Z ρ T _ S ?_)⟩
  · split at e
    · cases e; rfl
    · cases e
  · unfold dNeg at P
    cases e1 : f ρ with
    | stuck => rw [e1] at P; exact P
    | exc c fs ρ' => rw [e1] at P; exact P
    | ok r =>
      obtain ⟨d, ρ1⟩ := r
      rw [e1] at P
      simp only [R.ok_bind] at P
      intro v H1 Z1 z1 h1 S1
      cases d with
      | int k =>
        obtain ⟨fp, rv, _⟩ := S1.rp
        exact ⟨k, rv, P _ H1 Z1 z1 h1 (Al.sa (Al.flat fun _ _ => ⟨rfl, rfl⟩) S1.drop)⟩
      | _ => exact P.elim
/-! ### + -/
theorem frz_lst {m : Bool} {ds : List D} {v : V} {fp : List Addr} (zh : Same Z H) (r : Rp K Z H (.lst m ds) v fp) (f : areFrz ds = true) : ∃ a vs, v = .ref a ∧ H a = some (.lst vs) ∧ Rps K Z H ds vs [] := by
  cases m with
  | true =>
    obtain ⟨a, vs, own, fp', rfl, s, r, _⟩ := r
    have := r.isFrz f
    subst this
    exact ⟨a, vs, rfl, s.1, r⟩
  | false =>
    obtain ⟨a, vs, rfl, ⟨own, s⟩, r, _⟩ := r
    exact ⟨a, vs, rfl, zh _ _ s.1, r⟩
theorem Rps.app : ∀ {ds ds' : List D} {vs vs' : List V} {f f' : List Addr}, Rps K Z H ds vs f → Rps K Z H ds' vs' f' → Rps K Z H (ds ++ ds') (vs ++ vs') (f ++ f')
  | [], _, _, _, _, _, r, r' => by obtain ⟨rfl, rfl⟩ := r; exact r'
  | d :: ds, ds', vs, vs', f, f', r, r' => by
    obtain ⟨v, vs1, f1, f2, rfl, rfl, r1, r2⟩ := r
    exact ⟨v, vs1 ++ vs', f1, f2 ++ f', rfl, by simp, r1, Rps.app r2 r'⟩
theorem areFrz_app (a b : List D) : areFrz (a ++ b) = (areFrz a && areFrz b) := by
  induction a with
  | nil => rfl
  | cons x a ih => show (isFrz x && areFrz (a ++ b)) = ((isFrz x && areFrz a) && areFrz b); rw [ih, Bool.and_assoc]
def addF : F2
  | .int i, .int j => some (.int (i + j))
  | .str x, .str y => if x.length + y.length ≤ lim then some (.str (x ++ y)) else none
  | .nd _ .lst x, .nd _ .lst y => if areFrz x = true ∧ areFrz y = true ∧ x.length + y.length ≤ lim then some (.lst true (x ++ y)) else none
  | .tup (x :: xs), .tup (y :: ys) => if areFrz (x :: xs) = true ∧ areFrz (y :: ys) = true ∧ (x :: xs).length + (y :: ys).length ≤ lim then some (.tup ((x :: xs) ++ (y :: ys))) else none
  | _, _ => none
abbrev rAdd' (X : Cx) : R2 := fun x y H Q => (rI0 fun i j => .int (i + j)) x y H Q ∨ (∃ i j, x = .str i ∧ y = .str j ∧ i.length + j.length ≤ sizeLine ∧ Q (.str (i ++ j)) H) ∨ rCat x y H Q ∨ rCatT X.K x y H Q
theorem op_add' : OpR X (binaryOp .Add) (rAdd' X) := op_add.or (op_add_str.or (op_cat.or op_catT))
theorem opF_add : OpF X G (rAdd' X) addF := by
  intro Z H x y v u fx fy d Q zh rx ry e q
  unfold addF at e
  split at e
  · obtain ⟨rfl, rfl⟩ := rx
    obtain ⟨rfl, rfl⟩ := ry
    cases e
    exact .inl ⟨_, _, rfl, rfl, q_int q⟩
  · obtain ⟨rfl, rfl⟩ := rx
    obtain ⟨rfl, rfl⟩ := ry
    split at e
    · rename_i h; cases e
      refine .inr (.inl ⟨_, _, rfl, rfl, by rw [mkS_len, mkS_len]; exact lim_of h, ?_⟩)
      rw [mkS_app]; exact q_str q
    · cases e
  · split at e
    · rename_i h; cases e
      obtain ⟨a, vs, rfl, ha, ra⟩ := frz_lst zh rx h.1
      obtain ⟨b, ws, rfl, hb, rb⟩ := frz_lst zh ry h.2.1
      exact .inr (.inr (.inl ⟨a, b, vs, ws, rfl, rfl, ha, hb, by rw [← ra.length, ← rb.length]; exact lim_of h.2.2, fun p hp => q _ _ _ (Al.newL (ra.app rb) hp)⟩))
    · cases e
  · split at e
    · rename_i h; cases e
      obtain ⟨a, vs, rfl, ha, ra⟩ := rx
      obtain ⟨b, ws, rfl, hb, rb⟩ := ry
      have := ra.isFrz h.1; subst this
      have := rb.isFrz h.2.1; subst this
      have l1 := ra.length
      have l2 := rb.length
      refine .inr (.inr (.inr ⟨a, b, vs, ws, rfl, rfl, sqT_mono ha zh, sqT_mono hb zh, fun z => ?_, by rw [← ra.length, ← rb.length]; exact lim_of h.2.2, fun z => ?_, fun _ p hp => q _ _ _ (Al.newT zh (ra.app rb) hp)⟩))
      · subst z; cases l1
      · subst z; cases l2
    · cases e
  · cases e
/-! ### * -/
def mulF : F2
  | .int i, .int j => if (-(2 ^ 64) < i ∧ i < 2 ^ 64) ∨ (-(2 ^ 64) < j ∧ j < 2 ^ 64) then some (.int (i * j)) else none
  | .nd _ .lst x, .int j => if areFrz x = true ∧ -(2 ^ 63) ≤ j ∧ j < 2 ^ 63 ∧ x.length * j.toNat ≤ lim then some (.lst true (List.replicate j.toNat x).flatten) else none
  | _, _ => none
abbrev rMul' (X : Cx) : R2 := fun x y H Q => (rI CMul fun i j => .int (i * j)) x y H Q ∨ rRep x y H Q
theorem op_mul' : OpR X (binaryOp .Mult) (rMul' X) := op_mul.or op_rep
theorem Rps.rep {ds : List D} {vs : List V} (r : Rps K Z H ds vs []) : ∀ n : Nat, Rps K Z H (List.replicate n ds).flatten (List.replicate n vs).flatten []
  | 0 => ⟨rfl, rfl⟩
  | n + 1 => by
    rw [List.replicate_succ, List.replicate_succ, List.flatten_cons, List.flatten_cons]
    exact r.app (Rps.rep r n)
theorem opF_mul : OpF X G (rMul' X) mulF := by
  intro Z H x y v u fx fy d Q zh rx ry e q
  unfold mulF at e
  split at e
  · obtain ⟨rfl, rfl⟩ := rx
    obtain ⟨rfl, rfl⟩ := ry
    split at e
    · rename_i h; cases e; exact .inl ⟨_, _, rfl, rfl, h, q_int q⟩
    · cases e
  · split at e
    · rename_i h; cases e
      obtain ⟨a, vs, rfl, ha, ra⟩ := frz_lst zh rx h.1
      obtain ⟨rfl, rfl⟩ := ry
      exact .inr ⟨a, _, vs, rfl, rfl, ha, h.2.1, h.2.2.1, by rw [← ra.length]; exact lim_of h.2.2.2, fun p hp => q _ _ _ (Al.newL (ra.rep _) hp)⟩
    · cases e
  · cases e
/-! ### == and != -/
mutual
def eqvD : D → D → Bool
  | .non, .non => true
  | .bl a, .bl b => a == b
  | .bl a, .int j => (if a then 1 else 0) == j
  | .int i, .bl b => i == (if b then 1 else 0)
  | .int i, .int j => i == j
  | .str x, .str y => x == y
  | .tup x, .tup y => eqvDs x y
  | .nd _ .lst x, .nd _ .lst y => eqvDs x y
  | _, _ => false
def eqvDs : List D → List D → Bool
  | [], [] => true
  | x :: xs, y :: ys => eqvD x y && eqvDs xs ys
  | _, _ => false
end
mutual
/-- data, at most n deep -/
def okD : Nat → D → Bool
  | _, .non => true
  | _, .bl _ => true
  | _, .int _ => true
  | _, .str l => l.all (· < 0x110000)
  | n + 1, .tup ds => okDs n ds
  | n + 1, .nd _ .lst ds => okDs n ds
  | _, _ => false
def okDs : Nat → List D → Bool
  | _, [] => true
  | n, d :: ds => okD n d && okDs n ds
end
mutual
def toP : D → PyData
  | .bl b => .bool b
  | .int i => .int i
  | .str l => .str (mkS l)
  | .tup ds => .tuple (toPs ds)
  | .nd _ .lst ds => .list (toPs ds)
  | _ => .none
def toPs : List D → List PyData
  | [] => []
  | d :: ds => toP d :: toPs ds
end
mutual
theorem okD_lay : ∀ {n : Nat} {d : D}, okD n d = true → (toP d).canLay0 = true ∧ (toP d).depth ≤ n
  | n, .non, _ => ⟨rfl, Nat.zero_le _⟩
  | n, .bl _, _ => ⟨rfl, Nat.zero_le _⟩
  | n, .int _, _ => ⟨rfl, Nat.zero_le _⟩
  | n, .str l, h => ⟨by
      show PyData.strOk (mkS l) = true
      unfold PyData.strOk mkS
      have h : l.all (· < 0x110000) = true := by cases n <;> exact h
      simpa using h, Nat.zero_le _⟩
  | 0, .tup ds, h => by cases h
  | n + 1, .tup ds, h => by
    obtain ⟨h1, h2⟩ := okDs_lay (n := n) (ds := ds) h
    exact ⟨h1, Nat.succ_le_succ h2⟩
  | 0, .nd m k ds, h => by cases k <;> cases h
  | n + 1, .nd m k ds, h => by
    cases k with
    | lst =>
      obtain ⟨h1, h2⟩ := okDs_lay (n := n) (ds := ds) h
      exact ⟨h1, Nat.succ_le_succ h2⟩
    | _ => cases h
  | n, .glb _, h => by cases n <;> cases h
theorem okDs_lay : ∀ {n : Nat} {ds : List D}, okDs n ds = true → PyData.canLayAll0 (toPs ds) = true ∧ PyData.depthAll (toPs ds) ≤ n
  | n, [], _ => ⟨rfl, Nat.zero_le _⟩
  | n, d :: ds, h => by
    unfold okDs at h
    rw [Bool.and_eq_true] at h
    obtain ⟨a1, a2⟩ := okD_lay h.1
    obtain ⟨b1, b2⟩ := okDs_lay h.2
    refine ⟨?_, ?_⟩
    · show ((toP d).canLay0 && PyData.canLayAll0 (toPs ds)) = true
      rw [a1, b1]; rfl
    · show max (toP d).depth (PyData.depthAll (toPs ds)) ≤ n
      exact Nat.max_le.mpr ⟨a2, b2⟩
end
mutual
theorem toP_dp : ∀ {n : Nat} {d : D} {v : V} {fp : List Addr}, Same Z H → okD n d = true → Rp K Z H d v fp → Dp K.K H v (toP d)
  | n, .non, _, _, _, _, r => by obtain ⟨rfl, _⟩ := r; exact .non
  | n, .bl _, _, _, _, _, r => by obtain ⟨rfl, _⟩ := r; exact .bl _
  | n, .int _, _, _, _, _, r => by obtain ⟨rfl, _⟩ := r; exact .int _
  | n, .str l, _, _, _, _, r => by obtain ⟨rfl, _⟩ := r; exact .str _
  | 0, .tup ds, _, _, _, h, _ => by cases h
  | n + 1, .tup ds, v, fp, zh, h, r => by
    obtain ⟨a, vs, rfl, s, r⟩ := r
    exact .tup (sqT_mono s zh) (toPs_dp (n := n) zh h r)
  | 0, .nd m k ds, _, _, _, h, _ => by cases k <;> cases h
  | n + 1, .nd m k ds, v, fp, zh, h, r => by
    cases k with
    | lst =>
      cases m with
      | true =>
        obtain ⟨a, vs, own, fp', rfl, s, r, _⟩ := r
        exact .lst (SqL.of s.1) (toPs_dp (n := n) zh h r)
      | false =>
        obtain ⟨a, vs, rfl, ⟨own, s⟩, r, _⟩ := r
        exact .lst (SqL.of (zh _ _ s.1)) (toPs_dp (n := n) zh h r)
    | _ => cases h
  | n, .glb _, _, _, _, h, _ => by cases n <;> cases h
theorem toPs_dp : ∀ {n : Nat} {ds : List D} {vs : List V} {fp : List Addr}, Same Z H → okDs n ds = true → Rps K Z H ds vs fp → DpAll K.K H vs (toPs ds)
  | n, [], _, _, _, _, r => by obtain ⟨rfl, _⟩ := r; exact .nil
  | n, d :: ds, vs, fp, zh, h, r => by
    unfold okDs at h
    rw [Bool.and_eq_true] at h
    obtain ⟨v, vs', f1, f2, rfl, rfl, r1, r2⟩ := r
    exact .cons (toP_dp zh h.1 r1) (toPs_dp zh h.2 r2)
end
theorem mkS_beq (a b : List Nat) : (mkS a == mkS b) = (a == b) := by
  by_cases h : a = b
  · subst h; simp
  · rw [beq_eq_false_iff_ne.mpr h, beq_eq_false_iff_ne.mpr fun z => h (mkS_inj z)]
theorem nd_lst {m : Nat} {b : Bool} {k : Kd} {ds : List D} (h : okD m (.nd b k ds) = true) : k = .lst := by
  cases k with
  | lst => rfl
  | _ => cases m <;> cases h
mutual
theorem eqv_toP : ∀ {n m : Nat} {x y : D}, okD n x = true → okD m y = true → PyData.eqv (toP x) (toP y) = eqvD x y
  | n, m, .non, y, _, h => by
    cases y with
    | nd b k ds => obtain rfl := nd_lst h; rfl
    | glb _ => cases m <;> cases h
    | _ => rfl
  | n, m, .bl _, y, _, h => by
    cases y with
    | nd b k ds => obtain rfl := nd_lst h; rfl
    | glb _ => cases m <;> cases h
    | _ => rfl
  | n, m, .int _, y, _, h => by
    cases y with
    | nd b k ds => obtain rfl := nd_lst h; rfl
    | glb _ => cases m <;> cases h
    | _ => rfl
  | n, m, .str l, y, _, h => by
    cases y with
    | str l' => exact mkS_beq l l'
    | nd b k ds => obtain rfl := nd_lst h; rfl
    | glb _ => cases m <;> cases h
    | _ => rfl
  | 0, m, .tup ds, _, h, _ => by cases h
  | n + 1, m, .tup ds, y, h, h' => by
    cases y with
    | tup ds' =>
      cases m with
      | zero => cases h'
      | succ m => exact eqv_toPs (n := n) (m := m) h h'
    | nd b k ds' => obtain rfl := nd_lst h'; rfl
    | glb _ => cases m <;> cases h'
    | _ => rfl
  | 0, m, .nd _ k ds, _, h, _ => by cases k <;> cases h
  | n + 1, m, .nd _ k ds, y, h, h' => by
    obtain rfl := nd_lst h
    cases y with
    | nd b k ds' =>
      obtain rfl := nd_lst h'
      cases m with
      | zero => cases h'
      | succ m => exact eqv_toPs (n := n) (m := m) h h'
    | glb _ => cases m <;> cases h'
    | _ => rfl
  | n, m, .glb _, _, h, _ => by cases n <;> cases h
theorem eqv_toPs : ∀ {n m : Nat} {x y : List D}, okDs n x = true → okDs m y = true → PyData.eqvAll (toPs x) (toPs y) = eqvDs x y
  | n, m, [], [], _, _ => rfl
  | n, m, [], y :: ys, _, _ => rfl
  | n, m, x :: xs, [], _, _ => rfl
  | n, m, x :: xs, y :: ys, h, h' => by
    unfold okDs at h h'
    rw [Bool.and_eq_true] at h h'
    show (PyData.eqv (toP x) (toP y) && PyData.eqvAll (toPs xs) (toPs ys)) = (eqvD x y && eqvDs xs ys)
    rw [eqv_toP h.1 h'.1, eqv_toPs h.2 h'.2]
end
def flatD : D → Bool
  | .non => true
  | .bl _ => true
  | .int _ => true
  | .str _ => true
  | _ => false
/-- scalars that need no look within, or data 64 deep at most -/
def eqF : F2 := fun x y => match x, y with
  | .int i, .int j => some (.bl (i == j))
  | .str a, .str b => some (.bl (a == b))
  | .bl a, .bl b => some (.bl (a == b))
  | x, y => if okD 64 x = true ∧ okD 64 y = true then some (.bl (eqvD x y)) else none
def neF : F2 := fun x y => match x, y with
  | .int i, .int j => some (.bl (!(i == j)))
  | .str a, .str b => some (.bl (!(a == b)))
  | .bl a, .bl b => some (.bl (!(a == b)))
  | x, y => if okD 64 x = true ∧ okD 64 y = true then some (.bl (!eqvD x y)) else none
abbrev rEq' (X : Cx) : R2 := fun x y H Q => rEq x y H Q ∨ rEqD X.K x y H Q
abbrev rNe' (X : Cx) : R2 := fun x y H Q => rNe x y H Q ∨ rNeD X.K x y H Q
theorem op_eq' (hu : X.A.units + 64 < cLine) : OpR X (compareOp .Eq) (rEq' X) := op_eq.or (op_eqD hu)
theorem op_ne' (hu : X.A.units + 64 < cLine) : OpR X (compareOp .NotEq) (rNe' X) := op_ne.or (op_neD hu)
theorem dec_S (a b : List Nat) : decide (V.str (mkS a) = V.str (mkS b)) = (a == b) := by rw [dec_str, mkS_beq]
theorem eqF_gen {x y d : D} (e : eqF x y = some d) : (∃ i j, x = .int i ∧ y = .int j ∧ d = .bl (i == j)) ∨ (∃ i j, x = .str i ∧ y = .str j ∧ d = .bl (i == j)) ∨ (∃ i j, x = .bl i ∧ y = .bl j ∧ d = .bl (i == j)) ∨ (okD 64 x = true ∧ okD 64 y = true ∧ d = .bl (eqvD x y)) := by
  unfold eqF at e
  split at e
  · cases e; exact .inl ⟨_, _, rfl, rfl, rfl⟩
  · cases e; exact .inr (.inl ⟨_, _, rfl, rfl, rfl⟩)
  · cases e; exact .inr (.inr (.inl ⟨_, _, rfl, rfl, rfl⟩))
  · split at e
    · rename_i h; cases e; exact .inr (.inr (.inr ⟨h.1, h.2, rfl⟩))
    · cases e
theorem neF_gen {x y d : D} (e : neF x y = some d) : (∃ i j, x = .int i ∧ y = .int j ∧ d = .bl (!(i == j))) ∨ (∃ i j, x = .str i ∧ y = .str j ∧ d = .bl (!(i == j))) ∨ (∃ i j, x = .bl i ∧ y = .bl j ∧ d = .bl (!(i == j))) ∨ (okD 64 x = true ∧ okD 64 y = true ∧ d = .bl (!eqvD x y)) := by
  unfold neF at e
  split at e
  · cases e; exact .inl ⟨_, _, rfl, rfl, rfl⟩
  · cases e; exact .inr (.inl ⟨_, _, rfl, rfl, rfl⟩)
  · cases e; exact .inr (.inr (.inl ⟨_, _, rfl, rfl, rfl⟩))
  · split at e
    · rename_i h; cases e; exact .inr (.inr (.inr ⟨h.1, h.2, rfl⟩))
    · cases e
theorem shaped_of {x : D} (h : okD 64 x = true) : SeqAt.shaped (toP x) = true := by
  obtain ⟨h1, h2⟩ := okD_lay h
  unfold SeqAt.shaped
  rw [h1, decide_eq_true h2]; rfl
theorem opF_eq : OpF X G (rEq' X) eqF := by
  intro Z H x y v u fx fy d Q zh rx ry e q
  rcases eqF_gen e with ⟨i, j, rfl, rfl, rfl⟩ | ⟨i, j, rfl, rfl, rfl⟩ | ⟨i, j, rfl, rfl, rfl⟩ | ⟨h1, h2, rfl⟩
  · obtain ⟨rfl, rfl⟩ := rx; obtain ⟨rfl, rfl⟩ := ry
    exact .inl ⟨rfl, by rw [dec_int]; exact q_bl q⟩
  · obtain ⟨rfl, rfl⟩ := rx; obtain ⟨rfl, rfl⟩ := ry
    exact .inl ⟨rfl, by rw [dec_S]; exact q_bl q⟩
  · obtain ⟨rfl, rfl⟩ := rx; obtain ⟨rfl, rfl⟩ := ry
    exact .inl ⟨rfl, by rw [dec_bl]; exact q_bl q⟩
  · exact .inr ⟨_, _, toP_dp zh h1 rx, toP_dp zh h2 ry, shaped_of h1, shaped_of h2, by rw [eqv_toP h1 h2]; exact q_bl q⟩
theorem opF_ne : OpF X G (rNe' X) neF := by
  intro Z H x y v u fx fy d Q zh rx ry e q
  rcases neF_gen e with ⟨i, j, rfl, rfl, rfl⟩ | ⟨i, j, rfl, rfl, rfl⟩ | ⟨i, j, rfl, rfl, rfl⟩ | ⟨h1, h2, rfl⟩
  · obtain ⟨rfl, rfl⟩ := rx; obtain ⟨rfl, rfl⟩ := ry
    exact .inl ⟨rfl, by rw [dec_int]; exact q_bl q⟩
  · obtain ⟨rfl, rfl⟩ := rx; obtain ⟨rfl, rfl⟩ := ry
    exact .inl ⟨rfl, by rw [dec_S]; exact q_bl q⟩
  · obtain ⟨rfl, rfl⟩ := rx; obtain ⟨rfl, rfl⟩ := ry
    exact .inl ⟨rfl, by rw [dec_bl]; exact q_bl q⟩
  · exact .inr ⟨_, _, toP_dp zh h1 rx, toP_dp zh h2 ry, shaped_of h1, shaped_of h2, by rw [eqv_toP h1 h2]; exact q_bl q⟩
/-! ### is -/
def isF : F2
  | .bl a, .bl b => some (.bl (a == b))
  | .non, .non => some (.bl true)
  | _, .non => some (.bl false)
  | _, _ => none
def isnF : F2
  | .bl a, .bl b => some (.bl (!(a == b)))
  | .non, .non => some (.bl false)
  | _, .non => some (.bl true)
  | _, _ => none
abbrev rIs' : R2 := fun x y H Q => rIsB x y H Q ∨ (y = .non ∧ Q (.bl (decide (x = .non))) H)
abbrev rIsn' : R2 := fun x y H Q => rNotB x y H Q ∨ (y = .non ∧ Q (.bl (!decide (x = .non))) H)
theorem op_is' : OpR X (compareOp .Is) rIs' := op_isBl.or op_isN
theorem op_isn' : OpR X (compareOp .IsNot) rIsn' := op_notBl.or op_notN
def isNon : D → Bool
  | .non => true
  | _ => false
theorem Rp.nonN : ∀ {d : D} {v : V} {fp : List Addr}, Rp K Z H d v fp → (decide (v = .non)) = isNon d
  | .non, _, _, r => by obtain ⟨rfl, _⟩ := r; rfl
  | .bl _, _, _, r => by obtain ⟨rfl, _⟩ := r; rfl
  | .int _, _, _, r => by obtain ⟨rfl, _⟩ := r; rfl
  | .str _, _, _, r => by obtain ⟨rfl, _⟩ := r; rfl
  | .glb _, _, _, r => by obtain ⟨rfl, _⟩ := r; rfl
  | .tup _, _, _, r => by obtain ⟨a, vs, rfl, _⟩ := r; rfl
  | .nd true _ _, _, _, r => by obtain ⟨a, vs, own, fp', rfl, _⟩ := r; rfl
  | .nd false _ _, _, _, r => by obtain ⟨a, vs, rfl, _⟩ := r; rfl
theorem beq_dec (a b : Bool) : decide (a = b) = (a == b) := by cases a <;> cases b <;> rfl
theorem opF_is : OpF X G rIs' isF := by
  intro Z H x y v u fx fy d Q zh rx ry e q
  unfold isF at e
  split at e
  · obtain ⟨rfl, rfl⟩ := rx; obtain ⟨rfl, rfl⟩ := ry
    cases e
    exact .inl ⟨_, _, rfl, rfl, by rw [beq_dec]; exact q_bl q⟩
  · obtain ⟨rfl, rfl⟩ := rx; obtain ⟨rfl, rfl⟩ := ry
    cases e
    exact .inr ⟨rfl, q_bl q⟩
  · rename_i hn
    obtain ⟨rfl, rfl⟩ := ry
    refine .inr ⟨rfl, ?_⟩
    cases e
    rw [rx.nonN]
    have : isNon x = false := by
      cases x <;> first | rfl | exact (hn rfl).elim
    rw [this]
    exact q_bl q
  · cases e
theorem opF_isn : OpF X G rIsn' isnF := by
  intro Z H x y v u fx fy d Q zh rx ry e q
  unfold isnF at e
  split at e
  · obtain ⟨rfl, rfl⟩ := rx; obtain ⟨rfl, rfl⟩ := ry
    cases e
    exact .inl ⟨_, _, rfl, rfl, by rw [beq_dec]; exact q_bl q⟩
  · obtain ⟨rfl, rfl⟩ := rx; obtain ⟨rfl, rfl⟩ := ry
    cases e
    exact .inr ⟨rfl, q_bl q⟩
  · rename_i hn
    obtain ⟨rfl, rfl⟩ := ry
    refine .inr ⟨rfl, ?_⟩
    cases e
    rw [rx.nonN]
    have : isNon x = false := by
      cases x <;> first | rfl | exact (hn rfl).elim
    rw [this]
    exact q_bl q
  · cases e
/-! ### in, of signs in texts, of flat things in lists and tuples -/
def inDs (x : D) (ds : List D) : Bool := ds.any fun y => eqvD y x
def inF : F2
  | .str [c], .str l => some (.bl (decide (c ∈ l)))
  | x, .tup ds => if flatD x = true ∧ ds.all flatD = true then some (.bl (inDs x ds)) else none
  | x, .nd _ .lst ds => if flatD x = true ∧ ds.all flatD = true then some (.bl (inDs x ds)) else none
  | _, _ => none
def ninF : F2
  | .str [c], .str l => some (.bl (!decide (c ∈ l)))
  | x, .tup ds => if flatD x = true ∧ ds.all flatD = true then some (.bl (!inDs x ds)) else none
  | x, .nd _ .lst ds => if flatD x = true ∧ ds.all flatD = true then some (.bl (!inDs x ds)) else none
  | _, _ => none
abbrev rIn' (X : Cx) : R2 := fun x y H Q => (∃ (c : Nat) (z : Str), x = .str ⟨#[c]⟩ ∧ y = .str z ∧ Q (.bl (decide (c ∈ z.cps.toList))) H) ∨ rIn X.K false x y H Q
abbrev rNin' (X : Cx) : R2 := fun x y H Q => (∃ (c : Nat) (z : Str), x = .str ⟨#[c]⟩ ∧ y = .str z ∧ Q (.bl (!decide (c ∈ z.cps.toList))) H) ∨ rIn X.K true x y H Q
theorem op_in' : OpR X (compareOp .In) (rIn' X) := op_in_sign.or op_in_seq
theorem op_nin' : OpR X (compareOp .NotIn) (rNin' X) := op_notIn_sign.or op_notIn_seq
theorem flat_shape {d : D} (h : flatD d = true) : d = .non ∨ (∃ b, d = .bl b) ∨ (∃ i, d = .int i) ∨ (∃ l, d = .str l) := by
  cases d with
  | non => exact .inl rfl
  | bl b => exact .inr (.inl ⟨b, rfl⟩)
  | int i => exact .inr (.inr (.inl ⟨i, rfl⟩))
  | str l => exact .inr (.inr (.inr ⟨l, rfl⟩))
  | _ => cases h
theorem flat_V {d : D} {v : V} {fp : List Addr} (r : Rp K Z H d v fp) (h : flatD d = true) : flatV v = true := by
  rcases flat_shape h with rfl | ⟨b, rfl⟩ | ⟨b, rfl⟩ | ⟨b, rfl⟩ <;> (obtain ⟨rfl, _⟩ := r; rfl)
theorem eqV_D {x y : D} {v u : V} {fx fy : List Addr} (rx : Rp K Z H x v fx) (ry : Rp K Z H y u fy) (hx : flatD x = true) (hy : flatD y = true) : eqV v u = eqvD x y := by
  rcases flat_shape hx with rfl | ⟨b, rfl⟩ | ⟨b, rfl⟩ | ⟨b, rfl⟩ <;> rcases flat_shape hy with rfl | ⟨c, rfl⟩ | ⟨c, rfl⟩ | ⟨c, rfl⟩ <;>
    (obtain ⟨rfl, _⟩ := rx; obtain ⟨rfl, _⟩ := ry; first | rfl | exact mkS_beq _ _)
theorem flat_Vs : ∀ {ds : List D} {vs : List V} {fp : List Addr}, Rps K Z H ds vs fp → ds.all flatD = true → vs.all flatV = true
  | [], _, _, r, _ => by obtain ⟨rfl, _⟩ := r; rfl
  | d :: ds, _, _, r, h => by
    obtain ⟨v, vs', f1, f2, rfl, rfl, r1, r2⟩ := r
    rw [List.all_cons, Bool.and_eq_true] at h ⊢
    exact ⟨flat_V r1 h.1, flat_Vs r2 h.2⟩
theorem inV_D {x : D} {v : V} {fx : List Addr} (rx : Rp K Z H x v fx) (hx : flatD x = true) : ∀ {ds : List D} {vs : List V} {fp : List Addr}, Rps K Z H ds vs fp → ds.all flatD = true → inV v vs = inDs x ds
  | [], _, _, r, _ => by obtain ⟨rfl, _⟩ := r; rfl
  | d :: ds, _, _, r, h => by
    obtain ⟨u, vs', f1, f2, rfl, rfl, r1, r2⟩ := r
    rw [List.all_cons, Bool.and_eq_true] at h
    show (eqV u v || inV v vs') = (eqvD d x || inDs x ds)
    rw [eqV_D r1 rx h.1 hx, inV_D rx hx r2 h.2]
theorem in_seq {x y : D} {v u : V} {fx fy : List Addr} {ds : List D} {n : Bool} {Q : VK} (zh : Same Z H) (rx : Rp K Z H x v fx) (ry : Rp K Z H y u fy) (hy : y = .tup ds ∨ ∃ m, y = .lst m ds) (hx : flatD x = true) (hd : ds.all flatD = true)
    (q : Q (.bl (if n then !inDs x ds else inDs x ds)) H) : rIn K.K n v u H Q := by
  rcases hy with rfl | ⟨m, rfl⟩
  · obtain ⟨a, vs, rfl, s, r⟩ := ry
    exact ⟨a, vs, rfl, .inr (sqT_mono s zh), flat_V rx hx, flat_Vs r hd, by rw [inV_D rx hx r hd]; exact q⟩
  · cases m with
    | true =>
      obtain ⟨a, vs, own, fp', rfl, s, r, _⟩ := ry
      exact ⟨a, vs, rfl, .inl (SqL.of s.1), flat_V rx hx, flat_Vs r hd, by rw [inV_D rx hx r hd]; exact q⟩
    | false =>
      obtain ⟨a, vs, rfl, ⟨own, s⟩, r, _⟩ := ry
      exact ⟨a, vs, rfl, .inl (SqL.of (zh _ _ s.1)), flat_V rx hx, flat_Vs r hd, by rw [inV_D rx hx r hd]; exact q⟩
theorem opF_in : OpF X G (rIn' X) inF := by
  intro Z H x y v u fx fy d Q zh rx ry e q
  unfold inF at e
  split at e
  · rename_i c l
    obtain ⟨rfl, rfl⟩ := rx; obtain ⟨rfl, rfl⟩ := ry
    cases e
    exact .inl ⟨c, _, rfl, rfl, by
      show Q (.bl (decide (c ∈ l.toArray.toList))) H
      rw [List.toList_toArray]; exact q_bl q⟩
  · split at e
    · rename_i h; cases e; exact .inr (in_seq (K := ⟨X.K, G⟩) zh rx ry (.inl rfl) h.1 h.2 (q_bl q))
    · cases e
  · split at e
    · rename_i h; cases e; exact .inr (in_seq (K := ⟨X.K, G⟩) zh rx ry (.inr ⟨_, rfl⟩) h.1 h.2 (q_bl q))
    · cases e
  · cases e
theorem opF_nin : OpF X G (rNin' X) ninF := by
  intro Z H x y v u fx fy d Q zh rx ry e q
  unfold ninF at e
  split at e
  · rename_i c l
    obtain ⟨rfl, rfl⟩ := rx; obtain ⟨rfl, rfl⟩ := ry
    cases e
    exact .inl ⟨c, _, rfl, rfl, by
      show Q (.bl (!decide (c ∈ l.toArray.toList))) H
      rw [List.toList_toArray]; exact q_bl q⟩
  · split at e
    · rename_i h; cases e; exact .inr (in_seq (K := ⟨X.K, G⟩) (n := true) zh rx ry (.inl rfl) h.1 h.2 (q_bl q))
    · cases e
  · split at e
    · rename_i h; cases e; exact .inr (in_seq (K := ⟨X.K, G⟩) (n := true) zh rx ry (.inr ⟨_, rfl⟩) h.1 h.2 (q_bl q))
    · cases e
  · cases e
end
end Tw

set_option maxRecDepth 100000
namespace Tw
open PySem PySem.Spec L2

section
variable {X : Cx} {G : Nat → Addr} {W : WX} {e a b c tg iter : Expr} {es : List Expr} {pos p : Pos} {K : Ct} {Z H : Hp}
/-! ### slices -/
def sIx (n d : Nat) : Option Int → Nat
  | none => d
  | some v => if v < 0 then (v + (n : Int)).toNat else min v.toNat n
def cut {α : Type} (xs : List α) (lo hi : Option Int) : List α := (xs.drop (sIx xs.length 0 lo)).take (sIx xs.length xs.length hi - sIx xs.length 0 lo)
theorem sIx_eq (n d : Nat) (o : Option Int) : HT.sIx n d o = sIx n d o := by cases o <;> rfl
theorem cutV_eq (xs : List V) (lo hi : Option Int) : cutV xs lo hi = cut xs lo hi := by unfold cutV cut; rw [sIx_eq, sIx_eq]
theorem cutS_eq (l : List Nat) (lo hi : Option Int) : cutS (mkS l) lo hi = mkS (cut l lo hi) := by
  unfold cutS cut
  rw [sIx_eq, sIx_eq, mkS_len]
  show Str.mk _ = mkS _
  unfold mkS
  simp
theorem Rps.drop : ∀ {ds : List D} {vs : List V} (n : Nat), Rps K Z H ds vs [] → Rps K Z H (ds.drop n) (vs.drop n) []
  | ds, vs, 0, r => r
  | [], vs, n + 1, r => by obtain ⟨rfl, _⟩ := r; exact ⟨rfl, rfl⟩
  | d :: ds, vs, n + 1, r => by
    obtain ⟨v, vs', f1, f2, rfl, e, r1, r2⟩ := r
    obtain ⟨rfl, rfl⟩ := List.append_eq_nil_iff.mp e.symm
    exact Rps.drop n r2
theorem Rps.take : ∀ {ds : List D} {vs : List V} (n : Nat), Rps K Z H ds vs [] → Rps K Z H (ds.take n) (vs.take n) []
  | ds, vs, 0, r => ⟨rfl, rfl⟩
  | [], vs, n + 1, r => by obtain ⟨rfl, _⟩ := r; exact ⟨rfl, rfl⟩
  | d :: ds, vs, n + 1, r => by
    obtain ⟨v, vs', f1, f2, rfl, e, r1, r2⟩ := r
    obtain ⟨rfl, rfl⟩ := List.append_eq_nil_iff.mp e.symm
    exact ⟨v, vs'.take n, [], [], rfl, rfl, r1, Rps.take n r2⟩
theorem Rps.cut {ds : List D} {vs : List V} (lo hi : Option Int) (r : Rps K Z H ds vs []) : Rps K Z H (cut ds lo hi) (cut vs lo hi) [] := by
  unfold Tw.cut
  rw [← r.length]
  exact Rps.take _ (Rps.drop _ r)
/-- a slice of a list or a text, or of a tuple (not the whole of it) -/
def slF : D → Option Int → Option Int → Option D
  | .str l, lo, hi => if l.length ≤ lim then some (.str (cut l lo hi)) else none
  | .nd false .ro ds, lo, hi => if areFrz ds = true then some (.lst true (cut ds lo hi)) else none
  | .nd _ .lst ds, lo, hi => if areFrz ds = true then some (.lst true (cut ds lo hi)) else none
  | .tup ds, lo, hi => if areFrz ds = true then some (.tup (cut ds lo hi)) else none
  | _, _, _ => none
abbrev rSl' (X : Cx) : V → Option Int → Option Int → Hp → VK → Prop := fun x lo hi H Q => rSlL X.K x lo hi H Q ∨ rSlS x lo hi H Q ∨ rSlA X.K x lo hi H Q
theorem sl_any : SlR X (rSl' X) := sl_list.or (sl_str.or sl_tupA)
theorem slF_ok {Z H : Hp} {x d : D} {v : V} {fx : List Addr} {lo hi : Option Int} {Q : VK} (zh : Same Z H) (rx : Rp ⟨X.K, G⟩ Z H x v fx) (e : slF x lo hi = some d) (q : ∀ w H' Z', Al ⟨X.K, G⟩ Z H Z' H' d w → Q w H') : rSl' X v lo hi H Q := by
  unfold slF at e
  split at e
  · obtain ⟨rfl, rfl⟩ := rx
    split at e
    · rename_i h; cases e
      exact .inr (.inl ⟨_, rfl, by rw [mkS_len]; exact lim_of h, by rw [cutS_eq]; exact q_str q⟩)
    · cases e
  · obtain ⟨a, vs, rfl, s, r, _⟩ := rx
    split at e
    · cases e
      exact .inl ⟨a, vs, rfl, zh.seq s, fun p hp => by rw [cutV_eq]; exact q _ _ _ (Al.newL (r.cut lo hi) hp)⟩
    · cases e
  · split at e
    · rename_i h; cases e
      obtain ⟨a, vs, rfl, ha, r⟩ := frz_lst zh rx h
      exact .inl ⟨a, vs, rfl, SqL.of ha, fun p hp => by rw [cutV_eq]; exact q _ _ _ (Al.newL (r.cut lo hi) hp)⟩
    · cases e
  · obtain ⟨a, vs, rfl, s, r⟩ := rx
    split at e
    · rename_i h; cases e
      have := r.isFrz h; subst this
      refine .inr (.inr ⟨a, vs, rfl, sqT_mono s zh, fun hw => ?_, fun _ p hp => by rw [cutV_eq]; exact q _ _ _ (Al.newT zh (r.cut lo hi) hp)⟩)
      rw [sIx_eq, sIx_eq, ← r.length] at hw
      have ec : ∀ ds : List D, sIx ds.length 0 lo = 0 → sIx ds.length ds.length hi = ds.length → cut ds lo hi = ds := fun ds h1 h2 => by
        unfold cut
        rw [h1, h2, List.drop_zero, Nat.sub_zero, List.take_length]
      rw [ec _ hw.1 hw.2] at q
      exact q _ _ _ ⟨Same.refl _, Same.refl _, fun L S => S.add ⟨a, vs, rfl, s, r⟩⟩
    · cases e
  · cases e
/-- a bound that may be left out -/
structure Ox (X : Cx) (G : Nat → Addr) (W : WX) (b : Bool) (e : Option Expr) (f : Env → R Env (Option Int × Env)) : Prop where
  q : b = true → ∀ ρ d ρ', f ρ = .ok (d, ρ') → ρ' = ρ
  run : ∀ σ H Z ρ T, Sa ⟨X.K, G⟩ Z H σ ρ T → ∀ Q : Option Int → Hp → Prop, (match f ρ with
    | .ok (o, ρ') => ∀ H' Z', Same Z Z' → (b = true → Same H H') → Sa ⟨X.K, G⟩ Z' H' σ ρ' T → Q o H'
    | .exc c fs ρ' => XPost ⟨X.K, G⟩ Z σ T W c fs ρ'
    | .stuck => False) →
    ∀ pins s, Inv X pins σ H s → wpAny (model X.prog X.w) X.A (evalPart e X.env) (fun u s' => ∃ o H', Inv X pins σ H' s' ∧ IsPart u o ∧ Q o H') X.xe s
def oNone : Env → R Env (Option Int × Env) := fun ρ => .ok (none, ρ)
def oSome (f : Env → R Env (D × Env)) : Env → R Env (Option Int × Env) := fun ρ => (f ρ).bind fun q => match q.1 with
  | .int i => .ok (some i, q.2)
  | _ => .stuck
@[simp] theorem oNone_eq (ρ : Env) : oNone ρ = .ok (none, ρ) := rfl
@[simp] theorem oSome_eq (f : Env → R Env (D × Env)) (ρ : Env) : oSome f ρ = (f ρ).bind fun q => match q.1 with
  | .int i => .ok (some i, q.2)
  | _ => .stuck := rfl
theorem ox_none : Ox X G W true none oNone := ⟨fun _ ρ d ρ' h => by cases h; rfl, fun σ H Z ρ T S Q P pins s I => po_none.run pins s σ H Q I (P H Z (Same.refl _) (fun _ => Same.refl _) S)⟩
theorem ox_some {b1 : Bool} {f : Env → R Env (D × Env)} (h : Ev X G W b1 e f) : Ox X G W b1 (some e) (oSome f) := by
  refine ⟨bindq h.q fun p d ρ' e => ?_, fun σ H Z ρ T S Q P pins s I => (po_some peR).run pins s σ H Q I (h.run σ H Z ρ T _ S ?_)⟩
  · split at e
    · cases e; rfl
    · cases e
  · unfold oSome at P
    cases e1 : f ρ with
    | stuck => rw [e1] at P; exact P
    | exc c fs ρ' => rw [e1] at P; exact P
    | ok r =>
      obtain ⟨d, ρ1⟩ := r
      rw [e1] at P
      simp only [R.ok_bind] at P
      intro v H1 Z1 z1 h1 S1
      cases d with
      | int k =>
        obtain ⟨fp, rv, _⟩ := S1.rp
        exact ⟨k, rv, P H1 Z1 z1 h1 S1.drop⟩
      | _ => exact P.elim
theorem poR {o : Option Expr} : PO X o (fun σ H Q => ∀ pins s, Inv X pins σ H s → wpAny (model X.prog X.w) X.A (evalPart o X.env) (fun u s' => ∃ o H', Inv X pins σ H' s' ∧ IsPart u o ∧ Q o H') X.xe s) := ⟨fun pins s σ H Q I h => h pins s I⟩
def dSl (f : Env → R Env (D × Env)) (g h : Env → R Env (Option Int × Env)) : Env → R Env (D × Env) := fun ρ => (f ρ).bind fun x => (g x.2).bind fun l => (h l.2).bind fun u => (oR (slF x.1 l.1 u.1)).bind fun d => .ok (d, u.2)
@[simp] theorem dSl_eq (f : Env → R Env (D × Env)) (g h : Env → R Env (Option Int × Env)) (ρ : Env) : dSl f g h ρ = (f ρ).bind fun x => (g x.2).bind fun l => (h l.2).bind fun u => (oR (slF x.1 l.1 u.1)).bind fun d => .ok (d, u.2) := rfl
theorem ev_sl {lo hi : Option Expr} {p2 : Pos} {b1 b2 b3 : Bool} {f : Env → R Env (D × Env)} {g h : Env → R Env (Option Int × Env)} (ha : Ev X G W b1 a f) (hl : Ox X G W b2 lo g) (hu : Ox X G W b3 hi h) :
    Ev X G W (b1 && (b2 && b3)) (.Subscript a (.Slice lo hi none p2) pos) (dSl f g h) := by
  refine ⟨fun hq => ?_, fun σ H Z ρ T Q S P => toE (pe_slice sl_any peR poR poR) (ha.run σ H Z ρ T _ S ?_)⟩
  · simp only [Bool.and_eq_true] at hq
    refine fun ρ d ρ' e => bindq (b1 := b1) ha.q (fun x d ρ' e => ?_) hq.1 ρ d ρ' e
    refine bindq (b1 := b2) hl.q (fun l d ρ' e => ?_) hq.2.1 x.2 d ρ' e
    refine bindq (b1 := b3) hu.q (fun u d ρ' e => ?_) hq.2.2 l.2 d ρ' e
    cases e1 : slF x.1 l.1 u.1 with
    | none => rw [e1] at e; cases e
    | some y => rw [e1] at e; cases e; rfl
  · unfold dSl at P
    cases e1 : f ρ with
    | stuck => rw [e1] at P; exact P
    | exc c fs ρ' => rw [e1] at P; exact P
    | ok x =>
      obtain ⟨x, ρ1⟩ := x
      rw [e1] at P
      simp only [R.ok_bind] at P
      intro v H1 Z1 z1 h1 S1
      refine hl.run σ H1 Z1 ρ1 _ S1 _ ?_
      cases e2 : g ρ1 with
      | stuck => rw [e2] at P; exact P
      | exc c fs ρ' => rw [e2] at P; exact XPost.drop (XPost.of P z1)
      | ok l =>
        obtain ⟨l, ρ2⟩ := l
        rw [e2] at P
        simp only [R.ok_bind] at P
        intro H2 Z2 z2 h2 S2
        refine hu.run σ H2 Z2 ρ2 _ S2 _ ?_
        cases e3 : h ρ2 with
        | stuck => rw [e3] at P; exact P
        | exc c fs ρ' => rw [e3] at P; exact XPost.drop (XPost.of P (z1.trans z2))
        | ok u =>
          obtain ⟨u, ρ3⟩ := u
          rw [e3] at P
          simp only [R.ok_bind] at P
          intro H3 Z3 z3 h3 S3
          cases e4 : slF x l u with
          | none => rw [e4] at P; exact P.elim
          | some d =>
            rw [e4] at P
            obtain ⟨fx, rx⟩ := S3.rp
            refine slF_ok S3.si.zh rx e4 fun w H' Z' al => P w H' Z' (((z1.trans z2).trans z3).trans al.z) (fun hb => ?_) (Al.sa al S3.drop)
            simp only [Bool.and_eq_true] at hb
            exact (((h1 hb.1).trans (h2 hb.2.1)).trans (h3 hb.2.2)).trans al.h
/-- a slice of what is looked at -/
def gSl (f : Env → Option D) (g h : Env → R Env (Option Int × Env)) : Env → R Env (D × Env) := fun ρ => (oR (f ρ)).bind fun x => (g ρ).bind fun l => (h ρ).bind fun u => (oR (slF x l.1 u.1)).bind fun d => .ok (d, ρ)
@[simp] theorem gSl_eq (f : Env → Option D) (g h : Env → R Env (Option Int × Env)) (ρ : Env) : gSl f g h ρ = (oR (f ρ)).bind fun x => (g ρ).bind fun l => (h ρ).bind fun u => (oR (slF x l.1 u.1)).bind fun d => .ok (d, ρ) := rfl
theorem ev_slG {lo hi : Option Expr} {p2 : Pos} {f : Env → Option D} {g h : Env → R Env (Option Int × Env)} (ha : Bo X G a f) (hl : Ox X G W true lo g) (hu : Ox X G W true hi h) :
    Ev X G W true (.Subscript a (.Slice lo hi none p2) pos) (gSl f g h) := by
  refine ⟨fun _ ρ d ρ' e => ?_, fun σ H Z ρ T Q S P => toE (pe_slice sl_any peR poR poR) ?_⟩
  · unfold gSl at e
    cases e1 : f ρ with
    | none => rw [e1] at e; cases e
    | some x =>
      rw [e1] at e
      simp only [oR_some, R.ok_bind] at e
      cases e2 : g ρ with
      | stuck => rw [e2] at e; cases e
      | exc c fs ρ' => rw [e2] at e; cases e
      | ok l =>
        rw [e2] at e
        simp only [R.ok_bind] at e
        cases e3 : h ρ with
        | stuck => rw [e3] at e; cases e
        | exc c fs ρ' => rw [e3] at e; cases e
        | ok u =>
          rw [e3] at e
          simp only [R.ok_bind] at e
          cases e4 : slF x l.1 u.1 with
          | none => rw [e4] at e; cases e
          | some y => rw [e4] at e; cases e; rfl
  · unfold gSl at P
    cases e1 : f ρ with
    | none => rw [e1] at P; exact P.elim
    | some x =>
      rw [e1] at P
      simp only [oR_some, R.ok_bind] at P
      refine ha.run σ H Z ρ T _ x S e1 fun v H1 Z1 fx z1 h1 S1 rx => ?_
      refine hl.run σ H1 Z1 ρ _ S1 _ ?_
      cases e2 : g ρ with
      | stuck => rw [e2] at P; exact P
      | exc c fs ρ' => rw [e2] at P; exact XPost.of P z1
      | ok l =>
        obtain ⟨l, ρ2⟩ := l
        rw [e2] at P
        simp only [R.ok_bind] at P
        intro H2 Z2 z2 h2 S2
        rw [hl.q rfl _ _ _ e2] at S2
        refine hu.run σ H2 Z2 ρ _ S2 _ ?_
        cases e3 : h ρ with
        | stuck => rw [e3] at P; exact P
        | exc c fs ρ' => rw [e3] at P; exact XPost.of P (z1.trans z2)
        | ok u =>
          obtain ⟨u, ρ3⟩ := u
          rw [e3] at P
          simp only [R.ok_bind] at P
          intro H3 Z3 z3 h3 S3
          rw [hu.q rfl _ _ _ e3] at S3
          cases e4 : slF x l u with
          | none => rw [e4] at P; exact P.elim
          | some d =>
            rw [e4] at P
            have h13 := (h2 rfl).trans (h3 rfl)
            exact slF_ok S3.si.zh (rx.keep (z2.trans z3) fun b _ o e => h13 b o e) e4 fun w H' Z' al => P w H' Z' (((z1.trans z2).trans z3).trans al.z) (fun hb => (h1.trans h13).trans al.h) (Al.sa al S3)
/-! ### what is walked -/
def items : D → Option (List D)
  | .tup ds => some ds
  | .nd false .lst ds => some ds
  | .nd false .ro ds => some ds
  | .str l => some (l.map fun c => .str [c])
  | _ => none
theorem Rps.frz_all {ds : List D} {vs : List V} : Rps K Z H ds vs [] → ∀ d ∈ ds, Tw.isFrz d = true := fun r => by
  have h := Rps.frz_of r
  clear r
  induction ds with
  | nil => intro d hd; cases hd
  | cons x ds ih =>
    unfold areFrz at h
    rw [Bool.and_eq_true] at h
    intro d hd
    rcases List.mem_cons.mp hd with rfl | hd
    · exact h.1
    · exact ih h.2 d hd
theorem Rps.at0 {ds : List D} {vs : List V} {j : Nat} {d : D} (r : Rps K Z H ds vs []) (h : ds[j]? = some d) : ∃ v, vs[j]? = some v ∧ Rp K Z H d v [] := by
  obtain ⟨v, f, e, r'⟩ := r.at h
  have := r'.isFrz (r.frz_all d (List.mem_of_getElem? h))
  subst this
  exact ⟨v, e, r'⟩
theorem Al.same {d : D} {v : V} (r : Rp K Z H d v []) : Al K Z H Z H d v := ⟨Same.refl _, Same.refl _, fun L s => s.add r⟩
theorem Rps.mono {Z' H' : Hp} {ds : List D} {vs : List V} (r : Rps K Z H ds vs []) (z : Same Z Z') : Rps K Z' H' ds vs [] := r.keep z fun b hb => by simp at hb
theorem itr_list {a : Addr} {ds : List D} {vs : List V} (s : SqL K.K Z a vs) (r : Rps K Z H ds vs []) : Itr K Z (Itl K.K a) ds where
  frz := r.frz_all
  stop := fun Z' H' z zh => ⟨vs, (z.trans zh).seq s, by rw [r.length]; exact Nat.le_refl _⟩
  go := fun i hi Z' H' z zh => ⟨vs, vs[i]'(by rw [← r.length]; exact hi), (z.trans zh).seq s, List.getElem?_eq_getElem _⟩
  yld := fun i d e Z' H' x H2 z zh hy => by
    obtain ⟨rfl, hx⟩ := hy
    obtain ⟨v, ev, rv⟩ := r.at0 e
    have := hx vs ((z.trans zh).seq s)
    rw [ev] at this; cases this
    exact ⟨Z', Al.same (rv.keep z fun b hb => by simp at hb)⟩
theorem itr_tup {a : Addr} {ds : List D} {vs : List V} (s : SqT K.K Z a vs) (r : Rps K Z H ds vs []) : Itr K Z (Itt K.K a) ds where
  frz := r.frz_all
  stop := fun Z' H' z zh => ⟨vs, sqT_mono s (z.trans zh), by rw [r.length]; exact Nat.le_refl _⟩
  go := fun i hi Z' H' z zh => ⟨vs, vs[i]'(by rw [← r.length]; exact hi), sqT_mono s (z.trans zh), List.getElem?_eq_getElem _⟩
  yld := fun i d e Z' H' x H2 z zh hy => by
    obtain ⟨rfl, hx⟩ := hy
    obtain ⟨v, ev, rv⟩ := r.at0 e
    have := hx vs (sqT_mono s (z.trans zh))
    rw [ev] at this; cases this
    exact ⟨Z', Al.same (rv.keep z fun b hb => by simp at hb)⟩
theorem itr_str {l : List Nat} : Itr K Z (Its (mkS l)) (l.map fun c => .str [c]) where
  frz := fun d hd => by
    obtain ⟨c, _, rfl⟩ := List.mem_map.mp hd
    rfl
  stop := fun Z' H' z zh => by
    show l.toArray.size ≤ _
    simp
  go := fun i hi Z' H' z zh => by
    show i < l.toArray.size
    simpa using hi
  yld := fun i d e Z' H' x H2 z zh hy => by
    obtain ⟨rfl, c, hc, rfl⟩ := hy
    rw [List.getElem?_map] at e
    have hc' : l[i]? = some c := by
      have : l.toArray[i]? = some c := hc
      simpa using this
    rw [hc'] at e; cases e
    exact ⟨Z', Al.same ⟨rfl, rfl⟩⟩
theorem itr_rng {i : Int} {n : Nat} : Itr K Z (L2.Itr i n) ((List.range n).map fun k => .int (i + (k : Nat))) where
  frz := fun d hd => by
    obtain ⟨c, _, rfl⟩ := List.mem_map.mp hd
    rfl
  stop := fun Z' H' z zh => by
    show n ≤ _
    simp
  go := fun i hi Z' H' z zh => by
    show i < n
    simpa using hi
  yld := fun k d e Z' H' x H2 z zh hy => by
    obtain ⟨rfl, rfl⟩ := hy
    rw [List.getElem?_map] at e
    cases e2 : (List.range n)[k]? with
    | none => rw [e2] at e; cases e
    | some m =>
      rw [e2] at e; cases e
      have : m = k := by
        obtain ⟨h1, h2⟩ := List.getElem?_eq_some_iff.mp e2
        rw [List.getElem_range] at h2
        exact h2.symm
      subst this
      exact ⟨Z', Al.same ⟨rfl, rfl⟩⟩

def iSeq (f : Env → R Env (D × Env)) : Env → R Env (List D × Env) := fun ρ => (f ρ).bind fun q => (oR (items (frz q.1))).bind fun ds => .ok (ds, q.2)
@[simp] theorem iSeq_eq (f : Env → R Env (D × Env)) (ρ : Env) : iSeq f ρ = (f ρ).bind fun q => (oR (items (frz q.1))).bind fun ds => .ok (ds, q.2) := rfl
theorem ix_seq' {b1 : Bool} {f : Env → R Env (D × Env)} (h : Ev X G W b1 iter f) : Ix X G W b1 tg iter (iSeq f) := by
  refine ⟨bindq h.q fun p d ρ' e => ?_, fun σ H Z ρ T Q S P => ?_⟩
  · cases e1 : items (frz p.1) with
    | none => rw [e1] at e; cases e
    | some y => rw [e1] at e; cases e; rfl
  unfold iSeq at P
  cases e1 : f ρ with
  | stuck => rw [e1] at P; exact P.elim
  | exc c fs ρ' => rw [e1] at P; exact toI (pi_list peR) (h.run σ H Z ρ T _ S (by rw [e1]; exact P))
  | ok r =>
    obtain ⟨d, ρ1⟩ := r
    rw [e1] at P
    simp only [R.ok_bind] at P
    cases e2 : items (frz d) with
    | none => rw [e2] at P; exact P.elim
    | some ds =>
      rw [e2] at P
      simp only [oR_some, R.ok_bind] at P
      have go : ∀ Q' : VK, (∀ v H1 Z1 fp, Same Z Z1 → (b1 = true → Same H H1) → Sa ⟨X.K, G⟩ Z1 H1 σ ρ1 T → Rp ⟨X.K, G⟩ Z1 H1 (frz d) v fp → Q' v H1) → RunE X iter σ H Q' := fun Q' q => by
        refine h.run σ H Z ρ T Q' S ?_
        rw [e1]
        intro v H1 Z1 z1 h1 S1
        obtain ⟨Z2, z2, S2⟩ := S1.freeze
        obtain ⟨fp, r⟩ := S2.rp
        exact q v H1 Z2 fp (z1.trans z2) h1 S2.drop r
      cases d with
      | tup xs =>
        refine toI (pi_tup peR) (go _ fun v H1 Z1 fp z1 h1 S1 r => ?_)
        obtain ⟨a, vs, rfl, s, r⟩ := r
        cases e2
        have := r.isFrz (areFrz_frzs xs); subst this
        exact ⟨a, rfl, ⟨vs, sqT_mono s S1.si.zh⟩, P _ H1 Z1 z1 h1 S1 (itr_tup s r)⟩
      | str l =>
        refine toI (pi_str peR) (go _ fun v H1 Z1 fp z1 h1 S1 r => ?_)
        obtain ⟨rfl, _⟩ := r
        cases e2
        exact ⟨mkS l, rfl, P _ H1 Z1 z1 h1 S1 itr_str⟩
      | nd m k xs =>
        cases k with
        | lst =>
          refine toI (pi_list peR) (go _ fun v H1 Z1 fp z1 h1 S1 r => ?_)
          obtain ⟨a, vs, rfl, ⟨own, s⟩, r, _⟩ := r
          cases e2
          exact ⟨a, rfl, ⟨vs, SqL.of (S1.si.zh _ _ s.1)⟩, P _ H1 Z1 z1 h1 S1 (itr_list (SqL.of s.1) r)⟩
        | hole => cases m <;> cases e2
        | ro =>
          refine toI (pi_list peR) (go _ fun v H1 Z1 fp z1 h1 S1 r => ?_)
          obtain ⟨a, vs, rfl, s, r, _⟩ := r
          cases e2
          exact ⟨a, rfl, ⟨vs, S1.si.zh.seq s⟩, P _ H1 Z1 z1 h1 S1 (itr_list s r)⟩
        | dct ks => cases e2
        | obj C ns => cases e2
      | _ => cases e2
/-! ranges -/
def rng (i : Int) (n : Nat) : List D := (List.range n).map fun k => .int (i + (k : Nat))
def okR (i : Int) : Bool := decide (-(2 ^ 62) ≤ i ∧ i < 2 ^ 62)
def iRange1 (g : Env → R Env (List Ag × Env)) : Env → R Env (List D × Env) := fun ρ => (g ρ).bind fun q => match q.1 with
  | [.v (.int j)] => if okR j = true then .ok (rng 0 j.toNat, q.2) else .stuck
  | _ => .stuck
@[simp] theorem iRange1_eq (g : Env → R Env (List Ag × Env)) (ρ : Env) : iRange1 g ρ = (g ρ).bind fun q => match q.1 with
  | [.v (.int j)] => if okR j = true then .ok (rng 0 j.toNat, q.2) else .stuck
  | _ => .stuck := rfl
def iRange2 (g : Env → R Env (List Ag × Env)) : Env → R Env (List D × Env) := fun ρ => (g ρ).bind fun q => match q.1 with
  | [.v (.int i), .v (.int j)] => if okR i = true ∧ okR j = true then .ok (rng i (j - i).toNat, q.2) else .stuck
  | _ => .stuck
@[simp] theorem iRange2_eq (g : Env → R Env (List Ag × Env)) (ρ : Env) : iRange2 g ρ = (g ρ).bind fun q => match q.1 with
  | [.v (.int i), .v (.int j)] => if okR i = true ∧ okR j = true then .ok (rng i (j - i).toNat, q.2) else .stuck
  | _ => .stuck := rfl
theorem ix_range1 {b1 : Bool} {g : Env → R Env (List Ag × Env)} (hg : Gl X "range") (hm : X.mg "range" = none) (ha : Ax X G W b1 [a] g) (hs : starEach [a] X.env = [(false, eval a X.env)] := by rfl) : Ix X G W b1 tg (.Call (.Name "range" p) [a] [] pos) (iRange1 g) := by
  refine ⟨bindq ha.q fun p d ρ' e => (by split at e; split at e; cases e; rfl; cases e; cases e), fun σ H Z ρ T Q S P => toI (pi_range1 hg hm paR hs) (ha.run σ H Z ρ T _ S ?_)⟩
  unfold iRange1 at P
  cases e1 : g ρ with
  | stuck => rw [e1] at P; exact P
  | exc c fs ρ' => rw [e1] at P; exact P
  | ok r =>
    obtain ⟨as, ρ1⟩ := r
    rw [e1] at P
    simp only [R.ok_bind] at P
    intro vs L H1 Z1 z1 h1 rL S1
    split at P
    · rename_i j
      split at P
      · rename_i hj
        cases vs with
        | nil => exact rL.elim
        | cons v vs =>
          obtain ⟨L', rfl, rL⟩ := rL
          cases vs with
          | cons _ _ => exact rL.elim
          | nil =>
            cases rL
            obtain ⟨fp, rv, _⟩ := S1.rp
            subst rv
            have := of_decide_eq_true hj
            exact ⟨j, rfl, this.1, this.2, P _ H1 Z1 z1 h1 S1.drop itr_rng⟩
      · exact P.elim
    · exact P.elim
theorem ix_range2 {b1 : Bool} {g : Env → R Env (List Ag × Env)} (hg : Gl X "range") (hm : X.mg "range" = none) (ha : Ax X G W b1 [a, b] g) (hs : starEach [a, b] X.env = [(false, eval a X.env), (false, eval b X.env)] := by rfl) (hs2 : starEach [b] X.env = [(false, eval b X.env)] := by rfl) :
    Ix X G W b1 tg (.Call (.Name "range" p) [a, b] [] pos) (iRange2 g) := by
  refine ⟨bindq ha.q fun p d ρ' e => (by split at e; split at e; cases e; rfl; cases e; cases e), fun σ H Z ρ T Q S P => toI (pi_range2 hg hm paR hs hs2) (ha.run σ H Z ρ T _ S ?_)⟩
  unfold iRange2 at P
  cases e1 : g ρ with
  | stuck => rw [e1] at P; exact P
  | exc c fs ρ' => rw [e1] at P; exact P
  | ok r =>
    obtain ⟨as, ρ1⟩ := r
    rw [e1] at P
    simp only [R.ok_bind] at P
    intro vs L H1 Z1 z1 h1 rL S1
    split at P
    · rename_i i j
      split at P
      · rename_i hj
        cases vs with
        | nil => exact rL.elim
        | cons v vs =>
          obtain ⟨L', rfl, rL⟩ := rL
          cases vs with
          | nil => exact rL.elim
          | cons u vs =>
            obtain ⟨L2, rfl, rL⟩ := rL
            cases vs with
            | cons _ _ => exact rL.elim
            | nil =>
              cases rL
              obtain ⟨fp, rv, _⟩ := S1.rp
              subst rv
              obtain ⟨fp2, ru, _⟩ := S1.drop.rp
              subst ru
              have k1 := of_decide_eq_true hj.1
              have k2 := of_decide_eq_true hj.2
              exact ⟨i, j, rfl, ⟨k1.1, k1.2, k2.1, k2.2⟩, P _ H1 Z1 z1 h1 S1.drop.drop itr_rng⟩
      · exact P.elim
    · exact P.elim
theorem itr_rngC {i c : Int} {n : Nat} : Itr K Z (Itc i c n) ((List.range n).map fun k => .int (i + (k : Nat) * c)) where
  frz := fun d hd => by
    obtain ⟨c, _, rfl⟩ := List.mem_map.mp hd
    rfl
  stop := fun Z' H' z zh => by
    show n ≤ _
    simp
  go := fun i hi Z' H' z zh => by
    show i < n
    simpa using hi
  yld := fun k d e Z' H' x H2 z zh hy => by
    obtain ⟨rfl, rfl⟩ := hy
    rw [List.getElem?_map] at e
    cases e2 : (List.range n)[k]? with
    | none => rw [e2] at e; cases e
    | some m =>
      rw [e2] at e; cases e
      have : m = k := by
        obtain ⟨h1, h2⟩ := List.getElem?_eq_some_iff.mp e2
        rw [List.getElem_range] at h2
        exact h2.symm
      subst this
      exact ⟨Z', Al.same ⟨rfl, rfl⟩⟩
/-- downwards by ones -/
def rngD (i j : Int) : List D := (List.range (i - j).toNat).map fun k => .int (i + (k : Nat) * (-1))
def iRangeD (g : Env → R Env (List Ag × Env)) : Env → R Env (List D × Env) := fun ρ => (g ρ).bind fun q => match q.1 with
  | [.v (.int i), .v (.int j), .v (.int c)] => if okR i = true ∧ okR j = true ∧ c = -1 then .ok (rngD i j, q.2) else .stuck
  | _ => .stuck
@[simp] theorem iRangeD_eq (g : Env → R Env (List Ag × Env)) (ρ : Env) : iRangeD g ρ = (g ρ).bind fun q => match q.1 with
  | [.v (.int i), .v (.int j), .v (.int c)] => if okR i = true ∧ okR j = true ∧ c = -1 then .ok (rngD i j, q.2) else .stuck
  | _ => .stuck := rfl
theorem ix_rangeD {b1 : Bool} {g : Env → R Env (List Ag × Env)} (hg : Gl X "range") (hm : X.mg "range" = none) (ha : Ax X G W b1 [a, b, c] g) (hs : starEach [a, b, c] X.env = (false, eval a X.env) :: starEach [b, c] X.env := by rfl) (hpl : (backTo pos (starEach [b, c] X.env)).any (·.1) = false := by rfl) :
    Ix X G W b1 tg (.Call (.Name "range" p) [a, b, c] [] pos) (iRangeD g) := by
  refine ⟨bindq ha.q fun p d ρ' e => (by split at e; split at e; cases e; rfl; cases e; cases e), fun σ H Z ρ T Q S P => toI (pi_range3 hg hm paR hs hpl) (ha.run σ H Z ρ T _ S ?_)⟩
  unfold iRangeD at P
  cases e1 : g ρ with
  | stuck => rw [e1] at P; exact P
  | exc c fs ρ' => rw [e1] at P; exact P
  | ok r =>
    obtain ⟨as, ρ1⟩ := r
    rw [e1] at P
    simp only [R.ok_bind] at P
    intro vs L H1 Z1 z1 h1 rL S1
    split at P
    · rename_i i j c
      split at P
      · rename_i hj
        obtain ⟨hi, hj, rfl⟩ := hj
        cases vs with
        | nil => exact rL.elim
        | cons v vs =>
          obtain ⟨L', rfl, rL⟩ := rL
          cases vs with
          | nil => exact rL.elim
          | cons u vs =>
            obtain ⟨L2, rfl, rL⟩ := rL
            cases vs with
            | nil => exact rL.elim
            | cons w vs =>
              obtain ⟨L3, rfl, rL⟩ := rL
              cases vs with
              | cons _ _ => exact rL.elim
              | nil =>
                cases rL
                obtain ⟨fp, rv, _⟩ := S1.rp
                subst rv
                obtain ⟨fp2, ru, _⟩ := S1.drop.rp
                subst ru
                obtain ⟨fp3, rw', _⟩ := S1.drop.drop.rp
                subst rw'
                have k1 := of_decide_eq_true hi
                have k2 := of_decide_eq_true hj
                refine ⟨i, j, -1, (i - j).toNat, rfl, RgC.neg k1.1 k1.2 k2.1 k2.2, P _ H1 Z1 z1 h1 S1.drop.drop.drop itr_rngC⟩
      · exact P.elim
    · exact P.elim
end
end Tw

set_option maxRecDepth 100000
namespace Tw
open PySem PySem.Spec L2

/-! ### [e for x in xs if t] -/
def wipeE (ρ : Env) : List Nat → Env
  | [] => ρ
  | v :: vs => (wipeE ρ vs).set v none
/-- the slots of the block's own names hold nothing, or what is frozen -/
def ownOk (ρ : Env) : List Nat → Bool
  | [] => true
  | v :: vs => (match gVar v ρ with
    | some d => isFrz d
    | none => true) && ownOk ρ vs
/-- ρ2 with the old things at these slots -/
def restE (ρ ρ2 : Env) : List Nat → Env
  | [] => ρ2
  | v :: vs => (restE ρ ρ2 vs).set v ((ρ[v]?).getD none)
section
variable {K : Ct} {Z Z' H H' : Hp} {σ : Sg} {ρ ρ2 : Env} {T : List It}
theorem wipe_len : ∀ (vs : List Nat), (wipeE ρ vs).length = ρ.length
  | [] => rfl
  | v :: vs => by unfold wipeE; rw [List.length_set, wipe_len vs]
theorem wipe_at : ∀ {vs : List Nat} {i : Nat} {d : D}, (wipeE ρ vs)[i]? = some (some d) → ρ[i]? = some (some d) ∧ i ∉ vs
  | [], i, d, h => ⟨h, by simp⟩
  | v :: vs, i, d, h => by
    unfold wipeE at h
    by_cases e : v = i
    · subst e
      rw [List.getElem?_set] at h
      simp only [if_true] at h
      split at h <;> simp at h
    · rw [List.getElem?_set_ne e] at h
      obtain ⟨h1, h2⟩ := wipe_at h
      exact ⟨h1, by simp [h2, Ne.symm e]⟩
theorem wipe_at' : ∀ {vs : List Nat} {i : Nat}, i ∉ vs → (L2.wipe σ vs)[i]? = σ[i]?
  | [], i, h => rfl
  | v :: vs, i, h => by
    unfold L2.wipe
    rw [List.getElem?_set_ne fun e => h (by simp [e]), wipe_at' fun hm => h (List.mem_cons_of_mem _ hm)]
theorem Sa.none (s : Sa K Z H σ ρ T) (i : Nat) : Sa K Z H σ (ρ.set i Option.none) T := by
  cases e : ρ[i]? with
  | none => rw [List.set_eq_of_length_le (by rw [List.getElem?_eq_none_iff] at e; exact e)]; exact s
  | some o =>
    cases o with
    | none => rw [show ρ.set i Option.none = ρ from set_self e]; exact s
    | some d => obtain ⟨v, _, s'⟩ := s.take e; exact s'.drop
theorem envL_nil : ∀ {σ : Sg}, envL σ [] = []
  | [] => rfl
  | Option.none :: _ => rfl
  | some _ :: _ => rfl
theorem envL_both : ∀ {σ : Sg} {ρ : Env} {i : Nat}, envL (σ.set i Option.none) (ρ.set i Option.none) = envL σ (ρ.set i Option.none)
  | [], ρ, i => rfl
  | _ :: _, [], i => by rw [List.set_nil, envL_nil, envL_nil]
  | x :: σ, y :: ρ, 0 => by
    show envL (Option.none :: σ) (Option.none :: ρ) = envL (x :: σ) (Option.none :: ρ)
    rw [envL_none, envL_none]
  | x :: σ, y :: ρ, i + 1 => by
    rw [List.set_cons_succ, List.set_cons_succ]
    cases x with
    | none => exact envL_both (σ := σ) (ρ := ρ) (i := i)
    | some u => cases y with
      | none => rw [envL_none, envL_none]; exact envL_both (σ := σ) (ρ := ρ) (i := i)
      | some d =>
        show It.tr d u :: envL (σ.set i Option.none) (ρ.set i Option.none) = It.tr d u :: envL σ (ρ.set i Option.none)
        rw [envL_both]
theorem Sa.wipe1 (s : Sa K Z H σ ρ T) (i : Nat) : Sa K Z H (σ.set i Option.none) (ρ.set i Option.none) T := by
  have s' := s.none i
  refine ⟨⟨by rw [List.length_set, List.length_set]; exact s.ok.len, fun j d e => ?_⟩, by rw [envL_both]; exact s'.si⟩
  obtain ⟨v, hv⟩ := s'.ok.get j d e
  refine ⟨v, ?_⟩
  by_cases hij : i = j
  · subst hij
    rw [List.getElem?_set] at e
    simp only [if_true] at e
    split at e <;> simp at e
  · rw [List.getElem?_set_ne hij]; exact hv
theorem Sa.wipe (s : Sa K Z H σ ρ T) : ∀ vs : List Nat, Sa K Z H (L2.wipe σ vs) (wipeE ρ vs) T
  | [] => s
  | v :: vs => by
    unfold L2.wipe wipeE
    exact (Sa.wipe s vs).wipe1 v
/-- the wiped state read over the unwiped slots -/
theorem envL_wipe : ∀ {σ : Sg} {ρ : Env} {i : Nat} {x : Option V}, ρ[i]? = some Option.none ∨ ρ[i]? = Option.none → envL (σ.set i x) ρ = envL σ ρ
  | [], ρ, i, x, h => rfl
  | _ :: _, [], i, x, h => by rw [envL_nil, envL_nil]
  | y :: σ, z :: ρ, 0, x, h => by
    have : z = Option.none := by
      rcases h with h | h
      · simpa using h
      · simp at h
    subst this
    show envL (x :: σ) (Option.none :: ρ) = _
    rw [envL_none, envL_none]
  | y :: σ, z :: ρ, i + 1, x, h => by
    have ih := envL_wipe (σ := σ) (ρ := ρ) (i := i) (x := x) (by simpa using h)
    rw [List.set_cons_succ]
    cases y with
    | none => exact ih
    | some u => cases z with
      | none => rw [envL_none, envL_none]; exact ih
      | some d =>
        show It.tr d u :: envL (σ.set i x) ρ = It.tr d u :: envL σ ρ
        rw [ih]
theorem Sa.unwipe : ∀ {vs : List Nat}, Sa K Z H (L2.wipe σ vs) ρ2 T → (∀ i ∈ vs, ρ2[i]? = some Option.none ∨ ρ2[i]? = Option.none) → Sa K Z H σ ρ2 T
  | [], s, _ => s
  | v :: vs, s, h => by
    unfold L2.wipe at s
    have hv := h v (by simp)
    refine Sa.unwipe (vs := vs) ?_ fun i hi => h i (List.mem_cons_of_mem _ hi)
    refine ⟨⟨by have := s.ok.len; rwa [List.length_set] at this, fun j d e => ?_⟩, by have := s.si; rwa [envL_wipe hv] at this⟩
    obtain ⟨u, hu⟩ := s.ok.get j d e
    have hne : v ≠ j := fun z => by
      subst z
      rcases hv with hv | hv <;> (rw [hv] at e; cases e)
    rw [List.getElem?_set_ne hne] at hu
    exact ⟨u, hu⟩
theorem wipe_none : ∀ {vs : List Nat} {i : Nat}, i ∈ vs → (wipeE ρ vs)[i]? = some Option.none ∨ (wipeE ρ vs)[i]? = Option.none
  | v :: vs, i, h => by
    unfold wipeE
    by_cases e : v = i
    · subst e
      rw [List.getElem?_set]
      simp only [if_true]
      split
      · exact .inl rfl
      · exact .inr rfl
    · rw [List.getElem?_set_ne e]
      rcases List.mem_cons.mp h with h | h
      · exact absurd h.symm e
      · exact wipe_none h
/-- the old frozen things come back -/
theorem Sa.rest (s0 : Sa K Z H σ ρ T) {T' : List It} {Z2 H2 : Hp} (z : Same Z Z2) (s : Sa K Z2 H2 σ ρ2 T') : ∀ {vs : List Nat}, ownOk ρ vs = true → Sa K Z2 H2 σ (restE ρ ρ2 vs) T'
  | [], _ => s
  | v :: vs, h => by
    unfold ownOk at h
    rw [Bool.and_eq_true] at h
    have ih := Sa.rest s0 z s (vs := vs) h.2
    unfold restE
    cases e : gVar v ρ with
    | none =>
      have : (ρ[v]?).getD Option.none = Option.none := e
      rw [this]; exact ih.none v
    | some d =>
      have e' : (ρ[v]?).getD Option.none = some d := e
      rw [e']
      rw [e] at h
      obtain ⟨u, fp, hu, r⟩ := s0.view (gVar_some e)
      have := r.isFrz h.1
      subst this
      have r2 : Rp K Z2 H2 d u [] := r.keep z fun b hb => by simp at hb
      exact Sa.put' (.of_front ih.ok (ih.si.add r2)) hu
end
def compL (own : List Nat) (w : D → Env → Option Env) (t : Env → R Env (Bool × Env)) (h : Env → R Env (D × Env)) : List D → Env → List D → R Env (List D × Env)
  | [], ρ, acc => .ok (acc, ρ)
  | d :: ds, ρ, acc => match w d ρ with
    | none => .stuck
    | some ρ1 => match t ρ1 with
      | .ok (true, ρ2) => match h ρ2 with
        | .ok (y, ρ3) => compL own w t h ds (wipeE ρ3 own) (acc ++ [y])
        | _ => .stuck
      | .ok (false, ρ2) => compL own w t h ds (wipeE ρ2 own) acc
      | _ => .stuck
def dComp (own : List Nat) (f : Env → R Env (List D × Env)) (w : D → Env → Option Env) (t : Env → R Env (Bool × Env)) (h : Env → R Env (D × Env)) : Env → R Env (D × Env) := fun ρ => (f ρ).bind fun q =>
  if ownOk q.2 own = true ∧ q.1.length ≤ lim then (compL own w t h q.1 (wipeE q.2 own) []).bind fun r => .ok (.lst true r.1, restE q.2 r.2 own) else .stuck
@[simp] theorem dComp_eq (own : List Nat) (f : Env → R Env (List D × Env)) (w : D → Env → Option Env) (t : Env → R Env (Bool × Env)) (h : Env → R Env (D × Env)) (ρ : Env) : dComp own f w t h ρ = (f ρ).bind fun q =>
  if ownOk q.2 own = true ∧ q.1.length ≤ lim then (compL own w t h q.1 (wipeE q.2 own) []).bind fun r => .ok (.lst true r.1, restE q.2 r.2 own) else .stuck := rfl
def tYs : Env → R Env (Bool × Env) := fun ρ => .ok (true, ρ)
@[simp] theorem tYs_eq (ρ : Env) : tYs ρ = .ok (true, ρ) := rfl
structure Txs (X : Cx) (G : Nat → Addr) (W : WX) (b : Bool) (ifs : List Expr) (f : Env → R Env (Bool × Env)) : Prop where
  q : b = true → ∀ ρ d ρ', f ρ = .ok (d, ρ') → ρ' = ρ
  run : ∀ σ H Z ρ T Q, Sa ⟨X.K, G⟩ Z H σ ρ T → TPost ⟨X.K, G⟩ b Z H σ T W Q (f ρ) → ∀ pins s, Inv X pins σ H s →
    wpAny (model X.prog X.w) X.A (forIn ifs true fun c r => if r = true then do let ok ← isTrue c X.env (eval c X.env); pure (ForInStep.yield ok) else pure (ForInStep.yield r)) (TP X pins σ Q) X.xe s
section
variable {X : Cx} {G : Nat → Addr} {W : WX} {e a b c tg iter elt : Expr} {ifs : List Expr} {es : List Expr} {pos p : Pos} {K : Ct} {Z H : Hp}
theorem txs_nil : Txs X G W true [] tYs := ⟨fun _ ρ d ρ' h => by cases h; rfl, fun σ H Z ρ T Q S P pins s I => pts_nil.run pins s σ H Q I (P H Z (Same.refl _) (fun _ => Same.refl _) S)⟩
theorem txs_one {b1 : Bool} {t : Env → R Env (Bool × Env)} (h : Tx X G W b1 c t) : Txs X G W b1 [c] t := ⟨h.q, fun σ H Z ρ T Q S P pins s I => (pts_one ptR).run pins s σ H Q I (h.run σ H Z ρ T Q S P)⟩
theorem ptsR : PTs X ifs (fun σ H Q => ∀ pins s, Inv X pins σ H s →
    wpAny (model X.prog X.w) X.A (forIn ifs true fun c r => if r = true then do let ok ← isTrue c X.env (eval c X.env); pure (ForInStep.yield ok) else pure (ForInStep.yield r)) (TP X pins σ Q) X.xe s) := ⟨fun pins s σ H Q I h => h pins s I⟩
/-- no exception leaves -/
abbrev W0 : WX := fun _ _ _ _ => False
/-- all slots but these -/
def others (n : Nat) (own : List Nat) : List Nat := (List.range n).filter fun i => decide (i ∉ own)
theorem wipe_others {σ σ' : Sg} {own : List Nat} {n : Nat} (hn : σ.length = n) (f : Fx (others n own) (L2.wipe σ own) σ') : L2.wipe σ' own = L2.wipe σ own := by
  have hl : (L2.wipe σ' own).length = (L2.wipe σ own).length := by rw [wipe_length, wipe_length, f.1, wipe_length]
  apply List.ext_getElem?
  intro i
  by_cases hi : i ∈ own
  · have key : ∀ {τ : Sg} {vs : List Nat}, i ∈ vs → (L2.wipe τ vs)[i]? = if i < τ.length then some none else none := by
      intro τ vs
      induction vs with
      | nil => intro h; cases h
      | cons v vs ih =>
        intro h
        unfold L2.wipe
        rw [List.getElem?_set]
        by_cases e : v = i
        · subst e
          rw [if_pos rfl, wipe_length]
        · rw [if_neg e]
          rcases List.mem_cons.mp h with h | h
          · exact absurd h.symm e
          · exact ih h
    rw [key hi, key hi, f.1, wipe_length]
  · rw [wipe_at' hi]
    by_cases hlt : i < n
    · rw [f.2 i (List.mem_filter.mpr ⟨List.mem_range.mpr hlt, decide_eq_true hi⟩)]
    · have h1 : σ'[i]? = none := List.getElem?_eq_none_iff.mpr (by rw [f.1, wipe_length]; omega)
      rw [h1]
      exact (List.getElem?_eq_none_iff.mpr (by rw [wipe_length]; omega)).symm
theorem compL_q {own : List Nat} {w : D → Env → Option Env} {t : Env → R Env (Bool × Env)} {h : Env → R Env (D × Env)} : ∀ {ds : List D} {ρ : Env} {acc : List D} {acc' : List D} {ρ' : Env}, (∀ i ∈ own, ρ[i]? = some none ∨ ρ[i]? = none) →
    compL own w t h ds ρ acc = .ok (acc', ρ') → ∀ i ∈ own, ρ'[i]? = some none ∨ ρ'[i]? = none
  | [], ρ, acc, acc', ρ', hρ, e => by cases e; exact hρ
  | d :: ds, ρ, acc, acc', ρ', hρ, e => by
    unfold compL at e
    split at e
    · cases e
    · split at e
      · split at e
        · exact compL_q (fun i hi => wipe_none hi) e
        · cases e
      · exact compL_q (fun i hi => wipe_none hi) e
      · cases e
def LcPost (K : Ct) (b : Bool) (Z H : Hp) (σ : Sg) (own : List Nat) (T : List It) (D : Addr) (Q : Hp → Prop) : R Env (List Tw.D × Env) → Prop
  | .ok (acc, ρ') => ∀ vs H' Z', Same Z Z' → (b = true → Same H H') → acc.length = vs.length → Sa K Z' H' (L2.wipe σ own) ρ' (.cl .lst D vs :: (trs acc vs ++ T)) → Q H'
  | _ => False
theorem lc_run {own : List Nat} {b2 b3 : Bool} {w : D → Env → Option Env} {t : Env → R Env (Bool × Env)} {h : Env → R Env (D × Env)} {tt : TT} {te : TE} {g : TG} {J : L2.It} {ds : List D} {σ : Sg} {H1 Z1 Hb : Hp} {ρ : Env} {T : List It} {D : Addr} {Q : Hp → Prop} {n : Nat} (hn : σ.length = n)
    (hg : ∀ σ' H Z ρ T d v ρ' (Q : Sg → Hp → Prop), Sa K Z H σ' ρ (.tr d v :: T) → w d ρ = some ρ' → (∀ σ2, Fx (others n own) σ' σ2 → Sa K Z H σ2 ρ' T → Q σ2 H) → g v σ' H Q)
    (ht : ∀ σ H Z ρ T Q, Sa K Z H σ ρ T → TPost K b2 Z H σ T W0 Q (t ρ) → tt σ H Q)
    (he : ∀ σ H Z ρ T Q, Sa K Z H σ ρ T → EPost K b3 Z H σ T W0 Q (h ρ) → te σ H Q)
    (hl : ds.length ≤ sizeLine) (hJ : Itr K Z1 J ds) (hD : Hb D = none) (hb : (b2 && b3) = true → Same Hb H1) (S : Sa K Z1 H1 (L2.wipe σ own) ρ (.cl .lst D [] :: T)) (P : LcPost K (b2 && b3) Z1 Hb σ own T D Q (compL own w t h ds ρ [])) :
    ∃ Wv : Nat → Nat → Hp → Prop, (∃ m, Wv 0 m H1) ∧ ∀ i m H, Wv i m H →
      (J.stop i H ∧ Q H) ∨ (J.go i H ∧ ∃ Nx : Hp → Prop, (∀ H', Nx H' → ∃ m', m' < m ∧ Wv (i + 1) m' H') ∧ ∀ x H', J.yld i H x H' → g x (L2.wipe σ own) H' fun σ2 H2 => L2.wipe σ2 own = L2.wipe σ own ∧ tt σ2 H2 fun b H3 =>
        if b = true then te σ2 H3 fun y H4 => ∃ acc, H4 D = some (.lst acc) ∧ acc.length < sizeLine ∧ Nx (upd H4 D (.lst (acc ++ [y]))) else Nx H3) := by
  refine ⟨fun i m H => m = ds.length - i ∧ i ≤ ds.length ∧ ∃ Z' ρ' acc vs, Same Z1 Z' ∧ ((b2 && b3) = true → Same Hb H) ∧ acc.length = vs.length ∧ acc.length ≤ i ∧ Sa K Z' H (L2.wipe σ own) ρ' (.cl .lst D vs :: (trs acc vs ++ T)) ∧ LcPost K (b2 && b3) Z' Hb σ own T D Q (compL own w t h (ds.drop i) ρ' acc),
    ⟨ds.length, rfl, Nat.zero_le _, Z1, ρ, [], [], Same.refl _, hb, rfl, Nat.le_refl _, S, P⟩, ?_⟩
  rintro i m H ⟨rfl, hi, Z', ρ', acc, vs, z', hbb, lv, la, S', P'⟩
  by_cases hlt : i < ds.length
  · have ed : ds.drop i = ds[i] :: ds.drop (i + 1) := List.drop_eq_getElem_cons hlt
    rw [ed] at P'
    unfold compL at P'
    refine .inr ⟨hJ.go i hlt Z' H z' S'.si.zh, fun H2 => ∃ Z2 ρ2 acc2 vs2, Same Z' Z2 ∧ ((b2 && b3) = true → Same Hb H2) ∧ acc2.length = vs2.length ∧ acc2.length ≤ i + 1 ∧ Sa K Z2 H2 (L2.wipe σ own) ρ2 (.cl .lst D vs2 :: (trs acc2 vs2 ++ T)) ∧ LcPost K (b2 && b3) Z2 Hb σ own T D Q (compL own w t h (ds.drop (i + 1)) ρ2 acc2), ?_, ?_⟩
    · rintro H2 ⟨Z2, ρ2, acc2, vs2, z2, hb2, l2, la2, S2, P2⟩
      exact ⟨ds.length - (i + 1), by omega, rfl, hlt, Z2, ρ2, acc2, vs2, z'.trans z2, hb2, l2, la2, S2, P2⟩
    · intro x H2 hy
      obtain ⟨Z2, al⟩ := hJ.yld i ds[i] (List.getElem?_eq_getElem hlt) Z' H x H2 z' S'.si.zh hy
      cases e1 : w ds[i] ρ' with
      | none => rw [e1] at P'; exact P'.elim
      | some ρ1 =>
        rw [e1] at P'
        simp only at P'
        refine hg _ H2 Z2 ρ' _ ds[i] x ρ1 _ (Al.sa al S') e1 fun σ2 f2 S2 => ⟨wipe_others hn f2, ?_⟩
        have hw := wipe_others hn f2
        have pw : ∀ {Z3 : Hp} {r : R Env (List Tw.D × Env)}, LcPost K (b2 && b3) Z' Hb σ own T D Q r → Same Z' Z3 → LcPost K (b2 && b3) Z3 Hb σ own T D Q r := by
          intro Z3 r pr zz
          cases r with
          | ok q => exact fun vs H' Z4 z4 => pr vs H' Z4 (zz.trans z4)
          | _ => exact pr
        refine ht σ2 H2 Z2 ρ1 _ _ S2 ?_
        cases e2 : t ρ1 with
        | stuck => rw [e2] at P'; exact P'.elim
        | exc c fs ρ' => rw [e2] at P'; exact P'.elim
        | ok r =>
          obtain ⟨k, ρ2⟩ := r
          rw [e2] at P'
          intro H3 Z3 z3 h3 S3
          cases k with
          | false =>
            rw [if_neg Bool.false_ne_true]
            simp only at P'
            refine ⟨Z3, wipeE ρ2 own, acc, vs, al.z.trans z3, fun hb => ?_, lv, by omega, ?_, pw P' (al.z.trans z3)⟩
            · have hb' := hb
              rw [Bool.and_eq_true] at hb'
              exact ((hbb hb).trans al.h).trans (h3 hb'.1)
            · have := S3.wipe own
              rwa [hw] at this
          | true =>
            rw [if_pos rfl]
            simp only at P'
            refine he σ2 H3 Z3 ρ2 _ _ S3 ?_
            cases e3 : h ρ2 with
            | stuck => rw [e3] at P'; exact P'.elim
            | exc c fs ρ' => rw [e3] at P'; exact P'.elim
            | ok r =>
              obtain ⟨y, ρ3⟩ := r
              rw [e3] at P'
              simp only at P'
              intro u H4 Z4 z4 h4 S4
              have hbf : (b2 && b3) = true → Same Hb H4 := fun hb => by
                have hb' := hb
                rw [Bool.and_eq_true] at hb'
                exact (((hbb hb).trans al.h).trans (h3 hb'.1)).trans (h4 hb'.2)
              have S5 := S4.wipe own
              rw [hw] at S5
              -- the cell to the front
              have s5 : SI K Z4 H4 (.cl .lst D vs :: (.tr y u :: (trs acc vs ++ (envL (L2.wipe σ own) (wipeE ρ3 own) ++ T)))) := S5.si.perm (by
                refine (List.perm_middle).trans ?_
                refine (List.Perm.cons _ (List.perm_middle)).trans ?_
                refine (List.Perm.swap _ _ _).trans ?_
                refine List.Perm.cons _ (List.Perm.cons _ ?_)
                rw [← List.append_assoc, ← List.append_assoc]
                exact List.perm_append_comm.append_right T)
              obtain ⟨ownc, hc⟩ := s5.cell
              have hcell := hc.1
              have lv' : vs.length ≤ i := by rw [← lv]; exact la
              refine ⟨vs, hcell, by omega, Z4, wipeE ρ3 own, acc ++ [y], vs ++ [u], (al.z.trans z3).trans z4, fun hb => ?_, by simp [lv], by simp; omega, ?_, pw P' ((al.z.trans z3).trans z4)⟩
              · intro b o e
                have hne : b ≠ D := fun z => by subst z; rw [hD] at e; cases e
                rw [upd_ne hne]
                exact hbf hb b o e
              · have s6 := s5.write (o := .lst (vs ++ [u])) (k' := .lst) (vs' := vs ++ [u]) fun own c => ⟨upd_same, c.2⟩
                refine ⟨S5.ok, s6.perm ?_⟩
                refine List.Perm.trans ?_ (List.perm_middle.symm)
                refine List.Perm.cons _ ?_
                have ea : trs (acc ++ [y]) (vs ++ [u]) = trs acc vs ++ [.tr y u] := by rw [trs_app lv]; rfl
                rw [ea]
                have p1 : (It.tr y u :: (trs acc vs ++ (envL (L2.wipe σ own) (wipeE ρ3 own) ++ T))).Perm ((trs acc vs ++ [It.tr y u]) ++ (envL (L2.wipe σ own) (wipeE ρ3 own) ++ T)) := by
                  rw [List.append_assoc]
                  exact (List.perm_middle (a := It.tr y u)).symm
                refine p1.trans ?_
                rw [← List.append_assoc, ← List.append_assoc]
                exact List.perm_append_comm.append_right T
  · have e : i = ds.length := by omega
    subst e
    rw [List.drop_length] at P'
    exact .inl ⟨hJ.stop Z' H z' S'.si.zh, P' vs H Z' (Same.refl _) hbb lv S'⟩

/-- a target that stores in the block's own slots alone -/
def Own (own : List Nat) (w : D → Env → Option Env) : Prop := ∀ d ρ ρ', w d ρ = some ρ' → wipeE ρ' own = wipeE ρ own
def Owns (own : List Nat) (w : List D → Env → Option Env) : Prop := ∀ d ρ ρ', w d ρ = some ρ' → wipeE ρ' own = wipeE ρ own
theorem set_comm' {α : Type} {l : List α} {i j : Nat} {x : α} : (l.set i x).set j x = (l.set j x).set i x := by
  by_cases h : i = j
  · subst h; rfl
  · exact List.set_comm _ _ h
theorem wipe_set : ∀ {own : List Nat} {i : Nat} {o : Option D} {ρ : Env}, i ∈ own → wipeE (ρ.set i o) own = wipeE ρ own := by
  intro own
  induction own with
  | nil => intro i o ρ h; cases h
  | cons v vs ih =>
    intro i o ρ h
    have comm : ∀ (ρ : Env) (vs : List Nat) (i : Nat) (o : Option D), i ∉ vs → wipeE (ρ.set i o) vs = (wipeE ρ vs).set i o := by
      intro ρ vs i o hi
      induction vs with
      | nil => rfl
      | cons v vs ih =>
        unfold wipeE
        rw [ih fun h => hi (List.mem_cons_of_mem _ h), List.set_comm _ _ (fun e => hi (by simp [e]))]
    unfold wipeE
    by_cases hv : i ∈ vs
    · rw [ih hv]
    · rcases List.mem_cons.mp h with e | h
      · subst e
        rw [comm _ _ _ _ hv, List.set_set]
      · exact absurd h hv
theorem own_name {own : List Nat} {i : Nat} (h : i ∈ own) : Own own (wName i) := fun d ρ ρ' e => by cases e; exact wipe_set h
theorem owns_nil {own : List Nat} : Owns own wNil := fun d ρ ρ' e => by
  cases d with
  | nil => cases e; rfl
  | cons _ _ => cases e
theorem owns_cons {own : List Nat} {w : D → Env → Option Env} {ws : List D → Env → Option Env} (h1 : Own own w) (h2 : Owns own ws) : Owns own (wCons w ws) := fun d ρ ρ' e => by
  cases d with
  | nil => cases e
  | cons x xs =>
    simp only [wCons_eq] at e
    cases e1 : w x ρ with
    | none => rw [e1] at e; cases e
    | some ρ1 => rw [e1] at e; rw [h2 _ _ _ e, h1 _ _ _ e1]
theorem own_tup {own : List Nat} {n : Nat} {ws : List D → Env → Option Env} (h : Owns own ws) : Own own (wTup n ws) := fun d ρ ρ' e => by
  have go : ∀ ds : List D, (if ds.length = n then ws ds ρ else none) = some ρ' → wipeE ρ' own = wipeE ρ own := fun ds e => by
    split at e
    · exact h ds ρ ρ' e
    · cases e
  cases d with
  | tup ds => exact go ds e
  | nd m k ds => cases k with
    | lst => exact go ds (by cases m <;> exact e)
    | _ => cases m <;> cases e
  | _ => cases e
theorem rest_wipe {ρ : Env} : ∀ own : List Nat, restE ρ (wipeE ρ own) own = ρ := by
  have key : ∀ (own : List Nat) (ρ2 : Env), ρ2.length = ρ.length → (∀ i, i ∉ own → ρ2[i]? = ρ[i]?) → restE ρ ρ2 own = ρ := by
    intro own
    induction own with
    | nil => intro ρ2 hl h; exact List.ext_getElem? fun i => h i (by simp)
    | cons v vs ih =>
      intro ρ2 hl h
      unfold restE
      have comm : ∀ (vs : List Nat) (ρ2 : Env), (restE ρ ρ2 vs).set v ((ρ[v]?).getD none) = restE ρ (ρ2.set v ((ρ[v]?).getD none)) vs := by
        intro vs
        induction vs with
        | nil => intro ρ2; rfl
        | cons u us ih =>
          intro ρ2
          unfold restE
          rw [← ih ρ2]
          by_cases e : u = v
          · subst e; rfl
          · rw [List.set_comm _ _ e]
      rw [comm]
      refine ih _ (by rw [List.length_set]; exact hl) fun i hi => ?_
      by_cases e : v = i
      · subst e
        rw [List.getElem?_set]
        simp only [if_true]
        split
        · rename_i hlt
          rw [hl] at hlt
          rw [List.getElem?_eq_getElem hlt]; rfl
        · rename_i hlt
          rw [hl] at hlt
          exact (List.getElem?_eq_none_iff.mpr (by omega)).symm
      · rw [List.getElem?_set_ne e]
        exact h i (by simp [hi, Ne.symm e])
  intro own
  refine key own _ (wipe_len own) fun i hi => ?_
  have : ∀ (vs : List Nat), i ∉ vs → (wipeE ρ vs)[i]? = ρ[i]? := by
    intro vs
    induction vs with
    | nil => intro _; rfl
    | cons v vs ih =>
      intro h
      unfold wipeE
      rw [List.getElem?_set_ne fun e => h (by simp [e]), ih fun hm => h (List.mem_cons_of_mem _ hm)]
  exact this own hi
theorem compL_same {own : List Nat} {b2 b3 : Bool} {w : D → Env → Option Env} {t : Env → R Env (Bool × Env)} {h : Env → R Env (D × Env)} (hw : Own own w) (h2 : b2 = true) (h3 : b3 = true)
    (ht : b2 = true → ∀ ρ d ρ', t ρ = .ok (d, ρ') → ρ' = ρ) (hh : b3 = true → ∀ ρ d ρ', h ρ = .ok (d, ρ') → ρ' = ρ) : ∀ {ds : List D} {ρ : Env} {acc acc' : List D} {ρ' : Env}, wipeE ρ own = ρ → compL own w t h ds ρ acc = .ok (acc', ρ') → ρ' = ρ
  | [], ρ, acc, acc', ρ', hρ, e => by cases e; rfl
  | d :: ds, ρ, acc, acc', ρ', hρ, e => by
    unfold compL at e
    split at e
    · cases e
    · rename_i ρ1 e1
      have q1 : wipeE ρ1 own = ρ := (hw _ _ _ e1).trans hρ
      split at e
      · rename_i ρ2 e2
        have q2 := ht h2 _ _ _ e2
        subst q2
        split at e
        · rename_i y ρ3 e3
          have q3 := hh h3 _ _ _ e3
          subst q3
          rw [q1] at e
          exact compL_same hw h2 h3 ht hh hρ e
        · cases e
      · rename_i ρ2 e2
        have q2 := ht h2 _ _ _ e2
        subst q2
        rw [q1] at e
        exact compL_same hw h2 h3 ht hh hρ e
      · cases e
theorem wipe_wipe {ρ : Env} : ∀ own : List Nat, wipeE (wipeE ρ own) own = wipeE ρ own := by
  have key : ∀ (own : List Nat) (ρ2 : Env), (∀ i ∈ own, ρ2[i]? = some none ∨ ρ2[i]? = none) → wipeE ρ2 own = ρ2 := by
    intro own
    induction own with
    | nil => intro ρ2 _; rfl
    | cons v vs ih =>
      intro ρ2 h
      unfold wipeE
      rw [ih ρ2 fun i hi => h i (List.mem_cons_of_mem _ hi)]
      rcases h v (by simp) with e | e
      · exact set_self e
      · exact List.set_eq_of_length_le (List.getElem?_eq_none_iff.mp e)
  intro own
  exact key own _ fun i hi => wipe_none hi
theorem dComp_q {own : List Nat} {b1 b2 b3 : Bool} {f : Env → R Env (List D × Env)} {w : D → Env → Option Env} {t : Env → R Env (Bool × Env)} {h : Env → R Env (D × Env)} (hw : Own own w)
    (hf : b1 = true → ∀ ρ d ρ', f ρ = .ok (d, ρ') → ρ' = ρ) (ht : b2 = true → ∀ ρ d ρ', t ρ = .ok (d, ρ') → ρ' = ρ) (hh : b3 = true → ∀ ρ d ρ', h ρ = .ok (d, ρ') → ρ' = ρ) : (b1 && (b2 && b3)) = true → ∀ ρ d ρ', dComp own f w t h ρ = .ok (d, ρ') → ρ' = ρ := by
  intro hb
  simp only [Bool.and_eq_true] at hb
  refine bindq (b1 := b1) hf (fun p d ρ' e => ?_) hb.1
  split at e
  · cases e1 : compL own w t h p.1 (wipeE p.2 own) [] with
    | stuck => rw [e1] at e; cases e
    | exc c fs ρ' => rw [e1] at e; cases e
    | ok r =>
      rw [e1] at e; cases e
      rw [compL_same (acc' := r.1) (ρ' := r.2) hw hb.2.1 hb.2.2 ht hh (wipe_wipe own) e1, rest_wipe]
  · cases e
abbrev BlkP (X : Cx) (scope : Scope) (φ : Cx → Prop) : Prop := ∀ (s : Shared) (H : Hp) (C : Addr) (cl : List (Str × Addr)) (fp : List Addr), φ (X.blk s H scope (compEnvC scope cl C X.env) fp)
def gB (X : Cx) (scope : Scope) (tg : Expr) : TG := fun v σ H Q => BlkP X scope fun Y => ∀ pins s u, Inv Y pins σ H s → RelV v u → wpAny (model Y.prog Y.w) Y.A (assign tg Y.env u) (fun _ s' => ∃ σ' H', Inv Y pins σ' H' s' ∧ Q σ' H') Y.xe s
def tB' (X : Cx) (scope : Scope) (ifs : List Expr) : TT := fun σ H Q => BlkP X scope fun Y => ∀ pins s, Inv Y pins σ H s →
    wpAny (model Y.prog Y.w) Y.A (forIn ifs true fun c r => if r = true then do let ok ← isTrue c Y.env (eval c Y.env); pure (ForInStep.yield ok) else pure (ForInStep.yield r)) (TP Y pins σ Q) Y.xe s
def eB (X : Cx) (scope : Scope) (elt : Expr) : TE := fun σ H Q => BlkP X scope fun Y => RunE Y elt σ H Q
theorem comp_tlc {own : List (Str × Nat)} {scope : Scope} {b1 b2 b3 : Bool} {f : Env → R Env (List D × Env)} {w : D → Env → Option Env} {t : Env → R Env (Bool × Env)} {h : Env → R Env (D × Env)}
    (hi : Ix X G W b1 tg iter f) (hg : BlkP X scope fun Y => Tg Y G (others X.N.length (own.map (·.2))) tg w) (ht : BlkP X scope fun Y => Txs Y G W0 b2 ifs t) (he : BlkP X scope fun Y => Ev Y G W0 b3 elt h)
    {σ : Sg} {H Z : Hp} {ρ : Env} {T : List It} {Q : VK} (hn : σ.length = X.N.length) (S : Sa ⟨X.K, G⟩ Z H σ ρ T) (P : EPost ⟨X.K, G⟩ (b1 && (b2 && b3)) Z H σ T W Q (dComp (own.map (·.2)) f w t h ρ)) :
    tLc (RunI X tg iter) (gB X scope tg) (tB' X scope ifs) (eB X scope elt) (own.map (·.2)) σ H Q := by
  refine hi.run σ H Z ρ T _ S ?_
  unfold dComp at P
  cases e1 : f ρ with
  | stuck => rw [e1] at P; exact P
  | exc c fs ρ' => rw [e1] at P; exact P
  | ok r =>
    obtain ⟨ds, ρ1⟩ := r
    rw [e1] at P
    simp only [R.ok_bind] at P
    intro J H1 Z1 z1 h1 S1 hJ D hD
    split at P
    · rename_i hok
      have S2 := S1.wipe (own.map (·.2))
      have s2 : SI ⟨X.K, G⟩ Z1 (upd H1 D (.lst [])) (.tr (.lst true []) (.ref D) :: (envL (L2.wipe σ (own.map (·.2))) (wipeE ρ1 (own.map (·.2))) ++ T)) := SI.newL (ds := []) (vs := []) rfl S2.si hD
      obtain ⟨a, vs, ea, lv, s3⟩ := s2.opn
      cases ea
      cases vs with
      | cons _ _ => cases lv
      | nil =>
        refine lc_run (K := ⟨X.K, G⟩) (own := own.map (·.2)) (w := w) (t := t) (h := h) (b2 := b2) (b3 := b3) (ds := ds) (Hb := H1) (ρ := wipeE ρ1 (own.map (·.2))) (T := T) (Z1 := Z1) hn ?_ ?_ ?_ (lim_of hok.2) hJ hD (fun _ b o e => by rw [upd_ne (ne_of_none e hD)]; exact e) (.of_front S2.ok s3) ?_
        · intro σ' H Z ρ T d v ρ' Q S e q s H0 C cl fp
          exact (hg s H0 C cl fp).run σ' H Z ρ T d v ρ' Q S e q
        · intro σ H Z ρ T Q S P s H0 C cl fp
          exact (ht s H0 C cl fp).run σ H Z ρ T Q S P
        · intro σ H Z ρ T Q S P s H0 C cl fp
          exact (he s H0 C cl fp).run σ H Z ρ T Q S P
        · cases e2 : compL (own.map (·.2)) w t h ds (wipeE ρ1 (own.map (·.2))) [] with
          | stuck => rw [e2] at P; exact P
          | exc c fs ρ' =>
            exfalso
            have nox : ∀ {own : List Nat} {w : Tw.D → Env → Option Env} {t : Env → R Env (Bool × Env)} {h : Env → R Env (Tw.D × Env)} {ds : List Tw.D} {ρ : Env} {acc : List Tw.D}, compL own w t h ds ρ acc ≠ .exc c fs ρ' := by
              intro own w t h ds
              induction ds with
              | nil => intro ρ acc e; cases e
              | cons d ds ih =>
                intro ρ acc e
                unfold compL at e
                split at e
                · cases e
                · split at e
                  · split at e
                    · exact ih e
                    · cases e
                  · exact ih e
                  · cases e
            exact nox e2
          | ok r =>
            obtain ⟨acc, ρ2⟩ := r
            rw [e2] at P
            simp only [R.ok_bind] at P
            intro vs H' Z' z' hb lv S'
            have hno := compL_q (fun i hi => wipe_none hi) e2
            have S4 := S'.unwipe hno
            have s5 : SI ⟨X.K, G⟩ Z' H' (.tr (.lst true acc) (.ref D) :: (envL σ ρ2 ++ T)) := by
              refine SI.cls lv (S4.front.perm (List.Perm.cons _ ?_))
              rw [← List.append_assoc, ← List.append_assoc]
              exact List.perm_append_comm.append_right T
            have S6 : Sa ⟨X.K, G⟩ Z' H' σ ρ2 (.tr (.lst true acc) (.ref D) :: T) := .of_front S4.ok s5
            refine P (.ref D) H' Z' (z1.trans z') (fun hb' => ?_) (Sa.rest S1 z' S6 hok.1)
            rw [Bool.and_eq_true] at hb'
            exact (h1 hb'.1).trans (hb hb'.2)
    · exact P.elim
theorem ev_comp (O : XOk X W) {own : List (Str × Nat)} {scope : Scope} {b1 b2 b3 : Bool} {f : Env → R Env (List D × Env)} {w : D → Env → Option Env} {t : Env → R Env (Bool × Env)} {h : Env → R Env (D × Env)}
    (hi : Ix X G W b1 tg iter f) (ok : BlkOk X.N X.env.scope scope own) (hw : Own (own.map (·.2)) w) (hg : BlkP X scope fun Y => Tg Y G (others X.N.length (own.map (·.2))) tg w) (ht : BlkP X scope fun Y => Txs Y G W0 b2 ifs t) (he : BlkP X scope fun Y => Ev Y G W0 b3 elt h)
    (hs : ∀ x, foldedSetIterable iter X.env x = pure x := by intro _; rfl) : Ev X G W (b1 && (b2 && b3)) (.ListComp elt [⟨tg, iter, ifs, 0⟩] scope pos) (dComp (own.map (·.2)) f w t h) := by
  refine ⟨dComp_q hw hi.q (ht X.s_0 X.H_0 0 [] []).q (he X.s_0 X.H_0 0 [] []).q, fun σ H Z ρ T Q S P pins s I => ?_⟩
  exact (pe_lc (g := gB X scope tg) (tt := tB' X scope ifs) (te := eB X scope elt) O.calm O.nd piR ok (fun s H C cl fp => ⟨fun pins s1 σ H1 v u Q I r h => h s H C cl fp pins s1 u I r⟩) (fun s H C cl fp => ⟨fun pins s1 σ H1 Q I h => h s H C cl fp pins s1 I⟩)
    (fun s H C cl fp => ⟨fun pins s1 σ H1 Q I h => h s H C cl fp pins s1 I⟩) hs).run pins s σ H Q I (comp_tlc hi hg ht he I.len S P)
/-- y = [e for ..] -/
theorem sx_setLc (O : XOk X W) {fx : List Nat} {i : Nat} {y : Str} {py spos : Pos} {own : List (Str × Nat)} {scope : Scope} {b1 b2 b3 : Bool} {f : Env → R Env (List D × Env)} {w : D → Env → Option Env} {t : Env → R Env (Bool × Env)} {h : Env → R Env (D × Env)}
    (hy : X.N[i]? = some y) (hyl : X.env.scope.names.lookup y = some .local) (hF : i ∉ fx)
    (hsw : swapsWith (.ListComp elt [⟨tg, iter, ifs, 0⟩] scope pos) (some (.Name y py)) spos.line X.env = pure true)
    (hi : Ix X G W b1 tg iter f) (ok : BlkOk X.N X.env.scope scope own) (hw : Own (own.map (·.2)) w) (hg : BlkP X scope fun Y => Tg Y G (others X.N.length (own.map (·.2))) tg w) (ht : BlkP X scope fun Y => Txs Y G W0 b2 ifs t) (he : BlkP X scope fun Y => Ev Y G W0 b3 elt h)
    (hs : ∀ x, foldedSetIterable iter X.env x = pure x := by intro _; rfl) : Sx X G W fx (.Assign [.Name y py] (.ListComp elt [⟨tg, iter, ifs, 0⟩] scope pos) spos) (sAsg (dComp (own.map (·.2)) f w t h) (wName i)) := by
  refine ⟨fun σ H Z ρ T D S P pins s I => ?_⟩
  have hl : i < σ.length := by rw [I.len]; exact (List.getElem?_eq_some_iff.mp hy).1
  refine (ps_setLc (g := gB X scope tg) (tt := tB' X scope ifs) (te := eB X scope elt) O.calm O.nd hy hyl hsw piR ok (fun s H C cl fp => ⟨fun pins s1 σ H1 v u Q I r h => h s H C cl fp pins s1 u I r⟩) (fun s H C cl fp => ⟨fun pins s1 σ H1 Q I h => h s H C cl fp pins s1 I⟩)
    (fun s H C cl fp => ⟨fun pins s1 σ H1 Q I h => h s H C cl fp pins s1 I⟩) hs).run pins s σ H D I (comp_tlc (W := W) hi hg ht he I.len S ?_)
  unfold sAsg at P
  cases e1 : dComp (own.map (·.2)) f w t h ρ with
  | stuck => rw [e1] at P; exact P
  | exc c fs ρ' => rw [e1] at P; exact YPost.x P
  | ok p =>
    rw [e1] at P
    exact fun v H1 Z1 z1 h1 S1 => P _ H1 Z1 z1 (.set hF) (S1.put hl)
end
end Tw

set_option maxRecDepth 100000
namespace Tw
open PySem PySem.Spec L2

/-! ### places: a name, and a way down into its thing -/
def getP : D → List Nat → Option D
  | d, [] => some d
  | .nd true _ ds, n :: p => (ds[n]?).bind fun x => getP x p
  | .tup ds, n :: p => (ds[n]?).bind fun x => getP x p
  | _, _ :: _ => none
def setP : D → List Nat → D → D
  | _, [], y => y
  | .nd m k ds, n :: p, y => .nd m k (match ds[n]? with
    | some x => ds.set n (setP x p y)
    | none => ds)
  | .tup ds, n :: p, y => .tup (match ds[n]? with
    | some x => ds.set n (setP x p y)
    | none => ds)
  | d, _ :: _, _ => d
def Wk (K : Ct) (Z H : Hp) : D → V → List Nat → V → Prop
  | _, u, [], v => v = u
  | .nd true k ds, u, n :: p, v => ∃ a vs own x w, u = .ref a ∧ Cell K H k a vs own ∧ ds[n]? = some x ∧ vs[n]? = some w ∧ Wk K Z H x w p v
  | .tup ds, u, n :: p, v => ∃ a vs x w, u = .ref a ∧ SqT K.K Z a vs ∧ ds[n]? = some x ∧ vs[n]? = some w ∧ Wk K Z H x w p v
  | _, _, _ :: _, _ => False
structure At (K : Ct) (Z H : Hp) (σ : Sg) (ρ : Env) (i : Nat) (p : List Nat) (v : V) : Prop where
  ex : ∃ d u, ρ[i]? = some (some d) ∧ σ[i]? = some (some u) ∧ Wk K Z H d u p v
section
variable {K : Ct} {Z Z' H H' : Hp} {σ : Sg} {ρ : Env} {T L : List It}
theorem Wk.keep (z : Same Z Z') (h : Same H H') : ∀ {p : List Nat} {d : D} {u v : V}, Wk K Z H d u p v → Wk K Z' H' d u p v
  | [], d, u, v, w => w
  | n :: p, .nd true k ds, u, v, w => by
    obtain ⟨a, vs, own, x, y, e, c, e1, e2, w⟩ := w
    exact ⟨a, vs, own, x, y, e, c.keep fun b _ o q => h b o q, e1, e2, Wk.keep z h w⟩
  | n :: p, .tup ds, u, v, w => by
    obtain ⟨a, vs, x, y, e, c, e1, e2, w⟩ := w
    exact ⟨a, vs, x, y, e, sqT_mono c z, e1, e2, Wk.keep z h w⟩
  | n :: p, .nd false k ds, u, v, w => w.elim
  | n :: p, .non, u, v, w => w.elim
  | n :: p, .bl _, u, v, w => w.elim
  | n :: p, .int _, u, v, w => w.elim
  | n :: p, .str _, u, v, w => w.elim
  | n :: p, .glb _, u, v, w => w.elim
theorem Wk.snoc {n : Nat} {v : V} : ∀ {p : List Nat} {d x y : D} {u w : V}, Wk K Z H d u p w → getP d p = some x → getP x [n] = some y → Wk K Z H x w [n] v → Wk K Z H d u (p ++ [n]) v
  | [], d, x, y, u, w, h, e, e2, h2 => by
    cases h; cases e; exact h2
  | m :: p, .nd true k ds, x, y, u, w, h, e, e2, h2 => by
    obtain ⟨a, vs, own, x', w', e0, c, e3, e4, h⟩ := h
    have e : (ds[m]?).bind (fun x => getP x p) = some x := e
    rw [e3] at e
    exact ⟨a, vs, own, x', w', e0, c, e3, e4, Wk.snoc h e e2 h2⟩
  | m :: p, .tup ds, x, y, u, w, h, e, e2, h2 => by
    obtain ⟨a, vs, x', w', e0, c, e3, e4, h⟩ := h
    have e : (ds[m]?).bind (fun x => getP x p) = some x := e
    rw [e3] at e
    exact ⟨a, vs, x', w', e0, c, e3, e4, Wk.snoc h e e2 h2⟩
  | m :: p, .nd false k ds, _, _, u, v, w, _, _, _ => w.elim
  | m :: p, .non, _, _, u, v, w, _, _, _ => w.elim
  | m :: p, .bl _, _, _, u, v, w, _, _, _ => w.elim
  | m :: p, .int _, _, _, u, v, w, _, _, _ => w.elim
  | m :: p, .str _, _, _, u, v, w, _, _, _ => w.elim
  | m :: p, .glb _, _, _, u, v, w, _, _, _ => w.elim
theorem getP_app {n : Nat} : ∀ {p : List Nat} {d x : D}, getP d p = some x → getP d (p ++ [n]) = getP x [n]
  | [], d, x, e => by cases e; rfl
  | m :: p, .nd true k ds, x, e => by
    have e : (ds[m]?).bind (fun x => getP x p) = some x := e
    show (ds[m]?).bind (fun x => getP x (p ++ [n])) = _
    cases e1 : ds[m]? with
    | none => rw [e1] at e; cases e
    | some y => rw [e1] at e; exact getP_app (p := p) e
  | m :: p, .tup ds, x, e => by
    have e : (ds[m]?).bind (fun x => getP x p) = some x := e
    show (ds[m]?).bind (fun x => getP x (p ++ [n])) = _
    cases e1 : ds[m]? with
    | none => rw [e1] at e; cases e
    | some y => rw [e1] at e; exact getP_app (p := p) e
  | m :: p, .nd false k ds, x, e => by cases e
  | m :: p, .non, x, e => by cases e
  | m :: p, .bl _, x, e => by cases e
  | m :: p, .int _, x, e => by cases e
  | m :: p, .str _, x, e => by cases e
  | m :: p, .glb _, x, e => by cases e
theorem trs_split : ∀ {ds : List D} {vs : List V} {n : Nat} {x : D} {w : V}, ds.length = vs.length → ds[n]? = some x → vs[n]? = some w →
    ∃ A B, trs ds vs = A ++ It.tr x w :: B ∧ ∀ y, trs (ds.set n y) vs = A ++ It.tr y w :: B
  | [], _, _, _, _, _, h, _ => by simp at h
  | d :: ds, [], _, _, _, l, _, _ => by cases l
  | d :: ds, v :: vs, 0, x, w, l, h, h' => by
    simp at h h'; subst h; subst h'
    exact ⟨[], trs ds vs, rfl, fun y => rfl⟩
  | d :: ds, v :: vs, n + 1, x, w, l, h, h' => by
    obtain ⟨A, B, e, f⟩ := trs_split (ds := ds) (vs := vs) (n := n) (x := x) (w := w) (by simpa using l) (by simpa using h) (by simpa using h')
    refine ⟨.tr d v :: A, B, by show It.tr d v :: trs ds vs = _; rw [e]; rfl, fun y => ?_⟩
    show It.tr d v :: trs (ds.set n y) vs = _
    rw [f y]; rfl
theorem cell_one {k : Kd} {a : Addr} {vs vs' : List V} {own own' : List Addr} (c : Cell K H k a vs own) (c' : Cell K H k a vs' own') : vs = vs' := by
  cases k with
  | lst =>
    have := c.1.symm.trans c'.1
    cases this; rfl
  | ro => exact c.elim
  | hole => exact c.elim
  | dct ks =>
    obtain ⟨l, e, _⟩ := c
    obtain ⟨l', e', _⟩ := c'
    rw [e] at e'
    have e2 : (ks.map mkK).zip vs = (ks.map mkK).zip vs' := by injection e' with e'; injection e'
    have := congrArg (List.map Prod.snd) e2
    rwa [List.map_snd_zip (by simp [l]), List.map_snd_zip (by simp [l'])] at this
  | obj C ns =>
    obtain ⟨l, dx, e, _⟩ := c
    obtain ⟨l', dx', e', _⟩ := c'
    rw [e] at e'
    have e2 : ns.zip vs = ns.zip vs' := by injection e' with e'; injection e'
    have := congrArg (List.map Prod.snd) e2
    rwa [List.map_snd_zip (by simp [l]), List.map_snd_zip (by simp [l'])] at this
theorem SI.untup {ds : List D} {v : V} (f : SI K Z H (.tr (.tup ds) v :: L)) : ∃ a vs, v = .ref a ∧ SqT K.K Z a vs ∧ ds.length = vs.length ∧ SI K Z H (trs ds vs ++ L) := by
  obtain ⟨z, fp, ⟨f1, f2, rfl, ⟨a, vs, e, s, r⟩, h2⟩, n, q⟩ := f
  exact ⟨a, vs, e, s, r.length, z, f1 ++ f2, (by rw [List.append_assoc]; exact r.trs.app h2), n, q⟩
theorem SI.totup {ds : List D} {vs : List V} {a : Addr} (s : SqT K.K Z a vs) (l : ds.length = vs.length) (f : SI K Z H (trs ds vs ++ L)) : SI K Z H (.tr (.tup ds) (.ref a) :: L) := by
  obtain ⟨z, fp, h, n, q⟩ := f
  rw [List.append_assoc] at h
  obtain ⟨f1, f2, rfl, h1, h2⟩ := h.unapp
  exact ⟨z, f1 ++ f2, ⟨f1, f2, rfl, ⟨a, vs, rfl, s, h1.trs_of l⟩, h2⟩, n, q⟩
/-- what is written is not tracked -/
def Apart (K : Ct) (H : Hp) : Prop := ∀ a o, K.K.lookup a = some o → H a = none
theorem sqT_one (hk : Apart K H) (zh : Same Z H) {a : Addr} {vs vs' : List V} (h : SqT K.K Z a vs) (h' : SqT K.K Z a vs') : vs = vs' := by
  have rd : ∀ {u : HO} {o : Obj}, Z a = some u → K.K.lookup a = some o → False := fun e e2 => by
    have := zh _ _ e
    rw [hk a _ e2] at this; cases this
  rcases h with (h | ⟨o, h⟩) | ⟨o, its, n, h, _, hd, _, r⟩ <;> rcases h' with (h' | ⟨o', h'⟩) | ⟨o', its', n', h', _, hd', _, r'⟩
  · rw [h] at h'; cases h'; rfl
  · rw [h] at h'; cases h'
  · exact (rd h h').elim
  · rw [h] at h'; cases h'
  · rw [h] at h'; cases h'; rfl
  · exact (rd h h').elim
  · exact (rd h' h).elim
  · exact (rd h' h).elim
  · rw [h] at h'; cases h'
    rw [hd] at hd'
    injection hd' with h1 h2
    subst h1
    exact r.inj r'
/-- the thing at a place taken out, and put back -/
theorem focus (hk : Apart K H) : ∀ {p : List Nat} {d : D} {u v : V} {L : List It}, SI K Z H (.tr d u :: L) → Wk K Z H d u p v →
    ∃ x C, getP d p = some x ∧ SI K Z H (.tr x v :: (C ++ L)) ∧ ∀ Z' H' y L', Same Z Z' → SI K Z' H' (.tr y v :: (C ++ L')) → SI K Z' H' (.tr (setP d p y) u :: L')
  | [], d, u, v, L, s, w => by
    cases w
    exact ⟨d, [], by cases d <;> rfl, s, fun Z' H' y L' z s' => by
      have : setP d [] y = y := by cases d <;> rfl
      rw [this]; exact s'⟩
  | n :: p, .nd true k ds, u, v, L, s, w => by
    obtain ⟨a, vs, own, x, y, rfl, c, e1, e2, w⟩ := w
    obtain ⟨a', vs', ea, lv, s1⟩ := s.opn
    cases ea
    obtain ⟨own', c'⟩ := s1.cell
    have := cell_one c' c
    subst this
    obtain ⟨A, B, t1, t2⟩ := trs_split lv e1 e2
    rw [t1] at s1
    have s2 : SI K Z H (.tr x y :: (.cl k a vs' :: (A ++ B) ++ L)) := s1.perm (by
      refine (List.Perm.cons _ ?_).trans (List.Perm.swap _ _ _)
      have : A ++ It.tr x y :: B ++ L = A ++ It.tr x y :: (B ++ L) := by simp
      rw [this]
      have : (A ++ B).append L = A ++ (B ++ L) := by show (A ++ B) ++ L = _; rw [List.append_assoc]
      show List.Perm _ (It.tr x y :: (A ++ B).append L)
      rw [this]
      exact List.perm_middle)
    obtain ⟨x1, C, g, s3, back⟩ := focus hk s2 w
    refine ⟨x1, C ++ (.cl k a vs' :: (A ++ B)), ?_, by rw [List.append_assoc]; exact s3, fun Z' H' z L' hz s' => ?_⟩
    · show (ds[n]?).bind (fun x => getP x p) = _
      rw [e1]; exact g
    · rw [List.append_assoc] at s'
      have s4 := back Z' H' z (.cl k a vs' :: (A ++ B) ++ L') hz s'
      have e3 : setP (.nd true k ds) (n :: p) z = .nd true k (ds.set n (setP x p z)) := by
        show D.nd true k (match ds[n]? with
          | some x => ds.set n (setP x p z)
          | none => ds) = _
        rw [e1]
      rw [e3]
      refine SI.cls (vs := vs') (by rw [List.length_set]; exact lv) ?_
      rw [t2]
      refine s4.perm ?_
      refine (List.Perm.swap _ _ _).trans (List.Perm.cons _ ?_)
      have : A ++ It.tr (setP x p z) y :: B ++ L' = A ++ It.tr (setP x p z) y :: (B ++ L') := by simp
      rw [this]
      have : (A ++ B).append L' = A ++ (B ++ L') := by show (A ++ B) ++ L' = _; rw [List.append_assoc]
      show List.Perm (It.tr (setP x p z) y :: (A ++ B).append L') _
      rw [this]
      exact List.perm_middle.symm
  | n :: p, .tup ds, u, v, L, s, w => by
    obtain ⟨a, vs, x, y, rfl, c, e1, e2, w⟩ := w
    have zh := s.zh
    obtain ⟨a', vs', ea, c', lv, s1⟩ := s.untup
    cases ea
    have := sqT_one hk zh c' c
    subst this
    obtain ⟨A, B, t1, t2⟩ := trs_split lv e1 e2
    rw [t1] at s1
    have s2 : SI K Z H (.tr x y :: ((A ++ B) ++ L)) := s1.perm (by
      have : A ++ It.tr x y :: B ++ L = A ++ It.tr x y :: (B ++ L) := by simp
      rw [this, List.append_assoc]
      exact List.perm_middle)
    obtain ⟨x1, C, g, s3, back⟩ := focus hk s2 w
    refine ⟨x1, C ++ (A ++ B), ?_, by rw [List.append_assoc]; exact s3, fun Z' H' z L' hz s' => ?_⟩
    · show (ds[n]?).bind (fun x => getP x p) = _
      rw [e1]; exact g
    · rw [List.append_assoc] at s'
      have s4 := back Z' H' z ((A ++ B) ++ L') hz s'
      have e3 : setP (.tup ds) (n :: p) z = .tup (ds.set n (setP x p z)) := by
        show D.tup (match ds[n]? with
          | some x => ds.set n (setP x p z)
          | none => ds) = _
        rw [e1]
      rw [e3]
      refine SI.totup (vs := vs') (sqT_mono c' hz) (by rw [List.length_set]; exact lv) ?_
      rw [t2]
      refine s4.perm ?_
      have : A ++ It.tr (setP x p z) y :: B ++ L' = A ++ It.tr (setP x p z) y :: (B ++ L') := by simp
      rw [this, List.append_assoc]
      exact List.perm_middle.symm
  | n :: p, .nd false k ds, u, v, L, s, w => w.elim
  | n :: p, .non, u, v, L, s, w => w.elim
  | n :: p, .bl _, u, v, L, s, w => w.elim
  | n :: p, .int _, u, v, L, s, w => w.elim
  | n :: p, .str _, u, v, L, s, w => w.elim
  | n :: p, .glb _, u, v, L, s, w => w.elim

/-- an owned list at a place: its cell, and the way back -/
theorem at_list (hk : Apart K H) {i : Nat} {p : List Nat} {v : V} {d : D} {ds : List D} (S : Sa K Z H σ ρ T) (a : At K Z H σ ρ i p v) (e : ρ[i]? = some (some d)) (g : getP d p = some (.lst true ds)) :
    ∃ l vs C, v = .ref l ∧ H l = some (.lst vs) ∧ ds.length = vs.length ∧ SI K Z H (.cl .lst l vs :: (trs ds vs ++ (C ++ T))) ∧
      ∀ Z' H' ds' vs' T', Same Z Z' → ds'.length = vs'.length → SI K Z' H' (.cl .lst l vs' :: (trs ds' vs' ++ (C ++ T'))) → Sa K Z' H' σ (ρ.set i (some (setP d p (.lst true ds')))) T' := by
  obtain ⟨d', u, e', hu, w⟩ := a
  rw [e] at e'; cases e'
  obtain ⟨u', hu', S1⟩ := S.take e
  rw [hu] at hu'; cases hu'
  obtain ⟨x, C, g', s1, back⟩ := focus hk S1.front w
  rw [g] at g'; cases g'
  obtain ⟨l, vs, rfl, lv, s2⟩ := s1.opn
  obtain ⟨own, c⟩ := s2.cell
  refine ⟨l, vs, C ++ envL σ (ρ.set i none), rfl, c.1, lv, by rw [List.append_assoc]; exact s2, fun Z' H' ds' vs' T' z l' s' => ?_⟩
  rw [List.append_assoc] at s'
  have s3 := back Z' H' (.lst true ds') _ z (SI.cls l' s')
  have S4 : Sa K Z' H' σ (ρ.set i none) (.tr (setP d p (.lst true ds')) u :: T') := .of_front (S.ok.non i) s3
  have S5 := Sa.put' S4 hu
  rwa [List.set_set] at S5
end
end Tw

set_option maxRecDepth 100000
namespace Tw
open PySem PySem.Spec L2

section
variable {X : Cx} {G : Nat → Addr} {W : WX} {e a b c tg iter o : Expr} {es : List Expr} {pos p apos cpos : Pos} {K : Ct} {Z H : Hp}
/-! ### built-ins of one thing -/
abbrev F1 := D → Option D
def CaF (X : Cx) (G : Nat → Addr) (r : List V → Hp → VK → Prop) (F : F1) : Prop := ∀ Z H x v fx d Q, Same Z H → Rp ⟨X.K, G⟩ Z H x v fx → F x = some d → (∀ w H' Z', Al ⟨X.K, G⟩ Z H Z' H' d w → Q w H') → r [v] H Q
def d1 (F : F1) (f : Env → R Env (D × Env)) : Env → R Env (D × Env) := fun ρ => (f ρ).bind fun q => (oR (F q.1)).bind fun d => .ok (d, q.2)
@[simp] theorem d1_eq (F : F1) (f : Env → R Env (D × Env)) (ρ : Env) : d1 F f ρ = (f ρ).bind fun q => (oR (F q.1)).bind fun d => .ok (d, q.2) := rfl
def g1 (F : F1) (f : Env → Option D) : Env → R Env (D × Env) := fun ρ => (oR (f ρ)).bind fun x => (oR (F x)).bind fun d => .ok (d, ρ)
@[simp] theorem g1_eq (F : F1) (f : Env → Option D) (ρ : Env) : g1 F f ρ = (oR (f ρ)).bind fun x => (oR (F x)).bind fun d => .ok (d, ρ) := rfl
theorem d1_q {F : F1} {b1 : Bool} {f : Env → R Env (D × Env)} (hf : b1 = true → ∀ ρ d ρ', f ρ = .ok (d, ρ') → ρ' = ρ) : b1 = true → ∀ ρ d ρ', d1 F f ρ = .ok (d, ρ') → ρ' = ρ := bindq hf fun p d ρ' e => by
  cases e1 : F p.1 with
  | none => rw [e1] at e; cases e
  | some y => rw [e1] at e; cases e; rfl
theorem g1_q {F : F1} {f : Env → Option D} : true = true → ∀ ρ d ρ', g1 F f ρ = .ok (d, ρ') → ρ' = ρ := fun _ ρ d ρ' e => by
  unfold g1 at e
  cases e0 : f ρ with
  | none => rw [e0] at e; cases e
  | some x =>
    rw [e0] at e
    simp only [oR_some, R.ok_bind] at e
    cases e1 : F x with
    | none => rw [e1] at e; cases e
    | some y => rw [e1] at e; cases e; rfl
theorem run1 {r : List V → Hp → VK → Prop} {F : F1} (hF : CaF X G r F) {b1 : Bool} {f : Env → R Env (D × Env)} (ha : Ev X G W b1 a f) {σ : Sg} {H Z : Hp} {ρ : Env} {T : List It} {Q : VK}
    (S : Sa ⟨X.K, G⟩ Z H σ ρ T) (P : EPost ⟨X.K, G⟩ b1 Z H σ T W Q (d1 F f ρ)) : RunE X a σ H fun x H1 => r [x] H1 Q := by
  refine ha.run σ H Z ρ T _ S ?_
  unfold d1 at P
  cases e1 : f ρ with
  | stuck => rw [e1] at P; exact P
  | exc c fs ρ' => rw [e1] at P; exact P
  | ok q =>
    obtain ⟨x, ρ1⟩ := q
    rw [e1] at P
    simp only [R.ok_bind] at P
    intro v H1 Z1 z1 h1 S1
    cases e2 : F x with
    | none => rw [e2] at P; exact P.elim
    | some d =>
      rw [e2] at P
      obtain ⟨fx, rx⟩ := S1.rp
      exact hF Z1 H1 x v fx d Q S1.si.zh rx e2 fun w H' Z' al => P w H' Z' (z1.trans al.z) (fun hb => (h1 hb).trans al.h) (Al.sa al S1.drop)
theorem run1g {r : List V → Hp → VK → Prop} {F : F1} (hF : CaF X G r F) {f : Env → Option D} (ha : Bo X G a f) {σ : Sg} {H Z : Hp} {ρ : Env} {T : List It} {Q : VK}
    (S : Sa ⟨X.K, G⟩ Z H σ ρ T) (P : EPost ⟨X.K, G⟩ true Z H σ T W Q (g1 F f ρ)) : RunE X a σ H fun x H1 => r [x] H1 Q := by
  unfold g1 at P
  cases e0 : f ρ with
  | none => rw [e0] at P; exact P.elim
  | some x =>
    rw [e0] at P
    simp only [oR_some, R.ok_bind] at P
    refine ha.run σ H Z ρ T _ x S e0 fun v H1 Z1 fx z1 h1 S1 rx => ?_
    cases e2 : F x with
    | none => rw [e2] at P; exact P.elim
    | some d =>
      rw [e2] at P
      exact hF Z1 H1 x v fx d Q S1.si.zh rx e2 fun w H' Z' al => P w H' Z' (z1.trans al.z) (fun _ => h1.trans al.h) (Al.sa al S1)
theorem ev_b1 {id : String} {x : Str} {r : List V → Hp → VK → Prop} {F : F1} (hc : CallR X (.builtin id) r) (hF : CaF X G r F) (hg : Gl X x) (hm : X.mg x = none) (hv : bootBuiltins x = some (.builtin id)) {b1 : Bool} {f : Env → R Env (D × Env)} (ha : Ev X G W b1 a f)
    (hn : x ≠ "__name__" := by decide) (hdb : (x == ("__debug__" : Str)) = false := by decide) (hs : starEach [a] X.env = (false, eval a X.env) :: starEach [] X.env := by rfl) (hpl : (backTo pos (starEach [] X.env)).any (·.1) = false := by rfl) :
    Ev X G W b1 (.Call (.Name x p) [a] [] pos) (d1 F f) :=
  ⟨d1_q ha.q, fun σ H Z ρ T Q S P => toE (pe_callB hc hg hm hv (pa_cons peR pa_nil hs) hn hdb hs hpl) (run1 hF ha S P)⟩
theorem ev_b1G {id : String} {x : Str} {r : List V → Hp → VK → Prop} {F : F1} (hc : CallR X (.builtin id) r) (hF : CaF X G r F) (hg : Gl X x) (hm : X.mg x = none) (hv : bootBuiltins x = some (.builtin id)) {f : Env → Option D} (ha : Bo X G a f)
    (hn : x ≠ "__name__" := by decide) (hdb : (x == ("__debug__" : Str)) = false := by decide) (hs : starEach [a] X.env = (false, eval a X.env) :: starEach [] X.env := by rfl) (hpl : (backTo pos (starEach [] X.env)).any (·.1) = false := by rfl) :
    Ev X G W true (.Call (.Name x p) [a] [] pos) (g1 F f) :=
  ⟨g1_q, fun σ H Z ρ T Q S P => toE (pe_callB hc hg hm hv (pa_cons peR pa_nil hs) hn hdb hs hpl) (run1g hF ha S P)⟩
theorem ev_t1 {id : String} {x : Str} {r : List V → Hp → VK → Prop} {F : F1} (hc : CallR X (.type id) r) (hF : CaF X G r F) (hg : Gl X x) (hm : X.mg x = none) (hv : bootBuiltins x = some (.type id)) {b1 : Bool} {f : Env → R Env (D × Env)} (ha : Ev X G W b1 a f)
    (hn : x ≠ "__name__" := by decide) (hdb : (x == ("__debug__" : Str)) = false := by decide) (hs : starEach [a] X.env = (false, eval a X.env) :: starEach [] X.env := by rfl) (hpl : (backTo pos (starEach [] X.env)).any (·.1) = false := by rfl) :
    Ev X G W b1 (.Call (.Name x p) [a] [] pos) (d1 F f) :=
  ⟨d1_q ha.q, fun σ H Z ρ T Q S P => toE (pe_callTy hc hg hm hv (pa_cons peR pa_nil hs) hn hdb hs hpl) (run1 hF ha S P)⟩
theorem ev_t1G {id : String} {x : Str} {r : List V → Hp → VK → Prop} {F : F1} (hc : CallR X (.type id) r) (hF : CaF X G r F) (hg : Gl X x) (hm : X.mg x = none) (hv : bootBuiltins x = some (.type id)) {f : Env → Option D} (ha : Bo X G a f)
    (hn : x ≠ "__name__" := by decide) (hdb : (x == ("__debug__" : Str)) = false := by decide) (hs : starEach [a] X.env = (false, eval a X.env) :: starEach [] X.env := by rfl) (hpl : (backTo pos (starEach [] X.env)).any (·.1) = false := by rfl) :
    Ev X G W true (.Call (.Name x p) [a] [] pos) (g1 F f) :=
  ⟨g1_q, fun σ H Z ρ T Q S P => toE (pe_callTy hc hg hm hv (pa_cons peR pa_nil hs) hn hdb hs hpl) (run1g hF ha S P)⟩
theorem Rp.lst_any {m : Bool} {ds : List D} {v : V} {fp : List Addr} (zh : Same Z H) (r : Rp K Z H (.lst m ds) v fp) : ∃ a vs f, v = .ref a ∧ H a = some (.lst vs) ∧ Rps K Z H ds vs f := by
  cases m with
  | true => obtain ⟨a, vs, own, fp', rfl, s, r, _⟩ := r; exact ⟨a, vs, fp', rfl, s.1, r⟩
  | false => obtain ⟨a, vs, rfl, ⟨own, s⟩, r, _⟩ := r; exact ⟨a, vs, [], rfl, zh _ _ s.1, r⟩
def lenF : F1
  | .tup ds => some (.int ds.length)
  | .nd false .ro ds => some (.int ds.length)
  | .nd _ .lst ds => some (.int ds.length)
  | .str l => if l.length ≤ lim then some (.int l.length) else none
  | _ => none
theorem caF_len : CaF X G (fun xs H Q => ∃ x n, xs = [x] ∧ LenV X.K x H n ∧ Q (.int n) H) lenF := by
  intro Z H x v fx d Q zh rx e q
  unfold lenF at e
  split at e
  · obtain ⟨a, vs, rfl, s, r⟩ := rx
    cases e
    exact ⟨_, _, rfl, .inr ⟨vs, sqT_mono s zh, r.length⟩, q_int q⟩
  · obtain ⟨a, vs, rfl, s, r, _⟩ := rx
    cases e
    exact ⟨_, _, rfl, .inl ⟨vs, zh.seq s, r.length⟩, q_int q⟩
  · obtain ⟨a, vs, f, rfl, s, r⟩ := rx.lst_any zh
    cases e
    exact ⟨_, _, rfl, .inl ⟨vs, SqL.of s, r.length⟩, q_int q⟩
  · obtain ⟨rfl, rfl⟩ := rx
    split at e
    · rename_i h; cases e
      exact ⟨_, _, rfl, ⟨by rw [mkS_len]; exact lim_of h, (mkS_len _).symm⟩, q_int q⟩
    · cases e
  · cases e
def intF : F1
  | .int i => some (.int i)
  | .bl b => some (.int (if b then 1 else 0))
  | _ => none
theorem caF_int : CaF X G (fun xs H Q => (∃ i, xs = [.int i] ∧ Q (.int i) H) ∨ ∃ k, xs = [.bl k] ∧ Q (.int (if k then 1 else 0)) H) intF := by
  intro Z H x v fx d Q zh rx e q
  unfold intF at e
  split at e
  · obtain ⟨rfl, rfl⟩ := rx; cases e; exact .inl ⟨_, rfl, q_int q⟩
  · obtain ⟨rfl, rfl⟩ := rx; cases e; exact .inr ⟨_, rfl, q_int q⟩
  · cases e
/-- list(xs): a new list of what is frozen -/
def listF : F1
  | .tup ds => if areFrz ds = true then some (.lst true ds) else none
  | .nd false .ro ds => if areFrz ds = true then some (.lst true ds) else none
  | .nd _ .lst ds => if areFrz ds = true then some (.lst true ds) else none
  | _ => none
theorem caF_list : CaF X G (fun xs H Q => ∃ p ys, xs = [.ref p] ∧ (SqL X.K H p ys ∨ SqT X.K H p ys) ∧ ∀ l, H l = none → Q (.ref l) (upd H l (.lst ys))) listF := by
  intro Z H x v fx d Q zh rx e q
  unfold listF at e
  split at e
  · obtain ⟨a, vs, rfl, s, r⟩ := rx
    split at e
    · rename_i h; cases e
      have := r.isFrz h; subst this
      exact ⟨a, vs, rfl, .inr (sqT_mono s zh), fun l hl => q _ _ _ (Al.newL r hl)⟩
    · cases e
  · obtain ⟨a, vs, rfl, s, r, _⟩ := rx
    split at e
    · cases e; exact ⟨a, vs, rfl, .inl (zh.seq s), fun l hl => q _ _ _ (Al.newL r hl)⟩
    · cases e
  · split at e
    · rename_i h; cases e
      obtain ⟨a, vs, rfl, ha, r⟩ := frz_lst zh rx h
      exact ⟨a, vs, rfl, .inl (SqL.of ha), fun l hl => q _ _ _ (Al.newL r hl)⟩
    · cases e
  · cases e
/-- tuple(xs): a list's things in a new tuple, a tuple itself -/
def tupF : F1
  | .tup ds => if areFrz ds = true then some (.tup ds) else none
  | .nd _ .lst ds => if areFrz ds = true then some (.tup ds) else none
  | _ => none
theorem caF_tup : CaF X G (fun xs H Q => ∃ p ys, xs = [.ref p] ∧ ((SqL X.K H p ys ∧ ∀ l, H l = none → Q (.ref l) (upd H l (.tup ys))) ∨ (SqT X.K H p ys ∧ Q (.ref p) H))) tupF := by
  intro Z H x v fx d Q zh rx e q
  unfold tupF at e
  split at e
  · split at e
    · rename_i h; cases e
      have := rx.isFrz (show isFrz (.tup _) = true from h); subst this
      obtain ⟨a, vs, rfl, s, r⟩ := id rx
      exact ⟨a, vs, rfl, .inr ⟨sqT_mono s zh, q _ _ _ (Al.same rx)⟩⟩
    · cases e
  · split at e
    · rename_i h; cases e
      obtain ⟨a, vs, rfl, ha, r⟩ := frz_lst zh rx h
      exact ⟨a, vs, rfl, .inl ⟨SqL.of ha, fun l hl => q _ _ _ (Al.newT zh r hl)⟩⟩
    · cases e
  · cases e
/-! sums, all, any: of lists -/
def asInts : List D → Option (List Int)
  | [] => some []
  | .int i :: r => (asInts r).map (i :: ·)
  | _ => none
def asBls : List D → Option (List Bool)
  | [] => some []
  | .bl i :: r => (asBls r).map (i :: ·)
  | _ => none
theorem asInts_rp : ∀ {ds : List D} {is : List Int} {vs : List V} {fp : List Addr}, asInts ds = some is → Rps K Z H ds vs fp → vs = is.map V.int
  | [], is, vs, fp, e, r => by cases e; exact r.1
  | d :: ds, is, vs, fp, e, r => by
    obtain ⟨v, vs', f1, f2, rfl, rfl, r1, r2⟩ := r
    cases d with
    | int i =>
      unfold asInts at e
      cases e2 : asInts ds with
      | none => rw [e2] at e; cases e
      | some js => rw [e2] at e; cases e; obtain ⟨rfl, _⟩ := r1; rw [asInts_rp e2 r2]; rfl
    | _ => cases e
theorem asBls_rp : ∀ {ds : List D} {is : List Bool} {vs : List V} {fp : List Addr}, asBls ds = some is → Rps K Z H ds vs fp → vs = is.map V.bl
  | [], is, vs, fp, e, r => by cases e; exact r.1
  | d :: ds, is, vs, fp, e, r => by
    obtain ⟨v, vs', f1, f2, rfl, rfl, r1, r2⟩ := r
    cases d with
    | bl i =>
      unfold asBls at e
      cases e2 : asBls ds with
      | none => rw [e2] at e; cases e
      | some js => rw [e2] at e; cases e; obtain ⟨rfl, _⟩ := r1; rw [asBls_rp e2 r2]; rfl
    | _ => cases e
def sumF : F1
  | .nd _ .lst ds => (asInts ds).map fun is => .int is.sum
  | _ => none
def allF : F1
  | .nd _ .lst ds => (asBls ds).map fun is => .bl (is.all id)
  | _ => none
def anyF : F1
  | .nd _ .lst ds => (asBls ds).map fun is => .bl (is.any id)
  | _ => none
theorem caF_sum : CaF X G (rSum X.K) sumF := by
  intro Z H x v fx d Q zh rx e q
  unfold sumF at e
  split at e
  · rename_i m ds
    obtain ⟨a, vs, f, rfl, s, r⟩ := rx.lst_any zh
    cases e2 : asInts ds with
    | none => rw [e2] at e; cases e
    | some is => rw [e2] at e; cases e; exact ⟨a, is, rfl, by rw [← asInts_rp e2 r]; exact SqL.of s, q_int q⟩
  · cases e
theorem caF_all : CaF X G (rAll X.K) allF := by
  intro Z H x v fx d Q zh rx e q
  unfold allF at e
  split at e
  · rename_i m ds
    obtain ⟨a, vs, f, rfl, s, r⟩ := rx.lst_any zh
    cases e2 : asBls ds with
    | none => rw [e2] at e; cases e
    | some is => rw [e2] at e; cases e; exact ⟨a, is, rfl, by rw [← asBls_rp e2 r]; exact SqL.of s, q_bl q⟩
  · cases e
theorem caF_any : CaF X G (rAny X.K) anyF := by
  intro Z H x v fx d Q zh rx e q
  unfold anyF at e
  split at e
  · rename_i m ds
    obtain ⟨a, vs, f, rfl, s, r⟩ := rx.lst_any zh
    cases e2 : asBls ds with
    | none => rw [e2] at e; cases e
    | some is => rw [e2] at e; cases e; exact ⟨a, is, rfl, by rw [← asBls_rp e2 r]; exact SqL.of s, q_bl q⟩
  · cases e
/-! ### max and min of two numbers -/
def CaF2 (X : Cx) (G : Nat → Addr) (r : List V → Hp → VK → Prop) (F : F2) : Prop := OpF X G (fun v u H Q => r [v, u] H Q) F
def maxF : F2
  | .int i, .int j => some (.int (if j > i then j else i))
  | _, _ => none
def minF : F2
  | .int i, .int j => some (.int (if j < i then j else i))
  | _, _ => none
theorem caF_max : CaF2 X G (fun xs H Q => ∃ i j, xs = [.int i, .int j] ∧ Q (.int (if j > i then j else i)) H) maxF := by
  intro Z H x y v u fx fy d Q zh rx ry e q
  unfold maxF at e
  split at e
  · obtain ⟨rfl, rfl⟩ := rx; obtain ⟨rfl, rfl⟩ := ry; cases e; exact ⟨_, _, rfl, q_int q⟩
  · cases e
theorem caF_min : CaF2 X G (fun xs H Q => ∃ i j, xs = [.int i, .int j] ∧ Q (.int (if j < i then j else i)) H) minF := by
  intro Z H x y v u fx fy d Q zh rx ry e q
  unfold minF at e
  split at e
  · obtain ⟨rfl, rfl⟩ := rx; obtain ⟨rfl, rfl⟩ := ry; cases e; exact ⟨_, _, rfl, q_int q⟩
  · cases e
theorem ev_b2 {id : String} {x : Str} {r : List V → Hp → VK → Prop} {F : F2} (hc : CallR X (.builtin id) r) (hF : CaF2 X G r F) (hg : Gl X x) (hm : X.mg x = none) (hv : bootBuiltins x = some (.builtin id)) {b1 b2 : Bool} {f g : Env → R Env (D × Env)} (ha : Ev X G W b1 a f) (hb : Ev X G W b2 b g)
    (hn : x ≠ "__name__" := by decide) (hdb : (x == ("__debug__" : Str)) = false := by decide) (hs : starEach [a, b] X.env = (false, eval a X.env) :: starEach [b] X.env := by rfl) (hs2 : starEach [b] X.env = (false, eval b X.env) :: starEach [] X.env := by rfl) (hpl : (backTo pos (starEach [b] X.env)).any (·.1) = false := by rfl) :
    Ev X G W (b1 && b2) (.Call (.Name x p) [a, b] [] pos) (d2 F f g) :=
  ⟨d2_q ha hb, fun σ H Z ρ T Q S P => toE (pe_callB hc hg hm hv (pa_cons peR (pa_cons peR pa_nil hs2) hs) hn hdb hs hpl) (run2 hF ha hb S P)⟩
/-! ### isinstance against written types -/
def tyD : D → Option String
  | .non => some "NoneType"
  | .bl _ => some "bool"
  | .int _ => some "int"
  | .str _ => some "str"
  | .tup _ => some "tuple"
  | .nd false .ro _ => some "list"
  | .nd _ .lst _ => some "list"
  | _ => none
def isT (ts : List String) (d : D) : Option Bool := (tyD d).map fun t => ts.any fun u => t == u || (t == "bool" && u == "int")
theorem tyX_of {x : D} {v : V} {fx : List Addr} {t : String} (zh : Same Z H) (r : Rp K Z H x v fx) (e : tyD x = some t) : TyX K.K H v (.type t) := by
  cases x with
  | non => obtain ⟨rfl, _⟩ := r; cases e; exact .base .non
  | bl b => obtain ⟨rfl, _⟩ := r; cases e; exact .base (.bl _)
  | int b => obtain ⟨rfl, _⟩ := r; cases e; exact .base (.int _)
  | str b => obtain ⟨rfl, _⟩ := r; cases e; exact .base (.str _)
  | glb _ => cases e
  | tup ds =>
    cases e
    obtain ⟨a, vs, rfl, s, r⟩ := r
    rcases s with (s | ⟨o, s⟩) | ⟨o, its, n, s, c, _⟩
    · exact .base (.tup (zh _ _ s))
    · exact .fTuple (zh _ _ s)
    · exact .kTuple s c
  | nd m k ds =>
    cases k with
    | lst =>
      have : t = "list" := by cases m <;> (cases e; rfl)
      subst this
      obtain ⟨a, vs, f, rfl, s, _⟩ := r.lst_any zh
      exact .base (.lst s)
    | hole => cases m <;> cases e
    | ro =>
      cases m with
      | true => cases e
      | false =>
        cases e
        obtain ⟨a, vs, rfl, s, _⟩ := r
        rcases s with (s | ⟨o, s⟩) | ⟨o, its, n, s, c, _⟩
        · exact .base (.lst (zh _ _ s))
        · exact .base (.frz (zh _ _ s))
        · exact .kList s c
    | dct ks => cases m <;> cases e
    | obj C ns => cases m <;> cases e
end
end Tw

set_option maxRecDepth 100000
namespace Tw
open PySem PySem.Spec L2

section
variable {X : Cx} {G : Nat → Addr} {W : WX} {e a b c tg iter o : Expr} {es : List Expr} {pos p apos cpos : Pos} {K : Ct} {Z H : Hp}
/-! ### isinstance -/
inductive PaTy (X : Cx) : List Expr → List String → Prop where
  | nil : PaTy X [] []
  | cons {x : Str} {q : Pos} {n : String} {es : List Expr} {ns : List String} (h : PE X (.Name x q) (tC (.ty n))) (hs : starEach (.Name x q :: es) X.env = (false, eval (.Name x q) X.env) :: starEach es X.env) (t : PaTy X es ns) : PaTy X (.Name x q :: es) (n :: ns)
theorem PaTy.pa : ∀ {es : List Expr} {ns : List String}, PaTy X es ns → PA X es (fun σ H Q => Q (ns.map V.ty) H)
  | _, _, .nil => pa_nil
  | _, _, .cons h hs t => pa_cons h (PaTy.pa t) hs
def tyNames : List String := ["int", "bool", "str", "list", "tuple"]
theorem kit_all {x : D} {t n : String} (e : tyD x = some t) (hn : n ∈ tyNames) : kitB t n = some (t == n || (t == "bool" && n == "int")) := by
  have ht : t ∈ ["NoneType", "bool", "int", "str", "tuple", "list"] := by
    unfold tyD at e
    split at e <;> (cases e <;> simp)
  unfold tyNames at hn
  simp only [List.mem_cons, List.not_mem_nil, or_false] at ht hn
  rcases ht with rfl | rfl | rfl | rfl | rfl | rfl <;> rcases hn with rfl | rfl | rfl | rfl | rfl <;> decide +kernel
theorem kit_any {x : D} {t : String} (e : tyD x = some t) : ∀ {ns : List String}, (∀ n ∈ ns, n ∈ tyNames) → PySem.W.kitAny K.K (.type t) (ns.map Value.type) = some (ns.any fun u => t == u || (t == "bool" && u == "int"))
  | [], _ => kitAny_nil
  | n :: ns, h => by
    refine kitAny_cons (kit_ty (kit_all e (h n (by simp)))) (fun hb => ?_) (fun hb => ?_)
    · rw [kit_any e fun m hm => h m (List.mem_cons_of_mem _ hm)]
      rw [List.any_cons, hb]; rfl
    · rw [List.any_cons, hb]; rfl
def isF1 (ts : List String) : F1 := fun d => (isT ts d).map D.bl
theorem caF_is1 {n : String} (hn : n ∈ tyNames) : CaF X G (fun vs H Q => rIsi X.K (vs ++ [.ty n]) H Q) (isF1 [n]) := by
  intro Z H x v fx d Q zh rx e q
  unfold isF1 isT at e
  cases e1 : tyD x with
  | none => rw [e1] at e; cases e
  | some t =>
    rw [e1] at e; cases e
    refine ⟨v, .ty n, .type t, .type n, _, rfl, .ty n, tyX_of (K := ⟨X.K, G⟩) zh rx e1, kit_ty (kit_all e1 hn), ?_⟩
    have := q_bl q
    simpa using this
theorem ev_isi {n : String} {x : Str} {q : Pos} (hn : n ∈ tyNames) (hg : Gl X "isinstance") (hm : X.mg "isinstance" = none) (h2 : PE X (.Name x q) (tC (.ty n))) {f : Env → Option D} (ha : Bo X G a f)
    (hs : starEach [a, .Name x q] X.env = (false, eval a X.env) :: starEach [.Name x q] X.env := by rfl) (hs2 : starEach [.Name x q] X.env = (false, eval (.Name x q) X.env) :: starEach [] X.env := by rfl) (hpl : (backTo pos (starEach [.Name x q] X.env)).any (·.1) = false := by rfl) :
    Ev X G W true (.Call (.Name "isinstance" p) [a, .Name x q] [] pos) (g1 (isF1 [n]) f) :=
  ⟨g1_q, fun σ H Z ρ T Q S P => toE (pe_callB call_isi hg hm (by decide +kernel) (pa_cons peR (pa_cons h2 pa_nil hs2) hs) (by decide) (by decide) hs hpl) (run1g (caF_is1 hn) ha S P)⟩
theorem ev_isiT {ns : List String} {ts : List Expr} {k : Nat} {q : Pos} (hn : ∀ n ∈ ns, n ∈ tyNames) (hg : Gl X "isinstance") (hm : X.mg "isinstance" = none) (h2 : PaTy X ts ns) (hl : ns.length ≤ lim) {f : Env → Option D} (ha : Bo X G a f)
    (hs : starEach [a, .Tuple ts k q] X.env = (false, eval a X.env) :: starEach [.Tuple ts k q] X.env := by rfl) (hs2 : starEach [.Tuple ts k q] X.env = (false, eval (.Tuple ts k q) X.env) :: starEach [] X.env := by rfl) (hpl : (backTo pos (starEach [.Tuple ts k q] X.env)).any (·.1) = false := by rfl) :
    Ev X G W true (.Call (.Name "isinstance" p) [a, .Tuple ts k q] [] pos) (g1 (isF1 ns) f) := by
  refine ⟨g1_q, fun σ H Z ρ T Q S P => toE (pe_callB call_isiT hg hm (by decide +kernel) (pa_cons peR (pa_cons (pe_tup h2.pa) pa_nil hs2) hs) (by decide) (by decide) hs hpl) ?_⟩
  unfold g1 at P
  cases e0 : f ρ with
  | none => rw [e0] at P; exact P.elim
  | some x =>
    rw [e0] at P
    simp only [oR_some, R.ok_bind] at P
    refine ha.run σ H Z ρ T _ x S e0 fun v H1 Z1 fx z1 h1 S1 rx => ?_
    refine ⟨by rw [List.length_map]; exact lim_of hl, fun t ht => ?_⟩
    have hsm : Same H1 (upd H1 t (.tup (ns.map V.ty))) := fun b o e => by rw [upd_ne (ne_of_none e ht)]; exact e
    unfold isF1 isT at P
    cases e1 : tyD x with
    | none => rw [e1] at P; exact P.elim
    | some u =>
      rw [e1] at P
      have zh : Same Z1 (upd H1 t (.tup (ns.map V.ty))) := S1.si.zh.trans hsm
      have hp : ∀ ns : List String, Paired ClsV (ns.map V.ty) (ns.map Value.type) := fun ns => by
        induction ns with
        | nil => exact .nil
        | cons n ns ih => exact .cons (.ty n) ih
      refine ⟨v, t, ns.map V.ty, .type u, ns.map Value.type, _, rfl, upd_same, hp ns, tyX_of (K := ⟨X.K, G⟩) zh (rx.keep (Same.refl _) fun b _ o e => hsm b o e) e1, kit_any (K := ⟨X.K, G⟩) e1 hn, ?_⟩
      exact P _ _ Z1 z1 (fun _ => h1.trans hsm) (Al.sa (Al.flat fun _ _ => ⟨rfl, rfl⟩) (S1.same hsm))
/-! ### sep.join(xs) -/
def joinS (S : List Nat) : List (List Nat) → List Nat
  | [] => []
  | [p] => p
  | p :: q :: r => p ++ (S ++ joinS S (q :: r))
def asStrs : List D → Option (List (List Nat))
  | [] => some []
  | .str i :: r => (asStrs r).map (i :: ·)
  | _ => none
theorem asStrs_rp : ∀ {ds : List D} {is : List (List Nat)} {vs : List V} {fp : List Addr}, asStrs ds = some is → Rps K Z H ds vs fp → vs = (is.map mkS).map V.str
  | [], is, vs, fp, e, r => by cases e; exact r.1
  | d :: ds, is, vs, fp, e, r => by
    obtain ⟨v, vs', f1, f2, rfl, rfl, r1, r2⟩ := r
    cases d with
    | str i =>
      unfold asStrs at e
      cases e2 : asStrs ds with
      | none => rw [e2] at e; cases e
      | some js => rw [e2] at e; cases e; obtain ⟨rfl, _⟩ := r1; rw [asStrs_rp e2 r2]; rfl
    | _ => cases e
theorem join_mk (S : List Nat) : ∀ ss : List (List Nat), Txt.join (mkS S) (ss.map mkS) = mkS (joinS S ss) := by
  intro ss
  rw [TL.join_eq]
  induction ss with
  | nil => rfl
  | cons p r ih =>
    cases r with
    | nil => rfl
    | cons q r =>
      show mkS p ++ mkS S ++ Str.join (mkS S) ((q :: r).map mkS) = mkS (p ++ (S ++ joinS S (q :: r)))
      rw [ih, mkS_app, mkS_app, List.append_assoc]
def joinF : F2
  | .str S, .nd _ .lst ds => match asStrs ds with
    | some ss => if (ss.map List.length).sum + ss.length * S.length ≤ lim then some (.str (joinS S ss)) else none
    | none => none
  | _, _ => none
abbrev rJoin (X : Cx) : V → List V → Hp → VK → Prop := fun x xs H Q => ∃ a p, ∃ ys : List Str, x = .str a ∧ xs = [.ref p] ∧ (SqL X.K H p (ys.map V.str) ∨ SqT X.K H p (ys.map V.str)) ∧
    (ys.map (·.length)).sum + ys.length * a.length ≤ 16777216 ∧ Q (.str (Txt.join a ys)) H
theorem opF_join : OpF X G (fun x y H Q => rJoin X x [y] H Q) joinF := by
  intro Z H x y v u fx fy d Q zh rx ry e q
  unfold joinF at e
  split at e
  · rename_i S m ds
    obtain ⟨rfl, rfl⟩ := rx
    obtain ⟨a, vs, f, rfl, s, r⟩ := ry.lst_any zh
    split at e
    · rename_i ss e2
      split at e
      · rename_i h
        cases e
        have ev := asStrs_rp e2 r
        have hl : ((ss.map mkS).map (·.length)).sum = (ss.map List.length).sum := by
          congr 1
          rw [List.map_map]
          apply List.map_congr_left
          intro x _
          exact mkS_len x
        refine ⟨mkS S, a, ss.map mkS, rfl, rfl, .inl (by rw [← ev]; exact SqL.of s), ?_, ?_⟩
        · rw [hl, List.length_map, mkS_len]
          exact Nat.le_trans h (by decide)
        · rw [join_mk]; exact q_str q
      · cases e
    · cases e
  · cases e
/-- a text's method of one argument -/
def dM1 (F : F2) (f g : Env → R Env (D × Env)) : Env → R Env (D × Env) := fun ρ => (f ρ).bind fun p => match p.1 with
  | .str l => (g p.2).bind fun q => (oR (F (.str l) q.1)).bind fun d => .ok (d, q.2)
  | _ => .stuck
@[simp] theorem dM1_eq (F : F2) (f g : Env → R Env (D × Env)) (ρ : Env) : dM1 F f g ρ = (f ρ).bind fun p => match p.1 with
  | .str l => (g p.2).bind fun q => (oR (F (.str l) q.1)).bind fun d => .ok (d, q.2)
  | _ => .stuck := rfl
theorem ev_m1 {id : String} {name : Str} {r : V → List V → Hp → VK → Prop} {F : F2} (slot : Slot "str" name id) (ty : typeOf (.builtin id) = pure (.type "method_descriptor")) (rule : MtR X id r) (hF : OpF X G (fun x y H Q => r x [y] H Q) F)
    {b1 b2 : Bool} {f g : Env → R Env (D × Env)} (ha : Ev X G W b1 o f) (hb : Ev X G W b2 e g) (hs : starEach [e] X.env = [(false, eval e X.env)] := by rfl) (hbase : attributeBase o name X.env (eval o X.env) = eval o X.env := by rfl) (hline : (apos.endLine == pos.line) = true := by rfl) :
    Ev X G W (b1 && b2) (.Call (.Attribute o name apos) [e] [] pos) (dM1 F f g) := by
  refine ⟨fun hq => ?_, fun σ H Z ρ T Q S P => toE (pe_m1 slot ty rule peR peR hs hbase hline) ?_⟩
  · rw [Bool.and_eq_true] at hq
    refine bindq (b1 := b1) ha.q (fun p d ρ' e => ?_) hq.1
    split at e
    · refine bindq (b1 := b2) hb.q (fun q d ρ' e => ?_) hq.2 p.2 d ρ' e
      generalize F (.str _) q.1 = z at e
      cases z with
      | none => cases e
      | some y => cases e; rfl
    · cases e
  refine ha.run σ H Z ρ T _ S ?_
  unfold dM1 at P
  cases e1 : f ρ with
  | stuck => rw [e1] at P; exact P
  | exc c fs ρ' => rw [e1] at P; exact P
  | ok p =>
    obtain ⟨x, ρ1⟩ := p
    rw [e1] at P
    intro v H1 Z1 z1 h1 S1
    simp only [R.ok_bind] at P
    cases x with
    | str l =>
      refine ⟨?_, hb.run σ H1 Z1 ρ1 _ _ S1 ?_⟩
      · obtain ⟨fp, rv, _⟩ := S1.rp
        exact ⟨_, rv⟩
      · simp only at P
        cases e2 : g ρ1 with
        | stuck => rw [e2] at P; exact P
        | exc c fs ρ' => rw [e2] at P; exact XPost.drop (XPost.of P z1)
        | ok p =>
          obtain ⟨y, ρ2⟩ := p
          rw [e2] at P
          intro u H2 Z2 z2 h2 S2
          simp only [R.ok_bind] at P
          cases e3 : F (.str l) y with
          | none => rw [e3] at P; exact P.elim
          | some d =>
            rw [e3] at P
            obtain ⟨fy, ry⟩ := S2.rp
            obtain ⟨fx, rx⟩ := S2.drop.rp
            refine hF Z2 H2 _ y v u fx fy d Q S2.si.zh rx ry e3 fun w H' Z' al => P w H' Z' ((z1.trans z2).trans al.z) (fun hb => ?_) (Al.sa al S2.drop.drop)
            rw [Bool.and_eq_true] at hb
            exact ((h1 hb.1).trans (h2 hb.2)).trans al.h
    | _ => exact P.elim
/-! ### lists changed where they stand -/
abbrev FM := List D → List D → Option (D × List D)
def MuF (X : Cx) (G : Nat → Addr) (r : V → List V → Hp → VK → Prop) (F : FM) : Prop := ∀ Z H l vs ds as us L res ds' Q, H l = some (.lst vs) → ds.length = vs.length → as.length = us.length → SI ⟨X.K, G⟩ Z H (.cl .lst l vs :: (trs ds vs ++ (trs as us ++ L))) → F ds as = some (res, ds') →
  (∀ v vs' H', ds'.length = vs'.length → SI ⟨X.K, G⟩ Z H' (.cl .lst l vs' :: (trs ds' vs' ++ (.tr res v :: L))) → Q v H') → r (.ref l) us H Q
structure Pl (X : Cx) (G : Nat → Addr) (e : Expr) (w : Env → Option (Nat × List Nat)) : Prop where
  run : ∀ σ H Z ρ T Q i q, Sa ⟨X.K, G⟩ Z H σ ρ T → w ρ = some (i, q) → (∀ v H' Z', Same Z Z' → Same H H' → Sa ⟨X.K, G⟩ Z' H' σ ρ T → At ⟨X.K, G⟩ Z' H' σ ρ i q v → Q v H') → RunE X e σ H Q
def pVar (i : Nat) : Env → Option (Nat × List Nat) := fun ρ => (gVar i ρ).map fun _ => (i, [])
@[simp] theorem pVar_eq (i : Nat) (ρ : Env) : pVar i ρ = (gVar i ρ).map fun _ => (i, []) := rfl
theorem pl_var {i : Nat} (h : PE X e (tVar i)) : Pl X G e (pVar i) :=
  ⟨fun σ H Z ρ T Q j q S e0 k => by
    unfold pVar at e0
    cases e1 : gVar i ρ with
    | none => rw [e1] at e0; cases e0
    | some d =>
      rw [e1] at e0; cases e0
      obtain ⟨v, hv⟩ := S.ok.get i d (gVar_some e1)
      exact toE h ⟨v, hv, k v H Z (Same.refl _) (Same.refl _) S ⟨d, v, gVar_some e1, hv, rfl⟩⟩⟩
/-- what stands at a place -/
def atP (ρ : Env) (iq : Nat × List Nat) : Option D := (gVar iq.1 ρ).bind fun d => getP d iq.2
@[simp] theorem atP_eq (ρ : Env) (i : Nat) (q : List Nat) : atP ρ (i, q) = (gVar i ρ).bind fun d => getP d q := rfl
def putP (ρ : Env) (iq : Nat × List Nat) (y : D) : Env := match gVar iq.1 ρ with
  | some d => ρ.set iq.1 (some (setP d iq.2 y))
  | none => ρ
def pIx (w : Env → Option (Nat × List Nat)) (g : Env → Option D) : Env → Option (Nat × List Nat) := fun ρ => (w ρ).bind fun iq => (g ρ).bind fun k => match atP ρ iq, k with
  | some (.nd true .lst ds), .int j => (ixN ds.length j).map fun n => (iq.1, iq.2 ++ [n])
  | some (.tup ds), .int j => (ixN ds.length j).map fun n => (iq.1, iq.2 ++ [n])
  | _, _ => none
@[simp] theorem pIx_eq (w : Env → Option (Nat × List Nat)) (g : Env → Option D) (ρ : Env) : pIx w g ρ = (w ρ).bind fun iq => (g ρ).bind fun k => match atP ρ iq, k with
  | some (.nd true .lst ds), .int j => (ixN ds.length j).map fun n => (iq.1, iq.2 ++ [n])
  | some (.tup ds), .int j => (ixN ds.length j).map fun n => (iq.1, iq.2 ++ [n])
  | _, _ => none := rfl
end
section
variable {K : Ct} {Z H : Hp} {σ : Sg} {ρ : Env} {T L : List It}
theorem apart_of {X : Cx} {G : Nat → Addr} {pins : List (Addr × Obj)} {σ : Sg} {H : Hp} {s : Shared} (I : Inv X pins σ H s) : Apart ⟨X.K, G⟩ H := fun a o e => (I.bs a o (I.mod.kin a o e)).2
/-- the list or tuple at a place, as the machine reads it -/
theorem at_read (hk : Apart K H) {i : Nat} {q : List Nat} {v : V} {x : D} (S : Sa K Z H σ ρ T) (a : At K Z H σ ρ i q v) (e : atP ρ (i, q) = some x) : ∃ d u f, ρ[i]? = some (some d) ∧ σ[i]? = some (some u) ∧ Wk K Z H d u q v ∧ getP d q = some x ∧ Rp K Z H x v f := by
  obtain ⟨d, u, e1, hu, w⟩ := a
  have e2 : gVar i ρ = some d := by unfold gVar; rw [e1]; rfl
  rw [atP_eq, e2] at e
  obtain ⟨u', hu', S1⟩ := S.take e1
  rw [hu] at hu'; cases hu'
  obtain ⟨y, C, g, s, _⟩ := focus hk S1.front w
  have e : getP d q = some x := e
  rw [e] at g; cases g
  obtain ⟨f, r⟩ := s.rp
  exact ⟨d, u, f, e1, hu, w, e, r⟩
end
section
variable {X : Cx} {G : Nat → Addr} {W : WX} {e a b c tg iter o : Expr} {es : List Expr} {pos p apos cpos : Pos} {K : Ct} {Z H : Hp}
theorem RunE.know {σ : Sg} {Q : VK} (h : RunE X e σ H fun v H' => Apart ⟨X.K, G⟩ H' → Q v H') : RunE X e σ H Q := fun pins s I =>
  thn (h pins s I) fun u s' ⟨v, H', I', r, q⟩ => ⟨v, H', I', r, q (apart_of I')⟩
theorem pl_ix {w : Env → Option (Nat × List Nat)} {g : Env → Option D} (ha : Pl X G a w) (hb : Bo X G b g) (hs : PlainIx b) : Pl X G (.Subscript a b pos) (pIx w g) := by
  refine ⟨fun σ H Z ρ T Q i q S e0 k => toE (pe_ix ix_any peR peR hs) ?_⟩
  simp only [pIx_eq, Option.bind_eq_some_iff] at e0
  obtain ⟨iq, e1, y, e2, e3⟩ := e0
  obtain ⟨i0, q0⟩ := iq
  refine ha.run σ H Z ρ T _ i0 q0 S e1 fun v H1 Z1 z1 h1 S1 a1 => ?_
  refine RunE.know (G := G) (hb.run σ H1 Z1 ρ T _ y S1 e2 fun u H2 Z2 fy z2 h2 S2 ry hk => ?_)
  have a2 : At ⟨X.K, G⟩ Z2 H2 σ ρ i0 q0 v := by
    obtain ⟨d, u, x1, x2, x3⟩ := a1
    exact ⟨d, u, x1, x2, x3.keep z2 h2⟩
  have fin : ∀ {x : D} {ds : List D} {j : Int} {n : Nat}, atP ρ (i0, q0) = some x → (x = .lst true ds ∨ x = .tup ds) → ixN ds.length j = some n → y = .int j → (i, q) = (i0, q0 ++ [n]) → rIx X.K v u H2 Q := by
    intro x ds j n ex hx en ey eiq
    subst ey
    cases eiq
    obtain ⟨rfl, rfl⟩ := ry
    obtain ⟨d, vr, f, x1, x2, x3, x4, x5⟩ := at_read hk S2 a2 ex
    have hn := (ixN_seq en).2.1
    rcases hx with rfl | rfl
    · obtain ⟨l, vs, own, fp', rfl, c, r, _⟩ := x5
      have lv := r.length
      have hv : vs[n]? = some (vs[n]'(by omega)) := List.getElem?_eq_getElem _
      refine .inl ⟨l, vs, j, _, rfl, rfl, SqL.of c.1, (by unfold L2.atI; rw [← lv, en]; exact hv), k _ H2 Z2 (z1.trans z2) (h1.trans h2) S2 ⟨d, vr, x1, x2, ?_⟩⟩
      exact Wk.snoc x3 x4 (y := ds[n]) (by show (ds[n]?).bind (fun x => getP x []) = _; rw [List.getElem?_eq_getElem hn]; show getP ds[n] [] = _; cases ds[n] <;> rfl) ⟨l, vs, own, ds[n], _, rfl, c, List.getElem?_eq_getElem hn, hv, rfl⟩
    · obtain ⟨l, vs, rfl, c, r⟩ := x5
      have lv := r.length
      have hv : vs[n]? = some (vs[n]'(by omega)) := List.getElem?_eq_getElem _
      refine .inr (.inl ⟨l, vs, j, _, rfl, rfl, sqT_mono c S2.si.zh, (by unfold L2.atI; rw [← lv, en]; exact hv), k _ H2 Z2 (z1.trans z2) (h1.trans h2) S2 ⟨d, vr, x1, x2, ?_⟩⟩)
      exact Wk.snoc x3 x4 (y := ds[n]) (by show (ds[n]?).bind (fun x => getP x []) = _; rw [List.getElem?_eq_getElem hn]; show getP ds[n] [] = _; cases ds[n] <;> rfl) ⟨l, vs, ds[n], _, rfl, c, List.getElem?_eq_getElem hn, hv, rfl⟩
  split at e3
  · rename_i ds j ex
    cases en : ixN ds.length j with
    | none => rw [en] at e3; cases e3
    | some n => rw [en] at e3; exact .inl (fin ex (.inl rfl) en rfl (Option.some.inj e3).symm)
  · rename_i ds j ex
    cases en : ixN ds.length j with
    | none => rw [en] at e3; cases e3
    | some n => rw [en] at e3; exact .inl (fin ex (.inr rfl) en rfl (Option.some.inj e3).symm)
  · cases e3
/-- xs.m(args), xs an owned list at a place: the arguments change nothing, or xs is a name -/
def mMe (F : FM) (w : Env → Option (Nat × List Nat)) (g : Env → R Env (List Ag × Env)) : Env → R Env (D × Env) := fun ρ => (oR (w ρ)).bind fun iq => match atP ρ iq with
  | some (.nd true .lst _) => (g ρ).bind fun q => match vals q.1, atP q.2 iq with
    | some as, some (.nd true .lst ds) => (oR (F ds as)).bind fun r => .ok (r.1, putP q.2 iq (.lst true r.2))
    | _, _ => .stuck
  | _ => .stuck
@[simp] theorem mMe_eq (F : FM) (w : Env → Option (Nat × List Nat)) (g : Env → R Env (List Ag × Env)) (ρ : Env) : mMe F w g ρ = (oR (w ρ)).bind fun iq => match atP ρ iq with
  | some (.nd true .lst _) => (g ρ).bind fun q => match vals q.1, atP q.2 iq with
    | some as, some (.nd true .lst ds) => (oR (F ds as)).bind fun r => .ok (r.1, putP q.2 iq (.lst true r.2))
    | _, _ => .stuck
  | _ => .stuck := rfl
theorem RunA.know {es : List Expr} {σ : Sg} {Q : List V → Hp → Prop} (h : RunA X es σ H fun v H' => Apart ⟨X.K, G⟩ H' → Q v H') : RunA X es σ H Q := fun pos pins s I =>
  thn (h pos pins s I) fun u s' ⟨v, H', I', r, q⟩ => ⟨v, H', I', r, q (apart_of I')⟩
/-- the end of a method, its arguments being reckoned -/
theorem mMe_end {r : V → List V → Hp → VK → Prop} {F : FM} (hF : MuF X G r F) (hk : Apart ⟨X.K, G⟩ H) {σ : Sg} {ρ : Env} {T L : List It} {i : Nat} {q : List Nat} {v : V} {as : List Ag} {xs ds : List D} {us : List V} {res : D} {ds' : List D} {Q : VK} {Z : Hp}
    (ea : atP ρ (i, q) = some (.lst true ds)) (ev : vals as = some xs) (eF : F ds xs = some (res, ds')) (rL : resA σ as us L) (S : Sa ⟨X.K, G⟩ Z H σ ρ (L ++ T)) (a : At ⟨X.K, G⟩ Z H σ ρ i q v)
    (P : ∀ w H' Z', Same Z Z' → Sa ⟨X.K, G⟩ Z' H' σ (putP ρ (i, q) (.lst true ds')) (.tr res w :: T) → Q w H') : r v us H Q := by
  obtain ⟨rfl, lx⟩ := resA_vals rL ev
  obtain ⟨d, u, f, x1, x2, x3, x4, x5⟩ := at_read hk S a ea
  obtain ⟨l, vs, C, rfl, hl, lv, s, back⟩ := at_list hk S a x1 x4
  refine hF Z H l vs ds xs us (C ++ T) res ds' Q hl lv lx (s.perm ?_) eF fun w vs' H' lv' s' => ?_
  · refine List.Perm.cons _ (List.Perm.append_left _ ?_)
    rw [← List.append_assoc, ← List.append_assoc]
    exact List.perm_append_comm.append_right T
  · have hp : putP ρ (i, q) (.lst true ds') = ρ.set i (some (setP d q (.lst true ds'))) := by
      unfold putP
      have : gVar i ρ = some d := by unfold gVar; rw [x1]; rfl
      simp only [this]
    refine P w H' Z (Same.refl _) ?_
    rw [hp]
    refine back Z H' ds' vs' (.tr res w :: T) (Same.refl _) lv' (s'.perm ?_)
    refine List.Perm.cons _ (List.Perm.append_left _ ?_)
    exact (List.perm_middle (a := It.tr res w)).symm
theorem ev_me {id : String} {name : Str} {r : V → List V → Hp → VK → Prop} {F : FM} (slot : Slot "list" name id) (ty : typeOf (.builtin id) = pure (.type "method_descriptor")) (hm : MtR X id r) (hF : MuF X G r F)
    {w : Env → Option (Nat × List Nat)} {b1 : Bool} {g : Env → R Env (List Ag × Env)} (ho : Pl X G o w) (ha : Ax X G W b1 (e :: es) g) (hq : b1 = true ∨ ∀ ρ i q, w ρ = some (i, q) → q = [])
    (hbase : attributeBase o name X.env (eval o X.env) = eval o X.env := by rfl)
    (hfew : ((backTo cpos (starEach (e :: es) X.env)).all (fun x => !x.1) && (backToKw cpos (keywordEach [] X.env)).all (fun x => x.1.isSome)
      && decide ((e :: es).length + ([] : List Keyword).length + (if ([] : List Keyword).isEmpty then 0 else 1) < 30)) = true := by rfl)
    (hline : (apos.endLine == cpos.line) = true := by rfl) (hs : starEach (e :: es) X.env = (false, eval e X.env) :: starEach es X.env := by rfl) (hplain : (backTo cpos (starEach es X.env)).any (·.1) = false := by rfl) :
    Ev X G W false (.Call (.Attribute o name apos) (e :: es) [] cpos) (mMe F w g) := by
  refine ⟨fun z => (Bool.false_ne_true z).elim, fun σ H Z ρ T Q S P => toE (pe_bm PySem.F.plainAttrs_list slot ty hm peR paR hbase hfew hline hs hplain) ?_⟩
  unfold mMe at P
  cases e0 : w ρ with
  | none => rw [e0] at P; exact P.elim
  | some iq =>
    obtain ⟨i, q⟩ := iq
    rw [e0] at P
    simp only [oR_some, R.ok_bind] at P
    cases ea : atP ρ (i, q) with
    | none => rw [ea] at P; exact P.elim
    | some x =>
      rw [ea] at P
      split at P
      · rename_i ds0 hx
        cases hx
        refine RunE.know (G := G) (ho.run σ H Z ρ T _ i q S e0 fun v H1 Z1 z1 h1 S1 a1 hk1 => ?_)
        obtain ⟨d, u, f, x1, x2, x3, x4, x5⟩ := at_read hk1 S1 a1 ea
        refine ⟨?_, ?_⟩
        · obtain ⟨l, vs, own, fp', rfl, c, _⟩ := x5
          exact .inl ⟨rfl, vs, SqL.of c.1⟩
        · refine RunA.know (G := G) (ha.run σ H1 Z1 ρ T _ S1 ?_)
          cases e1 : g ρ with
          | stuck => rw [e1] at P; exact P
          | exc c fs ρ' => rw [e1] at P; exact XPost.of P z1
          | ok qq =>
            obtain ⟨as, ρ2⟩ := qq
            rw [e1] at P
            simp only [R.ok_bind] at P
            intro us L H2 Z2 z2 h2 rL S2 hk2
            have a2 : At ⟨X.K, G⟩ Z2 H2 σ ρ2 i q v := by
              rcases hq with hb | hp
              · rw [ha.q hb _ _ _ e1]
                exact ⟨d, u, x1, x2, x3.keep z2 (h2 hb)⟩
              · have := hp ρ i q e0
                subst this
                split at P
                · rename_i as' ds _ ev
                  have : ∃ d2, ρ2[i]? = some (some d2) := by
                    have ev : atP ρ2 (i, []) = some (.lst true ds) := ev
                    rw [atP_eq] at ev
                    cases e4 : gVar i ρ2 with
                    | none => rw [e4] at ev; cases ev
                    | some d2 => exact ⟨d2, gVar_some e4⟩
                  obtain ⟨d2, e4⟩ := this
                  have e5 : v = u := x3
                  exact ⟨d2, u, e4, x2, e5⟩
                · exact P.elim
            split at P
            · rename_i as' ds ev ea2
              cases e3 : F ds as' with
              | none => rw [e3] at P; exact P.elim
              | some rr =>
                obtain ⟨res, ds'⟩ := rr
                rw [e3] at P
                exact mMe_end hF hk2 ea2 ev e3 rL S2 a2 fun w' H' Z' z' S' => P w' H' Z' ((z1.trans z2).trans z') (fun z => (Bool.false_ne_true z).elim) S'
            · exact P.elim
      · exact P.elim
theorem ev_me0 {id : String} {name : Str} {r : V → List V → Hp → VK → Prop} {F : FM} (slot : Slot "list" name id) (ty : typeOf (.builtin id) = pure (.type "method_descriptor")) (hm : MtR X id r) (hF : MuF X G r F)
    {w : Env → Option (Nat × List Nat)} (ho : Pl X G o w) (hbase : attributeBase o name X.env (eval o X.env) = eval o X.env := by rfl) (hline : (apos.endLine == cpos.line) = true := by rfl) :
    Ev X G W false (.Call (.Attribute o name apos) [] [] cpos) (mMe F w aNil) := by
  refine ⟨fun z => (Bool.false_ne_true z).elim, fun σ H Z ρ T Q S P => toE (pe_bm0 PySem.F.plainAttrs_list slot ty hm peR hbase hline) ?_⟩
  unfold mMe at P
  cases e0 : w ρ with
  | none => rw [e0] at P; exact P.elim
  | some iq =>
    obtain ⟨i, q⟩ := iq
    rw [e0] at P
    simp only [oR_some, R.ok_bind, aNil_eq] at P
    cases ea : atP ρ (i, q) with
    | none => rw [ea] at P; exact P.elim
    | some x =>
      rw [ea] at P
      split at P
      · rename_i ds0 hx
        cases hx
        refine RunE.know (G := G) (ho.run σ H Z ρ T _ i q S e0 fun v H1 Z1 z1 h1 S1 a1 hk1 => ?_)
        obtain ⟨d, u, f, x1, x2, x3, x4, x5⟩ := at_read hk1 S1 a1 ea
        refine ⟨?_, ?_⟩
        · obtain ⟨l, vs, own, fp', rfl, c, _⟩ := x5
          exact .inl ⟨rfl, vs, SqL.of c.1⟩
        · simp only [vals] at P
          cases e3 : F ds0 [] with
          | none => rw [e3] at P; exact P.elim
          | some rr =>
            obtain ⟨res, ds'⟩ := rr
            rw [e3] at P
            exact mMe_end (as := []) (L := []) hF hk1 ea rfl e3 rfl S1 a1 fun w' H' Z' z' S' => P w' H' Z' (z1.trans z') (fun z => (Bool.false_ne_true z).elim) S'
      · exact P.elim
end
end Tw

set_option maxRecDepth 100000
namespace Tw
open PySem PySem.Spec L2
section
variable {X : Cx} {G : Nat → Addr} {W : WX} {e a b c tg iter o : Expr} {es : List Expr} {pos p apos cpos : Pos} {K : Ct} {Z H : Hp} {fx : List Nat}
def appM : FM := fun ds as => match as with
  | [x] => if ds.length < lim then some (.non, ds ++ [x]) else none
  | _ => none
theorem muF_app : MuF X G rAppend appM := by
  intro Z H l vs ds as us L res ds' Q hl lv la s e q
  unfold appM at e
  split at e
  · rename_i x
    split at e
    · rename_i hlt
      cases e
      cases us with
      | nil => cases la
      | cons u us =>
        cases us with
        | cons _ _ => cases la
        | nil =>
          refine ⟨l, vs, u, rfl, rfl, hl, lim_lt (by rw [← lv]; exact hlt), q .non (vs ++ [u]) _ (by simp [lv]) ?_⟩
          have s2 := s.write (o := .lst (vs ++ [u])) (k' := .lst) (vs' := vs ++ [u]) fun own c => ⟨upd_same, c.2⟩
          have s3 : SI ⟨X.K, G⟩ Z (upd H l (.lst (vs ++ [u]))) (.tr .non .non :: (.cl .lst l (vs ++ [u]) :: (trs ds vs ++ (trs [x] [u] ++ L)))) := s2.add (d := .non) (v := .non) ⟨rfl, rfl⟩
          refine s3.perm ?_
          refine (List.Perm.swap _ _ _).trans (List.Perm.cons _ ?_)
          rw [trs_app lv, List.append_assoc]
          have : (It.tr .non .non :: (trs ds vs ++ (trs [x] [u] ++ L))).Perm (trs ds vs ++ (It.tr .non .non :: (trs [x] [u] ++ L))) := (List.perm_middle (a := It.tr .non .non)).symm
          refine this.trans (List.Perm.append_left _ ?_)
          exact List.Perm.swap _ _ _
    · cases e
  · cases e
def extM : FM := fun ds as => match as with
  | [.nd m .lst xs] => if ds.length + xs.length ≤ lim then some (.non, ds ++ xs) else none
  | _ => none
theorem muF_ext : MuF X G rExtend extM := by
  intro Z H l vs ds as us L res ds' Q hl lv la s e q
  unfold extM at e
  split at e
  · rename_i m xs
    split at e
    · rename_i hlt
      cases e
      cases us with
      | nil => cases la
      | cons u us =>
        cases us with
        | cons _ _ => cases la
        | nil =>
          have s1 : SI ⟨X.K, G⟩ Z H (.tr (.nd m .lst xs) u :: (.cl .lst l vs :: (trs ds vs ++ L))) := s.perm (by
            refine (List.Perm.cons _ (List.perm_middle (a := It.tr (.nd m .lst xs) u))).trans ?_
            exact List.Perm.swap _ _ _)
          have key : ∃ b ws, u = .ref b ∧ H b = some (.lst ws) ∧ xs.length = ws.length ∧ SI ⟨X.K, G⟩ Z H (trs xs ws ++ (.cl .lst l vs :: (trs ds vs ++ L))) := by
            cases m with
            | true =>
              obtain ⟨b, ws, rfl, lw, s2⟩ := s1.opn
              obtain ⟨own, c⟩ := s2.cell
              exact ⟨b, ws, rfl, c.1, lw, s2.drop⟩
            | false =>
              obtain ⟨f, r⟩ := s1.rp
              obtain ⟨b, ws, rfl, ⟨own, c⟩, r, _⟩ := r
              exact ⟨b, ws, rfl, s1.zh _ _ c.1, r.length, s1.drop.addL r⟩
          obtain ⟨b, ws, rfl, hb, lw, s2⟩ := key
          refine ⟨l, b, vs, ws, rfl, rfl, hl, hb, lim_of (by rw [← lv, ← lw]; exact hlt), q .non (vs ++ ws) _ (by simp [lv, lw]) ?_⟩
          have s3 : SI ⟨X.K, G⟩ Z H (.cl .lst l vs :: (trs ds vs ++ (trs xs ws ++ L))) := s2.perm (by
            refine (List.perm_middle (a := It.cl .lst l vs)).trans (List.Perm.cons _ ?_)
            rw [← List.append_assoc, ← List.append_assoc]
            exact List.perm_append_comm.append_right L)
          have s4 := s3.write (o := .lst (vs ++ ws)) (k' := .lst) (vs' := vs ++ ws) fun own c => ⟨upd_same, c.2⟩
          refine (s4.add (d := .non) (v := .non) ⟨rfl, rfl⟩).perm ?_
          refine (List.Perm.swap _ _ _).trans (List.Perm.cons _ ?_)
          rw [trs_app lv]
          have e5 : trs ds vs ++ (trs xs ws ++ L) = (trs ds vs ++ trs xs ws) ++ L := by rw [List.append_assoc]
          rw [e5]
          exact (List.perm_middle (a := It.tr .non .non)).symm
    · cases e
  · cases e
theorem trs_last {ds : List D} {vs : List V} {x : D} {w : V} (l : ds.length = vs.length) (e1 : ds[ds.length - 1]? = some x) (e2 : vs[vs.length - 1]? = some w) : trs ds vs = trs ds.dropLast vs.dropLast ++ [.tr x w] := by
  have gl : ∀ {α : Type} {l : List α} {x : α}, l[l.length - 1]? = some x → l = l.dropLast ++ [x] := by
    intro α l x h
    cases l with
    | nil => cases h
    | cons d r =>
      have h2 := List.dropLast_concat_getLast (List.cons_ne_nil d r)
      have h3 : (d :: r).getLast (List.cons_ne_nil d r) = x := by
        rw [List.getLast_eq_getElem]
        have := List.getElem?_eq_some_iff.mp h
        exact this.2
      rw [h3] at h2
      exact h2.symm
  have a1 := gl e1
  have a2 := gl e2
  have l' : ds.dropLast.length = vs.dropLast.length := by simp [l]
  calc trs ds vs = trs (ds.dropLast ++ [x]) (vs.dropLast ++ [w]) := by rw [← a1, ← a2]
    _ = _ := by rw [trs_app l']; rfl
def popM : FM := fun ds as => match as with
  | [] => (ds[ds.length - 1]?).map fun x => (x, ds.dropLast)
  | _ => none
theorem muF_pop : MuF X G rPop popM := by
  intro Z H l vs ds as us L res ds' Q hl lv la s e q
  unfold popM at e
  split at e
  · cases us with
    | cons _ _ => cases la
    | nil =>
      cases e1 : ds[ds.length - 1]? with
      | none => rw [e1] at e; cases e
      | some x =>
        rw [e1] at e; cases e
        have hlt := (List.getElem?_eq_some_iff.mp e1).1
        have e2 : vs[vs.length - 1]? = some (vs[vs.length - 1]'(by omega)) := List.getElem?_eq_getElem _
        refine ⟨l, vs, _, rfl, rfl, hl, e2, q _ vs.dropLast _ (by simp [lv]) ?_⟩
        have s2 := s.write (o := .lst vs.dropLast) (k' := .lst) (vs' := vs.dropLast) fun own c => ⟨upd_same, c.2⟩
        refine s2.perm (List.Perm.cons _ ?_)
        rw [trs_last lv e1 e2, List.append_assoc]
        exact List.Perm.refl _
  · cases e
def popAtM : FM := fun ds as => match as with
  | [.int i] => if -(2 ^ 63) ≤ i ∧ i < 2 ^ 63 then match ixN ds.length i with
    | some n => (ds[n]?).map fun x => (x, ds.eraseIdx n)
    | none => none
    else none
  | _ => none
theorem trs_erase : ∀ {ds : List D} {vs : List V} {n : Nat} {x : D} {w : V}, ds.length = vs.length → ds[n]? = some x → vs[n]? = some w → (trs ds vs).Perm (trs (ds.eraseIdx n) (vs.eraseIdx n) ++ [.tr x w])
  | [], _, _, _, _, _, h, _ => by simp at h
  | d :: ds, [], _, _, _, l, _, _ => by cases l
  | d :: ds, v :: vs, 0, x, w, l, h, h' => by
    simp at h h'; subst h; subst h'
    exact (List.perm_append_comm (l₁ := [It.tr d v]))
  | d :: ds, v :: vs, n + 1, x, w, l, h, h' => by
    exact (trs_erase (ds := ds) (vs := vs) (n := n) (by simpa using l) (by simpa using h) (by simpa using h')).cons _
theorem muF_popAt : MuF X G rPopAt popAtM := by
  intro Z H l vs ds as us L res ds' Q hl lv la s e q
  unfold popAtM at e
  split at e
  · rename_i i
    split at e
    · rename_i hi
      cases us with
      | nil => cases la
      | cons u us =>
        cases us with
        | cons _ _ => cases la
        | nil =>
          cases en : ixN ds.length i with
          | none => rw [en] at e; cases e
          | some n =>
            rw [en] at e
            simp only at e
            cases e1 : ds[n]? with
            | none => rw [e1] at e; cases e
            | some x =>
              rw [e1] at e; cases e
              obtain ⟨hs, hlt, _, _⟩ := ixN_seq en
              have e2 : vs[n]? = some (vs[n]'(by omega)) := List.getElem?_eq_getElem _
              have hu : u = .int i := by
                obtain ⟨f, r⟩ := (s.perm (L' := .tr (.int i) u :: (.cl .lst l vs :: (trs ds vs ++ L))) (by
                  refine (List.Perm.cons _ (List.perm_middle (a := It.tr (.int i) u))).trans ?_
                  exact List.Perm.swap _ _ _)).rp
                exact r.1
              subst hu
              refine ⟨l, vs, i, n, _, rfl, rfl, hl, hi.1, hi.2, by rw [← lv]; exact hs, e2, q _ (vs.eraseIdx n) _ (by rw [List.length_eraseIdx, List.length_eraseIdx, lv]) ?_⟩
              have s2 := s.write (o := .lst (vs.eraseIdx n)) (k' := .lst) (vs' := vs.eraseIdx n) fun own c => ⟨upd_same, c.2⟩
              have s3 : SI ⟨X.K, G⟩ Z (upd H l (.lst (vs.eraseIdx n))) (.cl .lst l (vs.eraseIdx n) :: (trs (ds.eraseIdx n) (vs.eraseIdx n) ++ (.tr res (vs[n]'(by omega)) :: (trs [.int i] [.int i] ++ L)))) := s2.perm (by
                refine List.Perm.cons _ ?_
                have p1 := (trs_erase lv e1 e2).append_right (trs [.int i] [.int i] ++ L)
                rw [List.append_assoc] at p1
                exact p1)
              refine (s3.perm (L' := .tr (.int i) (.int i) :: (.cl .lst l (vs.eraseIdx n) :: (trs (ds.eraseIdx n) (vs.eraseIdx n) ++ (.tr res (vs[n]'(by omega)) :: L)))) ?_).drop
              refine (List.Perm.cons _ (List.Perm.append_left _ (List.Perm.swap _ _ _))).trans ?_
              refine (List.Perm.cons _ (List.perm_middle (a := It.tr (.int i) (.int i)))).trans ?_
              exact List.Perm.swap _ _ _
    · cases e
  · cases e
/-! xs[i] = e -/
def wSub (w : Env → Option (Nat × List Nat)) (g : Env → Option D) : D → Env → Option Env := fun x ρ => (w ρ).bind fun iq => (g ρ).bind fun k => match atP ρ iq, k with
  | some (.nd true .lst ds), .int j => (ixN ds.length j).map fun n => putP ρ iq (.lst true (ds.set n x))
  | _, _ => none
@[simp] theorem wSub_eq (w : Env → Option (Nat × List Nat)) (g : Env → Option D) (x : D) (ρ : Env) : wSub w g x ρ = (w ρ).bind fun iq => (g ρ).bind fun k => match atP ρ iq, k with
  | some (.nd true .lst ds), .int j => (ixN ds.length j).map fun n => putP ρ iq (.lst true (ds.set n x))
  | _, _ => none := rfl
theorem trs_set : ∀ {ds : List D} {vs : List V} {n : Nat} {x : D} {w : V} {y : D} {u : V}, ds.length = vs.length → ds[n]? = some x → vs[n]? = some w → (It.tr y u :: trs ds vs).Perm (.tr x w :: trs (ds.set n y) (vs.set n u))
  | [], _, _, _, _, _, _, _, h, _ => by simp at h
  | d :: ds, [], _, _, _, _, _, l, _, _ => by cases l
  | d :: ds, v :: vs, 0, x, w, y, u, l, h, h' => by
    simp at h h'; subst h; subst h'
    exact List.Perm.swap _ _ _
  | d :: ds, v :: vs, n + 1, x, w, y, u, l, h, h' => by
    have ih := trs_set (ds := ds) (vs := vs) (n := n) (y := y) (u := u) (by simpa using l) (by simpa using h) (by simpa using h')
    show (It.tr y u :: It.tr d v :: trs ds vs).Perm (.tr x w :: It.tr d v :: trs (ds.set n y) (vs.set n u))
    exact (List.Perm.swap _ _ _).trans ((ih.cons _).trans (List.Perm.swap _ _ _))
/-- a target that may change what stands -/
structure TgW (X : Cx) (G : Nat → Addr) (fx : List Nat) (tg : Expr) (w : D → Env → Option Env) : Prop where
  run : ∀ σ H Z ρ T d v ρ' (Q : Sg → Hp → Prop), Sa ⟨X.K, G⟩ Z H σ ρ (.tr d v :: T) → w d ρ = some ρ' → (∀ σ' H' Z', Same Z Z' → Fx fx σ σ' → Sa ⟨X.K, G⟩ Z' H' σ' ρ' T → Q σ' H') →
    ∀ pins s u, Inv X pins σ H s → RelV v u → wpAny (model X.prog X.w) X.A (assign tg X.env u) (fun _ s' => ∃ σ' H', Inv X pins σ' H' s' ∧ Q σ' H') X.xe s
theorem pgW {w : D → Env → Option Env} (h : TgW X G fx tg w) : PG X tg (fun v σ H Q => ∃ Z ρ T d ρ', Sa ⟨X.K, G⟩ Z H σ ρ (.tr d v :: T) ∧ w d ρ = some ρ' ∧ ∀ σ' H' Z', Same Z Z' → Fx fx σ σ' → Sa ⟨X.K, G⟩ Z' H' σ' ρ' T → Q σ' H') :=
  ⟨fun pins s σ H v u Q I r ⟨Z, ρ, T, d, ρ', S, e, q⟩ => h.run σ H Z ρ T d v ρ' Q S e q pins s u I r⟩
theorem sx_asgW {b1 : Bool} {f : Env → R Env (D × Env)} {w : D → Env → Option Env} (he : Ev X G W b1 e f) (hg : TgW X G fx tg w) (hs : swapsWithSole [tg] e pos.line X.env = pure false := by rfl) (hw : swappedStores [tg] e X.env = pure none := by rfl)
    (h1 : (assignEach [tg] X.env).map (·.2) = [assign tg X.env] := by rfl) : Sx X G W fx (.Assign [tg] e pos) (sAsg f w) := by
  refine ⟨fun σ H Z ρ T D S P => toS (ps_asg peR (pgW hg) hs hw h1) (he.run σ H Z ρ T _ S ?_)⟩
  unfold sAsg at P
  cases e1 : f ρ with
  | stuck => rw [e1] at P; exact P
  | exc c fs ρ' => rw [e1] at P; exact YPost.x P
  | ok p =>
    obtain ⟨d, ρ1⟩ := p
    rw [e1] at P
    simp only [R.ok_bind] at P
    intro v H1 Z1 z1 h1 S1
    cases e2 : w d ρ1 with
    | none => rw [e2] at P; exact P.elim
    | some ρ2 =>
      rw [e2] at P
      exact ⟨Z1, ρ1, T, d, ρ2, S1, e2, fun σ' H' Z' z' f' S' => P σ' H' Z' (z1.trans z') f' S'⟩
theorem tg_sub {w : Env → Option (Nat × List Nat)} {g : Env → Option D} (ho : Pl X G a w) (hi : Bo X G b g)
    (ha : ∀ v, assign (.Subscript a b pos) X.env v = (do
      let ov ← holding [v] (eval a X.env)
      let iv ← holding [v, ov] (eval b X.env)
      standAt pos
      holding [v, ov, iv] (setItem ov iv v)
      release [v, ov, iv] []) := by intro _; rfl) : TgW X G fx (.Subscript a b pos) (wSub w g) := by
  refine ⟨fun σ H Z ρ T x v ρ' Q S e0 k pins s u I r => (pg_sub peR peR set_list ha).run pins s σ H v u Q I r ?_⟩
  simp only [wSub_eq, Option.bind_eq_some_iff] at e0
  obtain ⟨iq, e1, y, e2, e3⟩ := e0
  obtain ⟨i, q⟩ := iq
  refine ho.run σ H Z ρ (.tr x v :: T) _ i q S e1 fun o H1 Z1 z1 h1 S1 a1 => ?_
  refine RunE.know (G := G) (hi.run σ H1 Z1 ρ (.tr x v :: T) _ y S1 e2 fun k' H2 Z2 fy z2 h2 S2 ry hk => ?_)
  split at e3
  · rename_i ds j ex
    cases en : ixN ds.length j with
    | none => rw [en] at e3; cases e3
    | some n =>
      rw [en] at e3; cases e3
      obtain ⟨rfl, rfl⟩ := ry
      have a2 : At ⟨X.K, G⟩ Z2 H2 σ ρ i q o := by
        obtain ⟨d, u, x1, x2, x3⟩ := a1
        exact ⟨d, u, x1, x2, x3.keep z2 h2⟩
      obtain ⟨d, vr, f, x1, x2, x3, x4, x5⟩ := at_read hk S2 a2 ex
      obtain ⟨l, vs, C, rfl, hl, lv, s, back⟩ := at_list hk S2 a2 x1 x4
      have hn := (ixN_seq en).2.1
      have hv : vs[n]? = some (vs[n]'(by omega)) := List.getElem?_eq_getElem _
      refine ⟨l, vs, j, n, rfl, rfl, hl, by rw [← lv]; exact en, ?_⟩
      have hp : putP ρ (i, q) (.lst true (ds.set n x)) = ρ.set i (some (setP d q (.lst true (ds.set n x)))) := by
        unfold putP
        have : gVar i ρ = some d := by unfold gVar; rw [x1]; rfl
        simp only [this]
      simp only at k
      rw [hp] at k
      refine k σ _ Z2 (z1.trans z2) .refl (back Z2 _ (ds.set n x) (vs.set n v) T (Same.refl _) (by simp [lv]) ?_)
      have s2 := s.write (o := .lst (vs.set n v)) (k' := .lst) (vs' := vs.set n v) fun own c => ⟨upd_same, c.2⟩
      have p1 : (trs ds vs ++ (C ++ .tr x v :: T)).Perm (.tr x v :: trs ds vs ++ (C ++ T)) := by
        refine (List.Perm.append_left _ (List.perm_middle (a := It.tr x v))).trans ?_
        exact List.perm_middle
      have p2 : (.tr x v :: trs ds vs ++ (C ++ T)).Perm (.tr ds[n] (vs[n]'(by omega)) :: trs (ds.set n x) (vs.set n v) ++ (C ++ T)) :=
        (trs_set lv (List.getElem?_eq_getElem hn) hv).append_right _
      have s3 := s2.perm (((p1.trans p2).cons _).trans (List.Perm.swap _ _ _))
      exact s3.drop
  · cases e3
/-! x += e -/
def IpF (X : Cx) (G : Nat → Addr) (r : TIp) (F : F2) : Prop := OpF X G r F
def sAug (i : Nat) (F : F2) (f : Env → R Env (D × Env)) : Env → R Env Out := fun ρ => (oR (gVar i ρ)).bind fun x => if flatD x = true then (f ρ).bind fun q => (oR (F x q.1)).bind fun d => .ok (.nx (q.2.set i (some d))) else .stuck
@[simp] theorem sAug_eq (i : Nat) (F : F2) (f : Env → R Env (D × Env)) (ρ : Env) : sAug i F f ρ = (oR (gVar i ρ)).bind fun x => if flatD x = true then (f ρ).bind fun q => (oR (F x q.1)).bind fun d => .ok (.nx (q.2.set i (some d))) else .stuck := rfl
theorem flat_frz {x : D} (h : flatD x = true) : isFrz x = true := by
  rcases flat_shape h with rfl | ⟨b, rfl⟩ | ⟨b, rfl⟩ | ⟨b, rfl⟩ <;> rfl
theorem sx_aug {i : Nat} {x : Str} {pos' : Pos} {op : Operator} {r : TIp} {F : F2} {b1 : Bool} {f : Env → R Env (D × Env)} (hN : X.N.Nodup) (hi : X.N[i]? = some x) (hx : Loc X.env.scope x) (hF : i ∉ fx) (he : Ev X G W b1 e f) (ho : PIp X op r) (hO : IpF X G r F)
    (hf : X.fn x = true ∨ X.env.scope.names.lookup x = some .local := by first | exact .inl rfl | exact .inr rfl | assumption) : Sx X G W fx (.AugAssign (.Name x pos') op e pos) (sAug i F f) := by
  refine ⟨fun σ H Z ρ T D S P pins s I => (ps_aug hN hi hx peR ho hf).run pins s σ H D I ?_⟩
  have hl : i < σ.length := by rw [I.len]; exact (List.getElem?_eq_some_iff.mp hi).1
  unfold sAug at P
  cases e0 : gVar i ρ with
  | none => rw [e0] at P; exact P.elim
  | some y =>
    rw [e0] at P
    simp only [oR_some, R.ok_bind] at P
    split at P
    · rename_i hfl
      obtain ⟨v, fv, hv, rv⟩ := S.view (gVar_some e0)
      have := rv.isFrz (flat_frz hfl)
      subst this
      refine ⟨v, hv, he.run σ H Z ρ T _ S ?_⟩
      cases e1 : f ρ with
      | stuck => rw [e1] at P; exact P
      | exc c fs ρ' => rw [e1] at P; exact YPost.x P
      | ok q =>
        obtain ⟨d, ρ1⟩ := q
        rw [e1] at P
        simp only [R.ok_bind] at P
        intro u H1 Z1 z1 h1 S1
        cases e2 : F y d with
        | none => rw [e2] at P; exact P.elim
        | some z =>
          rw [e2] at P
          obtain ⟨fu, ru⟩ := S1.rp
          refine hO Z1 H1 y d v u [] fu z _ S1.si.zh (rv.keep z1 fun b hb => by simp at hb) ru e2 fun w H' Z' al => ?_
          exact P _ H' Z' (z1.trans al.z) (.set hF) ((Al.sa al S1.drop).put hl)
    · exact P.elim
def ipAddF : F2
  | .int i, .int j => some (.int (i + j))
  | _, _ => none
theorem ipF_add : IpF X G (ipI fun i j => i + j) ipAddF := by
  intro Z H x y v u fx fy d Q zh rx ry e q
  unfold ipAddF at e
  split at e
  · obtain ⟨rfl, rfl⟩ := rx; obtain ⟨rfl, rfl⟩ := ry; cases e; exact ⟨_, _, rfl, rfl, q_int q⟩
  · cases e
theorem ipF_sub : IpF X G (ipI fun i j => i - j) subF := by
  intro Z H x y v u fx fy d Q zh rx ry e q
  unfold subF at e
  split at e
  · obtain ⟨rfl, rfl⟩ := rx; obtain ⟨rfl, rfl⟩ := ry; cases e; exact ⟨_, _, rfl, rfl, q_int q⟩
  · cases e
end
end Tw

set_option maxRecDepth 100000
namespace Tw
open PySem PySem.Spec L2
section
variable {X : Cx} {G : Nat → Addr} {W : WX} {e a b c tg iter o : Expr} {es elts : List Expr} {pos p apos cpos tpos : Pos} {kk : Nat} {K : Ct} {Z H : Hp} {fx : List Nat}
theorem blkO (O : XOk X W) (s : Shared) (H : Hp) {scope : Scope} (C : Addr) (cl : List (Str × Addr)) (fp : List Addr) : XOk (X.blk s H scope (compEnvC scope cl C X.env) fp) W0 :=
  ⟨O.calm, O.nd, fun u s' ⟨_, _, _, _, _, _, _, _, _, _, _, _, _, _, _, _, w⟩ => w.elim, PassesOwn.never⟩
theorem pv_nil {i : Nat} {ρ : Env} {j : Nat} {q : List Nat} (h : pVar i ρ = some (j, q)) : q = [] := by
  unfold pVar at h
  cases e : gVar i ρ with
  | none => rw [e] at h; cases h
  | some d => rw [e] at h; cases h; rfl
abbrev fuel : Nat := 1000000
theorem lstOf {d : D} {v : V} {fp : List Addr} {ds : List D} (z : Same Z H) (r : Rp K Z H (frz d) v fp) (e : frz d = .lst false ds ∨ frz d = .nd false .ro ds) : ∃ a vs, v = .ref a ∧ SqL K.K Z a vs ∧ Rps K Z H ds vs [] := by
  rcases e with e | e
  · rw [e] at r
    obtain ⟨a, vs, rfl, ⟨own, s⟩, r, _⟩ := r
    exact ⟨a, vs, rfl, SqL.of s.1, r⟩
  · rw [e] at r
    obtain ⟨a, vs, rfl, s, r, _⟩ := r
    exact ⟨a, vs, rfl, s, r⟩
def lstD : D → Option (List D)
  | .nd false .lst ds => some ds
  | .nd false .ro ds => some ds
  | _ => none
theorem lstD_of {d : D} {ds : List D} (h : lstD (frz d) = some ds) : frz d = .lst false ds ∨ frz d = .nd false .ro ds := by
  unfold lstD at h
  split at h
  · rename_i e; cases h; exact .inl e
  · rename_i e; cases h; exact .inr e
  · cases h
def enuL : Nat → List D → List D
  | _, [] => []
  | i, d :: ds => .tup [.int i, d] :: enuL (i + 1) ds
theorem enuL_len : ∀ {ds : List D} {i : Nat}, (enuL i ds).length = ds.length
  | [], _ => rfl
  | d :: ds, i => by show (enuL (i + 1) ds).length + 1 = _; rw [enuL_len]; rfl
theorem enuL_get : ∀ {ds : List D} {i j : Nat}, (enuL i ds)[j]? = (ds[j]?).map fun d => D.tup [.int (i + j : Nat), d]
  | [], _, _ => by simp [enuL]
  | d :: ds, i, 0 => rfl
  | d :: ds, i, j + 1 => by
    show (enuL (i + 1) ds)[j]? = _
    rw [enuL_get]
    simp only [List.getElem?_cons_succ]
    rw [show i + 1 + j = i + (j + 1) by omega]
theorem itr_enum {a' : Addr} {ds : List D} {vs : List V} (s : SqL K.K Z a' vs) (r : Rps K Z H ds vs []) : Itr K Z (Ite K.K a') (enuL 0 ds) where
  frz := fun d hd => by
    obtain ⟨j, hj⟩ := List.mem_iff_getElem?.mp hd
    rw [enuL_get] at hj
    cases e : ds[j]? with
    | none => rw [e] at hj; cases hj
    | some x =>
      rw [e] at hj; cases hj
      show (true && (isFrz x && true)) = true
      rw [r.frz_all x (List.mem_of_getElem? e)]; rfl
  stop := fun Z' H' z zh => ⟨vs, (z.trans zh).seq s, by rw [enuL_len, r.length]; exact Nat.le_refl _⟩
  go := fun i hi Z' H' z zh => ⟨vs, vs[i]'(by rw [← r.length, ← enuL_len (ds := ds) (i := 0)]; exact hi), (z.trans zh).seq s, List.getElem?_eq_getElem _⟩
  yld := fun i d e Z' H' x H2 z zh hy => by
    obtain ⟨T, y, rfl, hT, rfl, hx⟩ := hy
    rw [enuL_get] at e
    cases e2 : ds[i]? with
    | none => rw [e2] at e; cases e
    | some d0 =>
      rw [e2] at e; cases e
      obtain ⟨v, ev, rv⟩ := r.at0 e2
      have := hx vs ((z.trans zh).seq s)
      rw [ev] at this; cases this
      have rv' : Rp K Z' H' d0 _ [] := rv.keep z fun b hb => by simp at hb
      exact ⟨_, Al.newT (ds := [.int ((0 + i : Nat) : Int), d0]) zh ⟨.int (i : Nat), [_], [], [], rfl, rfl, ⟨by rw [Nat.zero_add], rfl⟩, _, [], [], [], rfl, rfl, rv', rfl, rfl⟩ hT⟩
def zipL : List D → List D → List D
  | x :: xs, y :: ys => .tup [x, y] :: zipL xs ys
  | _, _ => []
theorem zipL_len : ∀ {xs ys : List D}, (zipL xs ys).length = min xs.length ys.length
  | [], _ => by simp [zipL]
  | _ :: _, [] => by simp [zipL]
  | x :: xs, y :: ys => by show (zipL xs ys).length + 1 = _; rw [zipL_len]; simp
theorem zipL_get : ∀ {xs ys : List D} {j : Nat} {d : D}, (zipL xs ys)[j]? = some d → ∃ x y, xs[j]? = some x ∧ ys[j]? = some y ∧ d = .tup [x, y]
  | [], _, _, _, h => by simp [zipL] at h
  | _ :: _, [], _, _, h => by simp [zipL] at h
  | x :: xs, y :: ys, 0, d, h => by simp [zipL] at h; exact ⟨x, y, rfl, rfl, h.symm⟩
  | x :: xs, y :: ys, j + 1, d, h => zipL_get (xs := xs) (ys := ys) (j := j) h
theorem itr_zip {a' b' : Addr} {ds es : List D} {vs ws : List V} (s : SqL K.K Z a' vs) (r : Rps K Z H ds vs []) (s2 : SqL K.K Z b' ws) (r2 : Rps K Z H es ws []) : Itr K Z (Itz K.K a' b') (zipL ds es) where
  frz := fun d hd => by
    obtain ⟨j, hj⟩ := List.mem_iff_getElem?.mp hd
    obtain ⟨x, y, ex, ey, rfl⟩ := zipL_get hj
    show (isFrz x && (isFrz y && true)) = true
    rw [r.frz_all x (List.mem_of_getElem? ex), r2.frz_all y (List.mem_of_getElem? ey)]; rfl
  stop := fun Z' H' z zh => ⟨vs, ws, (z.trans zh).seq s, (z.trans zh).seq s2, by rw [zipL_len, ← r.length, ← r2.length]; omega⟩
  go := fun i hi Z' H' z zh => by
    rw [zipL_len, r.length, r2.length] at hi
    exact ⟨vs, ws, vs[i]'(by omega), ws[i]'(by omega), (z.trans zh).seq s, (z.trans zh).seq s2, List.getElem?_eq_getElem _, List.getElem?_eq_getElem _⟩
  yld := fun i d e Z' H' x H2 z zh hy => by
    obtain ⟨T, u, w, rfl, hT, rfl, hx, hw⟩ := hy
    obtain ⟨x, y, ex, ey, rfl⟩ := zipL_get e
    obtain ⟨v, ev, rv⟩ := r.at0 ex
    obtain ⟨v2, ev2, rv2⟩ := r2.at0 ey
    have h1 := hx vs ((z.trans zh).seq s)
    rw [ev] at h1; cases h1
    have h2 := hw ws ((z.trans zh).seq s2)
    rw [ev2] at h2; cases h2
    have rv' : Rp K Z' H' x _ [] := rv.keep z fun b hb => by simp at hb
    have rv2' : Rp K Z' H' y _ [] := rv2.keep z fun b hb => by simp at hb
    exact ⟨_, Al.newT (ds := [x, y]) zh ⟨_, [_], [], [], rfl, rfl, rv', _, [], [], [], rfl, rfl, rv2', rfl, rfl⟩ hT⟩
def iEnu (g : Env → R Env (List Ag × Env)) : Env → R Env (List D × Env) := fun ρ => (g ρ).bind fun q => match q.1 with
  | [.v x] => (oR (lstD (frz x))).bind fun ds => .ok (enuL 0 ds, q.2)
  | _ => .stuck
@[simp] theorem iEnu_eq (g : Env → R Env (List Ag × Env)) (ρ : Env) : iEnu g ρ = (g ρ).bind fun q => match q.1 with
  | [.v x] => (oR (lstD (frz x))).bind fun ds => .ok (enuL 0 ds, q.2)
  | _ => .stuck := rfl
def iZp (g : Env → R Env (List Ag × Env)) : Env → R Env (List D × Env) := fun ρ => (g ρ).bind fun q => match q.1 with
  | [.v x, .v y] => (oR (lstD (frz x))).bind fun ds => (oR (lstD (frz y))).bind fun es => .ok (zipL ds es, q.2)
  | _ => .stuck
@[simp] theorem iZp_eq (g : Env → R Env (List Ag × Env)) (ρ : Env) : iZp g ρ = (g ρ).bind fun q => match q.1 with
  | [.v x, .v y] => (oR (lstD (frz x))).bind fun ds => (oR (lstD (frz y))).bind fun es => .ok (zipL ds es, q.2)
  | _ => .stuck := rfl
theorem ix_enum {b1 : Bool} {g : Env → R Env (List Ag × Env)} (hg : Gl X "enumerate") (hm : X.mg "enumerate" = none) (ha : Ax X G W b1 [a] g) (hs : starEach [a] X.env = [(false, eval a X.env)] := by rfl) : Ix X G W b1 (.Tuple elts kk tpos) (.Call (.Name "enumerate" p) [a] [] pos) (iEnu g) := by
  refine ⟨bindq ha.q fun p d ρ' e => ?_, fun σ H Z ρ T Q S P => toI (pi_enum hg hm paR hs) (ha.run σ H Z ρ T _ S ?_)⟩
  · split at e
    · rename_i x _
      cases e1 : lstD (frz x) with
      | none => rw [e1] at e; cases e
      | some y => rw [e1] at e; cases e; rfl
    · cases e
  unfold iEnu at P
  cases e1 : g ρ with
  | stuck => rw [e1] at P; exact P
  | exc c fs ρ' => rw [e1] at P; exact P
  | ok r =>
    obtain ⟨as, ρ1⟩ := r
    rw [e1] at P
    simp only [R.ok_bind] at P
    intro vs L H1 Z1 z1 h1 rL S1
    split at P
    · rename_i x
      cases e2 : lstD (frz x) with
      | none => rw [e2] at P; exact P.elim
      | some ds =>
        rw [e2] at P
        cases vs with
        | nil => exact rL.elim
        | cons v vs =>
          obtain ⟨L', rfl, rL⟩ := rL
          cases vs with
          | cons _ _ => exact rL.elim
          | nil =>
            cases rL
            obtain ⟨Z2, z2, S2⟩ := S1.freeze
            obtain ⟨fp, rv⟩ := S2.rp
            obtain ⟨l, ws, rfl, s, r⟩ := lstOf S2.si.zh rv (lstD_of e2)
            exact ⟨l, ws, rfl, S2.si.zh.seq s, P _ H1 Z2 (z1.trans z2) h1 S2.drop (itr_enum s r)⟩
    · exact P.elim
theorem ix_zip {b1 : Bool} {g : Env → R Env (List Ag × Env)} (hg : Gl X "zip") (hm : X.mg "zip" = none) (ha : Ax X G W b1 [a, b] g) (hs : starEach [a, b] X.env = (false, eval a X.env) :: starEach [b] X.env := by rfl) (hpl : (backTo pos (starEach [b] X.env)).any (·.1) = false := by rfl) :
    Ix X G W b1 (.Tuple elts kk tpos) (.Call (.Name "zip" p) [a, b] [] pos) (iZp g) := by
  refine ⟨bindq ha.q fun p d ρ' e => ?_, fun σ H Z ρ T Q S P => toI (pi_zip hg hm paR hs hpl) (ha.run σ H Z ρ T _ S ?_)⟩
  · split at e
    · rename_i x y _
      cases e1 : lstD (frz x) with
      | none => rw [e1] at e; cases e
      | some ds =>
        rw [e1] at e
        simp only [oR_some, R.ok_bind] at e
        cases e2 : lstD (frz y) with
        | none => rw [e2] at e; cases e
        | some es => rw [e2] at e; cases e; rfl
    · cases e
  unfold iZp at P
  cases e1 : g ρ with
  | stuck => rw [e1] at P; exact P
  | exc c fs ρ' => rw [e1] at P; exact P
  | ok r =>
    obtain ⟨as, ρ1⟩ := r
    rw [e1] at P
    simp only [R.ok_bind] at P
    intro vs L H1 Z1 z1 h1 rL S1
    split at P
    · rename_i x y
      cases e2 : lstD (frz x) with
      | none => rw [e2] at P; exact P.elim
      | some ds =>
        rw [e2] at P
        simp only [oR_some, R.ok_bind] at P
        cases e3 : lstD (frz y) with
        | none => rw [e3] at P; exact P.elim
        | some es =>
          rw [e3] at P
          cases vs with
          | nil => exact rL.elim
          | cons v vs =>
            obtain ⟨L', rfl, rL⟩ := rL
            cases vs with
            | nil => exact rL.elim
            | cons u vs =>
              obtain ⟨L2, rfl, rL⟩ := rL
              cases vs with
              | cons _ _ => exact rL.elim
              | nil =>
                cases rL
                obtain ⟨Z2, z2, S2⟩ := S1.freeze
                obtain ⟨Z3, z3, S3⟩ := (S2.perm (List.Perm.swap _ _ _)).freeze
                obtain ⟨f1, r1⟩ := S3.rp
                obtain ⟨f2, r2⟩ := S3.drop.rp
                obtain ⟨l2, ws2, rfl, s2, q2⟩ := lstOf S3.si.zh r1 (lstD_of e3)
                obtain ⟨l1, ws1, rfl, s1, q1⟩ := lstOf S3.si.zh r2 (lstD_of e2)
                exact ⟨l1, l2, ws1, ws2, rfl, S3.si.zh.seq s1, S3.si.zh.seq s2, P _ H1 Z3 ((z1.trans z2).trans z3) h1 S3.drop.drop (itr_zip s1 q1 s2 q2)⟩
    · exact P.elim
end
end Tw

set_option maxRecDepth 100000
namespace Tw
open PySem PySem.Spec L2
theorem nin {i : Nat} {l : List Nat} (h : decide (i ∈ l) = false) : i ∉ l := of_decide_eq_false h
theorem XOk.q {X : Cx} {W : WX} (O : XOk X W) : XOk X W0 := ⟨O.calm, O.nd, fun u s' ⟨_, _, _, _, _, _, _, _, _, _, _, _, _, _, _, _, w⟩ => w.elim, O.po⟩
section
variable {P : Program} {w : World} {K : PySem.W.Frag} {mg : Str → Option Value} {base : Heap} {G : Nat → Addr}
def noF : List D → FR := fun _ => .stuck
theorem fn_none {CX : CXT} {k : Nat} {f : Addr} {fd : FuncData} {ps : List Str} {m : List Bool} : FnOk P w K mg base CX k f fd ps (spT ⟨K, G⟩ m noF) :=
  ⟨fun _ _ _ _ ⟨_, _, _, _, _, _, h⟩ => h.elim, fun _ _ _ _ _ _ _ _ _ _ _ _ _ ⟨_, _, _, _, _, _, h⟩ => h.elim⟩
theorem Fk.of {f : Addr} {fd : FuncData} {ps : List Str} {k : Nat} {x : Str} {m : List Bool} {F : List D → FR} (h : FnOk P w K mg base (L2.CX P w) k f fd ps (spT ⟨K, G⟩ m F)) (hm : mg x = some (.ref f)) (hk : PySem.W.keepIn K (.ref f) = true) (hb : Binds K fd ps []) :
    Fk P w ⟨K, G⟩ mg base k x m [] F := ⟨f, fd, ps, [], [], h, hm, hk, hb, .nil, fun _ _ => ⟨rfl, rfl⟩⟩
/-- a def of the module: no default stands -/
structure DefOk (K : PySem.W.Frag) (mg : Str → Option Value) (x : Str) (st : Stmt) (ps : List Str) : Prop where
  ex : ∃ (f : Addr) (fd : FuncData), Fun K x x st f fd ∧ mg x = some (.ref f) ∧ PySem.W.keepIn K (.ref f) = true ∧ ∀ us : List Value, us.length = ps.length → bindArgs fd ⟨us, []⟩ = pure (ps.zip us)
theorem dfn {h : Heap} {x : Str} {st : Stmt} {ps : List Str} {f : Addr} {oc : Value} {od an : Option Addr} {osl : Array (Option Value)} {kV doc pm cdv ct : Value} (X : K.In h) (Gm : h.Ns mainGlobals mg)
    (a : PySem.W.nsIn K mainGlobals x = some (some (.ref f)))
    (l : K.lookup f = some ⟨oc, od, .func (PySem.W.fnOf x x (defArgs st) (defBody st) (defScope st) .none kV doc pm an cdv ct), osl⟩)
    (c : PySem.W.codeIn K cdv x = true) (k : PySem.W.keepIn K (.ref f) = true)
    (hb : ∀ (kV doc pm : Value) (an : Option Addr) (cdv ct : Value) (us : List Value), us.length = ps.length → bindArgs (PySem.W.fnOf x x (defArgs st) (defBody st) (defScope st) .none kV doc pm an cdv ct) ⟨us, []⟩ = pure (ps.zip us)) : DefOk K mg x st ps :=
  ⟨f, _, fun_mk l c k, PySem.W.mg_of X Gm a, k, hb kV doc pm an cdv ct⟩
end
theorem walkT {l : PySem.W.OpenLaw} {q : Program} {loose : List Str} {XP : (Str → Option Value) → Heap → Prop} {YP : World → Heap → Prop} {d : DefRec} {K : Params → PySem.W.Frag} {n k : Nat} {x : Str} {FL : List D → FR} {G : Params → Nat → Addr} (hn : l.most = some n) (hn2 : n ≤ sizeLine) (hdf : d.params.defaults = []) (hr : Room k callerA) (h0 : ∀ p, G p 0 = 0)
    (hY : ∀ (w : World) (h : Heap), YP w h → (K w.params).In h)
    (hF : ∀ ns : List Int, ns.length ≤ n → FL [.nd false .ro (ns.map .int)] = .ok (.bl true, []))
    (F : ∀ (w : World) (mg : Str → Option Value) (fa : Addr) (h : Heap), (K w.params).In h → h.Ns mainGlobals mg → mg d.name = some (.ref fa) →
      ∃ fd : FuncData, (∀ (s : Shared) (u : Value), BindsTo s fd ⟨[u], []⟩ [(x, u)]) ∧ ∀ base : Heap, (K w.params).In base → base.Ns mainGlobals mg → FnOk l.prog w (K w.params) mg base (L2.CX l.prog w) k fa fd [x] (spT ⟨K w.params, G w.params⟩ [false] FL)) :
    PySem.W.WalkO q loose XP YP l.row.toRowW d [] (fun f vs => PySem.call f vs) := by
  refine L2.walk_of (n := n) (k := k) (x := x) (CX := fun w => L2.CX l.prog w) (sp := fun w => spT ⟨K w.params, G w.params⟩ [false] FL) hn hn2 hdf hr hY F (fun w H a ns hl hO hS => ?_) fun w H s e s' z => ?_
  · refine ⟨H, [.nd false .ro (ns.map .int)], [], rfl, rfl, ?_, ?_⟩
    · refine ⟨Same.refl H, [], ?_, List.nodup_nil, fun _ h => by cases h⟩
      refine ⟨[], [], rfl, ⟨a, ns.map V.int, rfl, hS, ?_, rfl⟩, Eq.mpr (congrArg (fun L => Fp ⟨K w.params, G w.params⟩ H H L []) (show ((trs [] []).append []).append (tabs ⟨K w.params, G w.params⟩) = [] from if_pos (h0 _))) rfl⟩
      clear hl hS
      induction ns with
      | nil => exact ⟨rfl, rfl⟩
      | cons i ns ih => exact ⟨.int i, ns.map V.int, [], [], rfl, rfl, ⟨rfl, rfl⟩, ih⟩
    · show FPost _ _ _ _ _ _ _ (FL [.nd false .ro (ns.map .int)])
      rw [hF ns hl]
      intro v H' Z' _ _ S
      obtain ⟨_, ⟨fp, ⟨f1, f2, _, rp, _⟩, _⟩⟩ := S
      exact rp.1
  · obtain ⟨_, _, _, _, _, _, _, _, _, _, _, _, h⟩ := z
    exact h
end Tw

set_option maxRecDepth 100000
namespace Tw
open PySem PySem.Spec L2
/-! ### reckoning by what is wanted -/
inductive Tag {α : Type} (Q : α) : Type | mk
abbrev XQ (ε : Type) := Nat → List D → ε → Prop
def Wp {ε α : Type} (x : R ε α) (Q : α → Prop) (E : XQ ε) (_ : Tag Q) (_ : Tag E) : Prop := match x with | .ok a => Q a | .exc c fs e => E c fs e | .stuck => False
def Op {α : Type} (x : Option α) (Q : α → Prop) (_ : Tag Q) : Prop := match x with | some a => Q a | none => False
def Br (b : Bool) (P Q : Prop) (_ : Tag P) (_ : Tag Q) : Prop := if b = true then P else Q
def Gd (c P : Prop) (_ : Tag P) : Prop := c ∧ P
def OnB (d : D) (Q : Bool → Prop) (_ : Tag Q) : Prop := match d with | .bl b => Q b | _ => False
def OnI (d : D) (Q : Int → Prop) (_ : Tag Q) : Prop := match d with | .int b => Q b | _ => False
def OnL (o : Option D) (Q : List D → Prop) (_ : Tag Q) : Prop := match o with | some (.nd true .lst ds) => Q ds | _ => False
def OnS (d : D) (Q : List Nat → Prop) (_ : Tag Q) : Prop := match d with | .str b => Q b | _ => False
abbrev Never {ε : Type} : XQ ε := fun _ _ _ => False
/-- a thing that is to be reckoned first -/
def Nm {α : Type} (x : α) (Q : α → Prop) (_ : Tag Q) : Prop := Q x
/-- what is wanted of a statement's end -/
def Thn (nx bk ct : Env → Prop) (rt : D → Env → Prop) : Out → Prop
  | .nx ρ => nx ρ | .bk ρ => bk ρ | .ct ρ => ct ρ | .rt d ρ => rt d ρ
section
variable {ε α β : Type}
theorem wp_ok (a : α) (Q : α → Prop) (E : XQ ε) (t : Tag Q) (u : Tag E) : Wp (.ok a) Q E t u = Q a := propext ⟨fun h => h, fun h => h⟩
theorem wp_exc (c : Nat) (fs : List D) (e : ε) (Q : α → Prop) (E : XQ ε) (t : Tag Q) (u : Tag E) : Wp (.exc c fs e) Q E t u = E c fs e := propext ⟨fun h => h, fun h => h⟩
theorem wp_stuck (Q : α → Prop) (E : XQ ε) (t : Tag Q) (u : Tag E) : Wp .stuck Q E t u = False := propext ⟨fun h => h, fun h => h⟩
theorem wp_bind (x : R ε α) (f : α → R ε β) (Q : β → Prop) (E : XQ ε) (t : Tag Q) (u : Tag E) : Wp (x.bind f) Q E t u = Wp x (fun a => Wp (f a) Q E .mk .mk) E .mk .mk := by cases x <;> rfl
theorem wp_oR (x : Option α) (Q : α → Prop) (E : XQ ε) (t : Tag Q) (u : Tag E) : Wp (oR x) Q E t u = Op x Q .mk := by cases x <;> rfl
theorem op_some (a : α) (Q : α → Prop) (t : Tag Q) : Op (some a) Q t = Q a := propext ⟨fun h => h, fun h => h⟩
theorem op_none (Q : α → Prop) (t : Tag Q) : Op none Q t = False := propext ⟨fun h => h, fun h => h⟩
theorem op_bind (x : Option α) (f : α → Option β) (Q : β → Prop) (t : Tag Q) : Op (x.bind f) Q t = Op x (fun a => Op (f a) Q .mk) .mk := by cases x <;> rfl
theorem op_map (x : Option α) (f : α → β) (Q : β → Prop) (t : Tag Q) : Op (x.map f) Q t = Op x (fun a => Q (f a)) .mk := by cases x <;> rfl
theorem wp_cg {x : R ε α} {Q Q' : α → Prop} {E : XQ ε} {t : Tag Q} {u : Tag E} {t' : Tag Q'} {u' : Tag E} (h : ∀ a, Q a = Q' a) : Wp x Q E t u = Wp x Q' E t' u' := by
  cases x with
  | ok a => exact h a
  | _ => rfl
theorem op_cg {x : Option α} {Q Q' : α → Prop} {t : Tag Q} {t' : Tag Q'} (h : ∀ a, Q a = Q' a) : Op x Q t = Op x Q' t' := by
  cases x with
  | some a => exact h a
  | none => rfl
theorem br_true (P Q : Prop) (t : Tag P) (u : Tag Q) : Br true P Q t u = P := propext ⟨fun h => h, fun h => h⟩
theorem br_false (P Q : Prop) (t : Tag P) (u : Tag Q) : Br false P Q t u = Q := propext ⟨fun h => h, fun h => h⟩
theorem br_t {b : Bool} (h : b = true) (P Q : Prop) (t : Tag P) (u : Tag Q) : Br b P Q t u = P := by subst h; rfl
theorem br_f {b : Bool} (h : b = false) (P Q : Prop) (t : Tag P) (u : Tag Q) : Br b P Q t u = Q := by subst h; rfl
theorem br_pos {c : Prop} [Decidable c] (h : c) (P Q : Prop) (t : Tag P) (u : Tag Q) : Br (decide c) P Q t u = P := by rw [decide_eq_true h]; rfl
theorem br_neg {c : Prop} [Decidable c] (h : ¬ c) (P Q : Prop) (t : Tag P) (u : Tag Q) : Br (decide c) P Q t u = Q := by rw [decide_eq_false h]; rfl
theorem br_not (b : Bool) (P Q : Prop) (t : Tag P) (u : Tag Q) : Br (!b) P Q t u = Br b Q P .mk .mk := by cases b <;> rfl
theorem br_split {b : Bool} {P Q : Prop} {t : Tag P} {u : Tag Q} (h : b = true → P) (h' : b = false → Q) : Br b P Q t u := by cases b; exact h' rfl; exact h rfl
theorem br_if {c : Prop} [Decidable c] {P Q : Prop} {t : Tag P} {u : Tag Q} (h : c → P) (h' : ¬ c → Q) : Br (decide c) P Q t u := br_split (fun e => h (of_decide_eq_true e)) fun e => h' (of_decide_eq_false e)
theorem gd_true (P : Prop) (t : Tag P) : Gd True P t = P := propext ⟨fun x => x.2, fun x => ⟨trivial, x⟩⟩
theorem gd_of {c : Prop} (h : c) (P : Prop) (t : Tag P) : Gd c P t = P := propext ⟨fun x => x.2, fun x => ⟨h, x⟩⟩
theorem gd_and (a b P : Prop) (t : Tag P) : Gd (a ∧ b) P t = Gd a (Gd b P .mk) .mk := propext ⟨fun ⟨⟨x, y⟩, z⟩ => ⟨x, y, z⟩, fun ⟨x, y, z⟩ => ⟨⟨x, y⟩, z⟩⟩
theorem onB_bl (b : Bool) (Q : Bool → Prop) (t : Tag Q) : OnB (.bl b) Q t = Q b := propext ⟨fun h => h, fun h => h⟩
theorem onI_int (b : Int) (Q : Int → Prop) (t : Tag Q) : OnI (.int b) Q t = Q b := propext ⟨fun h => h, fun h => h⟩
theorem onS_str (b : List Nat) (Q : List Nat → Prop) (t : Tag Q) : OnS (.str b) Q t = Q b := rfl
theorem onL_lst (ds : List D) (Q : List D → Prop) (t : Tag Q) : OnL (some (.nd true .lst ds)) Q t = Q ds := propext ⟨fun h => h, fun h => h⟩
theorem Wp.mono {x : R ε α} {Q Q' : α → Prop} {E E' : XQ ε} {t : Tag Q} {u : Tag E} {t' : Tag Q'} {u' : Tag E'} (h : Wp x Q E t u) (k : ∀ a, Q a → Q' a) (k' : ∀ c fs e, E c fs e → E' c fs e) : Wp x Q' E' t' u' := by
  cases x with
  | ok a => exact k a h
  | exc c fs e => exact k' c fs e h
  | stuck => exact h
theorem Op.mono {x : Option α} {Q Q' : α → Prop} {t : Tag Q} {t' : Tag Q'} (h : Op x Q t) (k : ∀ a, Q a → Q' a) : Op x Q' t' := by
  cases x with
  | some a => exact k a h
  | none => exact h
theorem Op.of {x : Option α} {a : α} {Q : α → Prop} {t : Tag Q} (h : x = some a) (q : Q a) : Op x Q t := by subst h; exact q
theorem Wp.of {x : R ε α} {a : α} {Q : α → Prop} {E : XQ ε} {t : Tag Q} {u : Tag E} (h : x = .ok a) (q : Q a) : Wp x Q E t u := by subst h; exact q
/-- what is known of it comes first -/
theorem Wp.use {x : R ε α} {Q Q' : α → Prop} {E : XQ ε} {t : Tag Q} {u : Tag E} {t' : Tag Q'} {u' : Tag (Never (ε := ε))} (h : Wp x Q' Never t' u') (k : ∀ a, Q' a → Q a) : Wp x Q E t u := h.mono k fun _ _ _ z => z.elim
theorem Wp.eq {x : R ε α} {a : α} (h : Wp x (fun b => b = a) Never .mk .mk) : x = .ok a := by
  cases x with
  | ok b => exact congrArg R.ok h
  | exc c fs e => exact h.elim
  | stuck => exact h.elim
theorem Wp.ex {x : R ε α} {Q : α → Prop} (h : Wp x Q (Never (ε := ε)) .mk .mk) : ∃ a, x = .ok a ∧ Q a := by
  cases x with
  | ok b => exact ⟨b, rfl, h⟩
  | exc c fs e => exact h.elim
  | stuck => exact h.elim
end
section
variable {Q : Out → Prop} {E : XQ Env} (t : Tag Q) (u : Tag E) (ρ : Env)

theorem wp_sNil : Wp (sNil ρ) Q E t u = Q (.nx ρ) := propext ⟨fun h => h, fun h => h⟩
theorem wp_sBrk : Wp (sBrk ρ) Q E t u = Q (.bk ρ) := propext ⟨fun h => h, fun h => h⟩
theorem wp_sCnt : Wp (sCnt ρ) Q E t u = Q (.ct ρ) := propext ⟨fun h => h, fun h => h⟩
theorem wp_sRetN : Wp (sRetN ρ) Q E t u = Q (.rt .non ρ) := propext ⟨fun h => h, fun h => h⟩
theorem wp_sSeq (g h : Env → R Env Out) : Wp (sSeq g h ρ) Q E t u = Wp (g ρ) (Thn (fun ρ2 => Wp (h ρ2) Q E .mk .mk) (fun ρ2 => Q (.bk ρ2)) (fun ρ2 => Q (.ct ρ2)) (fun d ρ2 => Q (.rt d ρ2))) E .mk .mk := by
  rw [sSeq_eq, wp_bind]
  cases g ρ with
  | ok o => cases o <;> rfl
  | exc _ _ _ => rfl
  | stuck => rfl
theorem wp_sExp (f : Env → R Env (D × Env)) : Wp (sExp f ρ) Q E t u = Wp (f ρ) (fun p => Q (.nx p.2)) E .mk .mk := by rw [sExp_eq, wp_bind]; rfl
theorem wp_sRet (f : Env → R Env (D × Env)) : Wp (sRet f ρ) Q E t u = Wp (f ρ) (fun p => Q (.rt p.1 p.2)) E .mk .mk := by rw [sRet_eq, wp_bind]; rfl
theorem wp_sIf (c : Env → R Env (Bool × Env)) (g h : Env → R Env Out) : Wp (sIf c g h ρ) Q E t u = Wp (c ρ) (fun p => Br p.1 (Wp (g p.2) Q E .mk .mk) (Wp (h p.2) Q E .mk .mk) .mk .mk) E .mk .mk := by
  rw [sIf_eq, wp_bind]
  cases c ρ with
  | ok o => obtain ⟨b, ρ2⟩ := o; cases b <;> rfl
  | exc _ _ _ => rfl
  | stuck => rfl
theorem wp_sAsg (f : Env → R Env (D × Env)) (w : D → Env → Option Env) : Wp (sAsg f w ρ) Q E t u = Wp (f ρ) (fun p => Op (w p.1 p.2) (fun ρ2 => Q (.nx ρ2)) .mk) E .mk .mk := by
  rw [sAsg_eq, wp_bind]; (first | refine wp_cg fun p => ?_ | refine op_cg fun p => ?_); rw [wp_bind, wp_oR]; rfl
theorem wp_sFor (f : Env → R Env (List D × Env)) (w : D → Env → Option Env) (g : Env → R Env Out) : Wp (sFor f w g ρ) Q E t u = Wp (f ρ) (fun p => Wp (forL w g p.1 p.2) Q E .mk .mk) E .mk .mk := by rw [sFor_eq, wp_bind]
theorem wp_sAug (i : Nat) (op : F2) (f : Env → R Env (D × Env)) : Wp (sAug i op f ρ) Q E t u = Op (gVar i ρ) (fun x => Gd (flatD x = true) (Wp (f ρ) (fun q => Op (op x q.1) (fun d => Q (.nx (q.2.set i (some d)))) .mk) E .mk .mk) .mk) .mk := by
  rw [sAug_eq, wp_bind, wp_oR]; (first | refine wp_cg fun x => ?_ | refine op_cg fun x => ?_)
  by_cases h : flatD x = true
  · rw [if_pos h, gd_of h, wp_bind]; (first | refine wp_cg fun p => ?_ | refine op_cg fun p => ?_); rw [wp_bind, wp_oR]; rfl
  · rw [if_neg h]; exact propext ⟨fun z => z.elim, fun z => h z.1⟩
theorem wp_for_nil (w : D → Env → Option Env) (g : Env → R Env Out) : Wp (forL w g [] ρ) Q E t u = Q (.nx ρ) := propext ⟨fun h => h, fun h => h⟩
theorem wp_for_cons (w : D → Env → Option Env) (g : Env → R Env Out) (d : D) (ds : List D) : Wp (forL w g (d :: ds) ρ) Q E t u = Op (w d ρ) (fun ρ1 => Wp (g ρ1) (Thn (fun ρ2 => Wp (forL w g ds ρ2) Q E .mk .mk) (fun ρ2 => Q (.nx ρ2)) (fun ρ2 => Wp (forL w g ds ρ2) Q E .mk .mk) (fun d ρ2 => Q (.rt d ρ2))) E .mk .mk) .mk := by
  show Wp ((oR (w d ρ)).bind _) Q E t u = _
  rw [wp_bind, wp_oR]; (first | refine wp_cg fun ρ1 => ?_ | refine op_cg fun ρ1 => ?_); rw [wp_bind]
  cases g ρ1 with
  | ok o => cases o <;> rfl
  | exc _ _ _ => rfl
  | stuck => rfl
variable {t u ρ}
theorem for_wp {w : D → Env → Option Env} {g : Env → R Env Out} {ds : List D} (I : Nat → Env → Prop) (h0 : I 0 ρ)
    (H : ∀ j d ρ, ds[j]? = some d → I j ρ → Op (w d ρ) (fun ρ1 => Wp (g ρ1) (Thn (I (j + 1)) (fun ρ2 => Q (.nx ρ2)) (I (j + 1)) (fun d ρ2 => Q (.rt d ρ2))) E .mk .mk) .mk)
    (hk : ∀ ρ2, I ds.length ρ2 → Q (.nx ρ2)) : Wp (forL w g ds ρ) Q E t u := by
  suffices K : ∀ (es : List D) (i : Nat) (ρ : Env), (∀ j, es[j]? = ds[i + j]?) → i + es.length = ds.length → I i ρ → Wp (forL w g es ρ) Q E .mk .mk from K ds 0 ρ (fun j => by rw [Nat.zero_add]) (Nat.zero_add _) h0
  intro es
  induction es with
  | nil => intro i ρ _ l h; rw [List.length_nil, Nat.add_zero] at l; subst l; exact hk ρ h
  | cons d es ih =>
    intro i ρ e l h
    rw [wp_for_cons]
    have hd : ds[i]? = some d := by have := e 0; rw [Nat.add_zero] at this; rw [← this]; rfl
    have step : ∀ ρ2, I (i + 1) ρ2 → Wp (forL w g es ρ2) Q E .mk .mk := fun ρ2 h2 => ih (i + 1) ρ2 (fun j => by have := e (j + 1); rw [List.getElem?_cons_succ] at this; rw [this]; congr 1; omega) (by rw [List.length_cons] at l; omega) h2
    refine (H i d ρ hd h).mono fun ρ1 h1 => h1.mono (fun o ho => ?_) fun _ _ _ z => z
    cases o with
    | nx ρ2 => exact step ρ2 ho
    | ct ρ2 => exact step ρ2 ho
    | bk ρ2 => exact ho
    | rt d ρ2 => exact ho
/-- the items one behind the other, each by what it was -/
theorem for_wpL {α : Type} {w : D → Env → Option Env} {g : Env → R Env Out} {f : α → D} {xs : List α} (I : List α → List α → Env → Prop) (h0 : I [] xs ρ)
    (H : ∀ pre x post ρ, xs = pre ++ x :: post → I pre (x :: post) ρ → Op (w (f x) ρ) (fun ρ1 => Wp (g ρ1) (Thn (I (pre ++ [x]) post) (fun ρ2 => Q (.nx ρ2)) (I (pre ++ [x]) post) (fun d ρ2 => Q (.rt d ρ2))) E .mk .mk) .mk)
    (hk : ∀ ρ2, I xs [] ρ2 → Q (.nx ρ2)) : Wp (forL w g (xs.map f) ρ) Q E t u := by
  suffices K : ∀ (post pre : List α) (ρ : Env), xs = pre ++ post → I pre post ρ → Wp (forL w g (post.map f) ρ) Q E .mk .mk from K xs [] ρ rfl h0
  intro post
  induction post with
  | nil => intro pre ρ e h; rw [List.append_nil] at e; subst e; exact hk ρ h
  | cons x post ih =>
    intro pre ρ e h
    rw [List.map_cons, wp_for_cons]
    have step : ∀ ρ2, I (pre ++ [x]) post ρ2 → Wp (forL w g (post.map f) ρ2) Q E .mk .mk := fun ρ2 h2 => ih (pre ++ [x]) ρ2 (by rw [e, List.append_assoc]; rfl) h2
    refine (H pre x post ρ e h).mono fun ρ1 h1 => h1.mono (fun o ho => ?_) fun _ _ _ z => z
    cases o with
    | nx ρ2 => exact step ρ2 ho
    | ct ρ2 => exact step ρ2 ho
    | bk ρ2 => exact ho
    | rt d ρ2 => exact ho
theorem while_wp {c : Env → R Env (Bool × Env)} {g : Env → R Env Out} {n : Nat} (I : Nat → Env → Prop) (m : Nat) (hm : m < n) (h0 : I m ρ)
    (H : ∀ m ρ, I m ρ → Wp (c ρ) (fun p => Br p.1 (Wp (g p.2) (Thn (fun ρ2 => ∃ m', m' < m ∧ I m' ρ2) (fun ρ2 => Q (.nx ρ2)) (fun ρ2 => ∃ m', m' < m ∧ I m' ρ2) (fun d ρ2 => Q (.rt d ρ2))) E .mk .mk) (Q (.nx p.2)) .mk .mk) E .mk .mk) : Wp (whileN c g n ρ) Q E t u := by
  induction n generalizing m ρ with
  | zero => omega
  | succ n ih =>
    show Wp ((c ρ).bind _) Q E t u
    rw [wp_bind]
    refine (H m ρ h0).mono (fun p hp => ?_) fun _ _ _ z => z
    obtain ⟨b, ρ1⟩ := p
    cases b with
    | false => exact hp
    | true =>
      show Wp ((g ρ1).bind _) Q E .mk .mk
      rw [wp_bind]
      refine Wp.mono (show Wp (g ρ1) _ E .mk .mk from hp) (fun o ho => ?_) fun _ _ _ z => z
      cases o with
      | nx ρ2 => obtain ⟨m', l, h⟩ := ho; exact ih (ρ := ρ2) m' (by omega) h
      | ct ρ2 => obtain ⟨m', l, h⟩ := ho; exact ih (ρ := ρ2) m' (by omega) h
      | bk ρ2 => exact ho
      | rt d ρ2 => exact ho
/-- what holds behind a statement -/
theorem mid_wp {g h : Env → R Env Out} (P : Env → Prop) (a : Wp (g ρ) (Thn P (fun ρ2 => Q (.bk ρ2)) (fun ρ2 => Q (.ct ρ2)) (fun d ρ2 => Q (.rt d ρ2))) E .mk .mk) (b : ∀ ρ2, P ρ2 → Wp (h ρ2) Q E .mk .mk) : Wp (sSeq g h ρ) Q E t u := by
  rw [wp_sSeq]
  refine a.mono (fun o ho => ?_) fun _ _ _ z => z
  cases o with
  | nx ρ2 => exact b ρ2 ho
  | ct ρ2 => exact ho
  | bk ρ2 => exact ho
  | rt d ρ2 => exact ho
end
theorem thn_nx (nx bk ct : Env → Prop) (rt : D → Env → Prop) (ρ : Env) : Thn nx bk ct rt (.nx ρ) = Nm ρ nx .mk := propext ⟨fun h => h, fun h => h⟩
theorem nm_eq {α : Type} (x : α) (Q : α → Prop) (t : Tag Q) : Nm x Q t = Q x := propext ⟨fun h => h, fun h => h⟩
theorem thn_bk (nx bk ct : Env → Prop) (rt : D → Env → Prop) (ρ : Env) : Thn nx bk ct rt (.bk ρ) = bk ρ := propext ⟨fun h => h, fun h => h⟩
theorem thn_ct (nx bk ct : Env → Prop) (rt : D → Env → Prop) (ρ : Env) : Thn nx bk ct rt (.ct ρ) = Nm ρ ct .mk := propext ⟨fun h => h, fun h => h⟩
theorem thn_rt (nx bk ct : Env → Prop) (rt : D → Env → Prop) (d : D) (ρ : Env) : Thn nx bk ct rt (.rt d ρ) = rt d ρ := propext ⟨fun h => h, fun h => h⟩
section
variable {Q : Bool × Env → Prop} {E : XQ Env} (t : Tag Q) (u : Tag E) (ρ : Env)
theorem wp_asB (f : Env → R Env (D × Env)) : Wp (asB f ρ) Q E t u = Wp (f ρ) (fun p => OnB p.1 (fun c => Q (c, p.2)) .mk) E .mk .mk := by
  show Wp ((f ρ).bind _) Q E t u = _
  rw [wp_bind]; (first | refine wp_cg fun p => ?_ | refine op_cg fun p => ?_); obtain ⟨d, ρ2⟩ := p; cases d <;> rfl
theorem wp_tNt (f : Env → R Env (Bool × Env)) : Wp (tNt f ρ) Q E t u = Wp (f ρ) (fun p => Q (!p.1, p.2)) E .mk .mk := by rw [tNt_eq, wp_bind]; rfl
theorem wp_tAn (f g : Env → R Env (Bool × Env)) : Wp (tAn f g ρ) Q E t u = Wp (f ρ) (fun p => Br p.1 (Wp (g p.2) Q E .mk .mk) (Q (false, p.2)) .mk .mk) E .mk .mk := by
  rw [tAn_eq, wp_bind]; (first | refine wp_cg fun p => ?_ | refine op_cg fun p => ?_); obtain ⟨b, ρ2⟩ := p; cases b <;> rfl
theorem wp_tOu (f g : Env → R Env (Bool × Env)) : Wp (tOu f g ρ) Q E t u = Wp (f ρ) (fun p => Br p.1 (Q (true, p.2)) (Wp (g p.2) Q E .mk .mk) .mk .mk) E .mk .mk := by
  rw [tOu_eq, wp_bind]; (first | refine wp_cg fun p => ?_ | refine op_cg fun p => ?_); obtain ⟨b, ρ2⟩ := p; cases b <;> rfl
theorem wp_tYs : Wp (tYs ρ) Q E t u = Q (true, ρ) := propext ⟨fun h => h, fun h => h⟩
end
section
variable {Q : D × Env → Prop} {E : XQ Env} (t : Tag Q) (u : Tag E) (ρ : Env)
theorem wp_dC (d : D) : Wp (dC d ρ) Q E t u = Q (d, ρ) := propext ⟨fun h => h, fun h => h⟩
theorem wp_ofG (g : Env → Option D) : Wp (ofG g ρ) Q E t u = Op (g ρ) (fun d => Gd (isFrz d = true) (Q (d, ρ)) .mk) .mk := by
  rw [ofG_eq]
  cases g ρ with
  | none => rfl
  | some d =>
    show Wp (if isFrz d = true then R.ok (d, ρ) else .stuck) Q E t u = Gd _ _ .mk
    by_cases h : isFrz d = true
    · rw [if_pos h, gd_of h]; rfl
    · rw [if_neg h]; exact propext ⟨fun z => z.elim, fun z => h z.1⟩
theorem wp_dVarF (i : Nat) : Wp (dVarF i ρ) Q E t u = Op (gVar i ρ) (fun d => Q (frz d, ρ.set i (some (frz d)))) .mk := by
  show Wp (match gVar i ρ with | some d => R.ok (frz d, ρ.set i (some (frz d))) | none => .stuck) Q E t u = _
  cases gVar i ρ <;> rfl
theorem wp_dVarM (i : Nat) : Wp (dVarM i ρ) Q E t u = Op (gVar i ρ) (fun d => Q (d, ρ.set i none)) .mk := by
  show Wp (match gVar i ρ with | some d => R.ok (d, ρ.set i none) | none => .stuck) Q E t u = _
  cases gVar i ρ <;> rfl
theorem wp_d2 (op : F2) (f g : Env → R Env (D × Env)) : Wp (d2 op f g ρ) Q E t u = Wp (f ρ) (fun p => Wp (g p.2) (fun q => Op (op p.1 q.1) (fun d => Q (d, q.2)) .mk) E .mk .mk) E .mk .mk := by
  rw [d2_eq, wp_bind]; (first | refine wp_cg fun p => ?_ | refine op_cg fun p => ?_); rw [wp_bind]; (first | refine wp_cg fun q => ?_ | refine op_cg fun q => ?_); rw [wp_bind, wp_oR]; rfl
theorem wp_g2 (op : F2) (f g : Env → Option D) : Wp (g2 op f g ρ) Q E t u = Op (f ρ) (fun x => Op (g ρ) (fun y => Op (op x y) (fun d => Q (d, ρ)) .mk) .mk) .mk := by
  rw [g2_eq]
  cases f ρ with
  | none => rfl
  | some x =>
    cases g ρ with
    | none => rfl
    | some y =>
      show Wp ((oR (op x y)).bind _) Q E t u = _
      rw [wp_bind, wp_oR]; rfl
theorem wp_d1 (op : F1) (f : Env → R Env (D × Env)) : Wp (d1 op f ρ) Q E t u = Wp (f ρ) (fun p => Op (op p.1) (fun d => Q (d, p.2)) .mk) E .mk .mk := by
  rw [d1_eq, wp_bind]; (first | refine wp_cg fun p => ?_ | refine op_cg fun p => ?_); rw [wp_bind, wp_oR]; rfl
theorem wp_g1 (op : F1) (f : Env → Option D) : Wp (g1 op f ρ) Q E t u = Op (f ρ) (fun x => Op (op x) (fun d => Q (d, ρ)) .mk) .mk := by
  rw [g1_eq, wp_bind, wp_oR]; (first | refine wp_cg fun p => ?_ | refine op_cg fun p => ?_); rw [wp_bind, wp_oR]; rfl
theorem wp_dNeg (f : Env → R Env (D × Env)) : Wp (dNeg f ρ) Q E t u = Wp (f ρ) (fun p => OnI p.1 (fun c => Q (.int (-c), p.2)) .mk) E .mk .mk := by
  rw [dNeg_eq, wp_bind]; (first | refine wp_cg fun p => ?_ | refine op_cg fun p => ?_); obtain ⟨d, ρ2⟩ := p; cases d <;> rfl
theorem wp_dNot (f : Env → R Env (D × Env)) : Wp (dNot f ρ) Q E t u = Wp (f ρ) (fun p => OnB p.1 (fun c => Q (.bl (!c), p.2)) .mk) E .mk .mk := by
  rw [dNot_eq, wp_bind]; (first | refine wp_cg fun p => ?_ | refine op_cg fun p => ?_); obtain ⟨d, ρ2⟩ := p; cases d <;> rfl
theorem wp_dAnd (f g : Env → R Env (D × Env)) : Wp (dAnd f g ρ) Q E t u = Wp (f ρ) (fun p => OnB p.1 (fun c => Br c (Wp (g p.2) Q E .mk .mk) (Q (.bl false, p.2)) .mk .mk) .mk) E .mk .mk := by
  rw [dAnd_eq, wp_bind]; (first | refine wp_cg fun p => ?_ | refine op_cg fun p => ?_); obtain ⟨d, ρ2⟩ := p; cases d <;> first | rfl | (rename_i b; cases b <;> rfl)
theorem wp_dOr (f g : Env → R Env (D × Env)) : Wp (dOr f g ρ) Q E t u = Wp (f ρ) (fun p => OnB p.1 (fun c => Br c (Q (.bl true, p.2)) (Wp (g p.2) Q E .mk .mk) .mk .mk) .mk) E .mk .mk := by
  rw [dOr_eq, wp_bind]; (first | refine wp_cg fun p => ?_ | refine op_cg fun p => ?_); obtain ⟨d, ρ2⟩ := p; cases d <;> first | rfl | (rename_i b; cases b <;> rfl)
theorem wp_dIf (c : Env → R Env (Bool × Env)) (f g : Env → R Env (D × Env)) : Wp (dIf c f g ρ) Q E t u = Wp (c ρ) (fun p => Br p.1 (Wp (f p.2) Q E .mk .mk) (Wp (g p.2) Q E .mk .mk) .mk .mk) E .mk .mk := by
  rw [dIf_eq, wp_bind]; (first | refine wp_cg fun p => ?_ | refine op_cg fun p => ?_); obtain ⟨b, ρ2⟩ := p; cases b <;> rfl
theorem wp_dTup (g : Env → R Env (List Ag × Env)) : Wp (dTup g ρ) Q E t u = Wp (g ρ) (fun q => Op (vals q.1) (fun ds => Gd (ds.length ≤ lim) (Q (.tup ds, q.2)) .mk) .mk) E .mk .mk := by
  rw [dTup_eq, wp_bind]; (first | refine wp_cg fun q => ?_ | refine op_cg fun q => ?_)
  cases vals q.1 with
  | none => rfl
  | some ds =>
    show Wp (if ds.length ≤ lim then R.ok _ else .stuck) Q E t u = Gd _ _ .mk
    by_cases h : ds.length ≤ lim
    · rw [if_pos h, gd_of h]; rfl
    · rw [if_neg h]; exact propext ⟨fun z => z.elim, fun z => h z.1⟩
theorem wp_dLst (g : Env → R Env (List Ag × Env)) : Wp (dLst g ρ) Q E t u = Wp (g ρ) (fun q => Op (vals q.1) (fun ds => Gd (ds.length ≤ lim) (Q (.lst true ds, q.2)) .mk) .mk) E .mk .mk := by
  rw [dLst_eq, wp_bind]; (first | refine wp_cg fun q => ?_ | refine op_cg fun q => ?_)
  cases vals q.1 with
  | none => rfl
  | some ds =>
    show Wp (if ds.length ≤ lim then R.ok _ else .stuck) Q E t u = Gd _ _ .mk
    by_cases h : ds.length ≤ lim
    · rw [if_pos h, gd_of h]; rfl
    · rw [if_neg h]; exact propext ⟨fun z => z.elim, fun z => h z.1⟩
theorem wp_dIx (f g : Env → R Env (D × Env)) : Wp (dIx f g ρ) Q E t u = Wp (f ρ) (fun p => Wp (g p.2) (fun q => Op (getIx (frz p.1) q.1) (fun d => Q (d, q.2)) .mk) E .mk .mk) E .mk .mk := wp_d2 t u ρ fIx f g
theorem wp_dIxV (i : Nat) (g : Env → R Env (D × Env)) : Wp (dIxV i g ρ) Q E t u = Op (gVar i ρ) (fun _ => Wp (g ρ) (fun q => Op (gVar i q.2) (fun x => Op (getIx x q.1) (fun d => Gd (isFrz d = true) (Q (d, q.2)) .mk) .mk) .mk) E .mk .mk) .mk := by
  rw [dIxV_eq, wp_bind, wp_oR]; (first | refine wp_cg fun _ => ?_ | refine op_cg fun _ => ?_); rw [wp_bind]; (first | refine wp_cg fun q => ?_ | refine op_cg fun q => ?_); rw [wp_bind, wp_oR]; (first | refine wp_cg fun x => ?_ | refine op_cg fun x => ?_); rw [wp_bind, wp_oR]; (first | refine wp_cg fun d => ?_ | refine op_cg fun d => ?_)
  by_cases h : isFrz d = true
  · rw [if_pos h, gd_of h]; rfl
  · rw [if_neg h]; exact propext ⟨fun z => z.elim, fun z => h z.1⟩
theorem wp_dSl (f : Env → R Env (D × Env)) (g h : Env → R Env (Option Int × Env)) : Wp (dSl f g h ρ) Q E t u = Wp (f ρ) (fun x => Wp (g x.2) (fun l => Wp (h l.2) (fun v => Op (slF x.1 l.1 v.1) (fun d => Q (d, v.2)) .mk) E .mk .mk) E .mk .mk) E .mk .mk := by
  rw [dSl_eq, wp_bind]; (first | refine wp_cg fun x => ?_ | refine op_cg fun x => ?_); rw [wp_bind]; (first | refine wp_cg fun l => ?_ | refine op_cg fun l => ?_); rw [wp_bind]; (first | refine wp_cg fun v => ?_ | refine op_cg fun v => ?_); rw [wp_bind, wp_oR]; rfl
theorem wp_gSl (f : Env → Option D) (g h : Env → R Env (Option Int × Env)) : Wp (gSl f g h ρ) Q E t u = Op (f ρ) (fun x => Wp (g ρ) (fun l => Wp (h ρ) (fun v => Op (slF x l.1 v.1) (fun d => Q (d, ρ)) .mk) E .mk .mk) E .mk .mk) .mk := by
  rw [gSl_eq, wp_bind, wp_oR]; (first | refine wp_cg fun x => ?_ | refine op_cg fun x => ?_); rw [wp_bind]; (first | refine wp_cg fun l => ?_ | refine op_cg fun l => ?_); rw [wp_bind]; (first | refine wp_cg fun v => ?_ | refine op_cg fun v => ?_); rw [wp_bind, wp_oR]; rfl
theorem wp_dCall (m : List Bool) (dds : List D) (S : List D → FR) (g : Env → R Env (List Ag × Env)) : Wp (dCall m dds S g ρ) Q E t u = Wp (g ρ) (fun p => Wp (callD m dds S p.1 p.2) Q E .mk .mk) E .mk .mk := by rw [dCall_eq, wp_bind]
theorem wp_dCallV (m : List Bool) (dds : List D) (S : List D → FR) (g : Env → R Env (List Ag × Env)) : Wp (dCallV m dds S g ρ) Q E t u = Wp (g ρ) (fun p => Wp (callV m dds S p.1 p.2) Q E .mk .mk) E .mk .mk := by rw [dCallV_eq, wp_bind]
theorem wp_callD (m : List Bool) (dds : List D) (S : List D → FR) (as : List Ag) : Wp (callD m dds S as ρ) Q E t u = Gd (mask as ++ dds.map (fun _ => false) = m) (Op (fillA as ρ) (fun p => Wp (S (p.1 ++ dds)) (fun r => Nm (putA as r.2 p.2) (fun ρ2 => Q (r.1, ρ2)) .mk) (fun c fs os => E c fs (putA as os p.2)) .mk .mk) .mk) .mk := by
  unfold callD
  by_cases h : mask as ++ dds.map (fun _ => false) = m
  · rw [if_pos h, gd_of h]
    cases fillA as ρ with
    | none => rfl
    | some p =>
      obtain ⟨ds, ρ1⟩ := p
      show Wp (match S (ds ++ dds) with | .ok (r, outs) => R.ok (r, putA as outs ρ1) | .exc c fs outs => .exc c fs (putA as outs ρ1) | .stuck => .stuck) Q E t u = Wp (S (ds ++ dds)) _ _ .mk .mk
      cases S (ds ++ dds) <;> rfl
  · rw [if_neg h]; exact propext ⟨fun z => z.elim, fun z => h z.1⟩
theorem wp_callV (m : List Bool) (dds : List D) (S : List D → FR) (as : List Ag) : Wp (callV m dds S as ρ) Q E t u = Op (vals as) (fun ds => Gd (mask as ++ dds.map (fun _ => false) = m) (Wp (S (frzs ds ++ dds)) (fun r => Q (r.1, ρ)) (fun c fs _ => E c fs ρ) .mk .mk) .mk) .mk := by
  unfold callV
  cases vals as with
  | none => rfl
  | some ds =>
    show Wp (if mask as ++ dds.map (fun _ => false) = m then _ else _) Q E t u = Gd _ _ .mk
    by_cases h : mask as ++ dds.map (fun _ => false) = m
    · rw [if_pos h, gd_of h]
      cases S (frzs ds ++ dds) <;> rfl
    · rw [if_neg h]; exact propext ⟨fun z => z.elim, fun z => h z.1⟩
theorem wp_dM1 (op : F2) (f g : Env → R Env (D × Env)) : Wp (dM1 op f g ρ) Q E t u = Wp (f ρ) (fun p => OnS p.1 (fun l => Wp (g p.2) (fun q => Op (op (.str l) q.1) (fun d => Q (d, q.2)) .mk) E .mk .mk) .mk) E .mk .mk := by
  rw [dM1_eq, wp_bind]; (first | refine wp_cg fun p => ?_ | refine op_cg fun p => ?_); obtain ⟨d, ρ2⟩ := p
  cases d with
  | str l =>
    show Wp ((g ρ2).bind _) Q E t u = Wp (g ρ2) _ _ .mk .mk
    rw [wp_bind]; (first | refine wp_cg fun q => ?_ | refine op_cg fun q => ?_); rw [wp_bind, wp_oR]; rfl
  | _ => rfl
theorem wp_mMe (op : FM) (w : Env → Option (Nat × List Nat)) (g : Env → R Env (List Ag × Env)) : Wp (mMe op w g ρ) Q E t u = Op (w ρ) (fun iq => OnL (atP ρ iq) (fun _ => Wp (g ρ) (fun q => Op (vals q.1) (fun as => OnL (atP q.2 iq) (fun ds => Op (op ds as) (fun r => Q (r.1, putP q.2 iq (.lst true r.2))) .mk) .mk) .mk) E .mk .mk) .mk) .mk := by
  rw [mMe_eq, wp_bind, wp_oR]; (first | refine wp_cg fun iq => ?_ | refine op_cg fun iq => ?_)
  have key : ∀ q : List Ag × Env, Wp (match vals q.1, atP q.2 iq with | some as, some (.nd true .lst ds) => (oR (op ds as)).bind fun r => R.ok (r.1, putP q.2 iq (.lst true r.2)) | _, _ => .stuck) Q E .mk .mk = Op (vals q.1) (fun as => OnL (atP q.2 iq) (fun ds => Op (op ds as) (fun r => Q (r.1, putP q.2 iq (.lst true r.2))) .mk) .mk) .mk := by
    intro q
    cases vals q.1 with
    | none => rfl
    | some as =>
      cases h : atP q.2 iq with
      | none => rfl
      | some d => cases d with
        | nd m k ds => cases m with
          | false => rfl
          | true => cases k with
            | lst =>
              show Wp ((oR (op ds as)).bind _) Q E .mk .mk = Op (op ds as) _ .mk
              rw [wp_bind, wp_oR]; rfl
            | _ => rfl
        | _ => rfl
  cases h : atP ρ iq with
  | none => rfl
  | some d => cases d with
    | nd m k ds => cases m with
      | false => rfl
      | true => cases k with
        | lst =>
          show Wp ((g ρ).bind _) Q E .mk .mk = Wp (g ρ) _ _ .mk .mk
          rw [wp_bind]; (first | refine wp_cg fun q => ?_ | refine op_cg fun q => ?_); exact key q
        | _ => rfl
    | _ => rfl
theorem wp_dComp (own : List Nat) (f : Env → R Env (List D × Env)) (w : D → Env → Option Env) (c : Env → R Env (Bool × Env)) (h : Env → R Env (D × Env)) : Wp (dComp own f w c h ρ) Q E t u = Wp (f ρ) (fun q => Gd (ownOk q.2 own = true ∧ q.1.length ≤ lim) (Wp (compL own w c h q.1 (wipeE q.2 own) []) (fun r => Q (.lst true r.1, restE q.2 r.2 own)) E .mk .mk) .mk) E .mk .mk := by
  rw [dComp_eq, wp_bind]; (first | refine wp_cg fun q => ?_ | refine op_cg fun q => ?_)
  by_cases z : ownOk q.2 own = true ∧ q.1.length ≤ lim
  · rw [if_pos z, gd_of z, wp_bind]; rfl
  · rw [if_neg z]; exact propext ⟨fun a => a.elim, fun a => z a.1⟩
end
section
variable {Q : List D × Env → Prop} {E : XQ Env} {t : Tag Q} {u : Tag E} {ρ : Env} {own : List Nat} {w : D → Env → Option Env} {c : Env → R Env (Bool × Env)} {h : Env → R Env (D × Env)}
theorem comp_wp {ds : List D} (I : Nat → Env → List D → Prop) (h0 : I 0 ρ [])
    (H : ∀ j d ρ acc, ds[j]? = some d → I j ρ acc → Op (w d ρ) (fun ρ1 => Wp (c ρ1) (fun p => Br p.1 (Wp (h p.2) (fun y => I (j + 1) (wipeE y.2 own) (acc ++ [y.1])) Never .mk .mk) (I (j + 1) (wipeE p.2 own) acc) .mk .mk) Never .mk .mk) .mk)
    (hk : ∀ ρ2 acc, I ds.length ρ2 acc → Q (acc, ρ2)) : Wp (compL own w c h ds ρ []) Q E t u := by
  suffices K : ∀ (es : List D) (i : Nat) (ρ : Env) (acc : List D), (∀ j, es[j]? = ds[i + j]?) → i + es.length = ds.length → I i ρ acc → Wp (compL own w c h es ρ acc) Q E .mk .mk from K ds 0 ρ [] (fun j => by rw [Nat.zero_add]) (Nat.zero_add _) h0
  intro es
  induction es with
  | nil => intro i ρ acc _ l h; rw [List.length_nil, Nat.add_zero] at l; subst l; exact hk ρ acc h
  | cons d es ih =>
    intro i ρ acc e l hI
    have hd : ds[i]? = some d := by have := e 0; rw [Nat.add_zero] at this; rw [← this]; rfl
    have step : ∀ ρ2 acc2, I (i + 1) ρ2 acc2 → Wp (compL own w c h es ρ2 acc2) Q E .mk .mk := fun ρ2 acc2 h2 => ih (i + 1) ρ2 acc2 (fun j => by have := e (j + 1); rw [List.getElem?_cons_succ] at this; rw [this]; congr 1; omega) (by rw [List.length_cons] at l; omega) h2
    have := H i d ρ acc hd hI
    unfold compL
    cases e1 : w d ρ with
    | none => rw [e1] at this; exact this.elim
    | some ρ1 =>
      rw [e1] at this
      obtain ⟨⟨b, ρ2⟩, e2, z⟩ := Wp.ex this
      simp only [e2]
      cases b with
      | false => exact step _ _ z
      | true =>
        obtain ⟨⟨y, ρ3⟩, e3, z⟩ := Wp.ex (show Wp (h ρ2) _ Never .mk .mk from z)
        simp only [e3]
        exact step _ _ z
/-- a comprehension that changes nothing -/
theorem map_wp {α : Type} {f : α → D} {r : α → Option D} {xs : List α}
    (H : ∀ x ∈ xs, Op (w (f x) ρ) (fun ρ1 => Wp (c ρ1) (fun p => Br p.1 (Wp (h p.2) (fun y => r x = some y.1 ∧ wipeE y.2 own = ρ) Never .mk .mk) (r x = none ∧ wipeE p.2 own = ρ) .mk .mk) Never .mk .mk) .mk)
    (hk : Q (xs.filterMap r, ρ)) : Wp (compL own w c h (xs.map f) ρ []) Q E t u := by
  suffices K : ∀ (xs : List α) (acc : List D), (∀ x ∈ xs, Op (w (f x) ρ) (fun ρ1 => Wp (c ρ1) (fun p => Br p.1 (Wp (h p.2) (fun y => r x = some y.1 ∧ wipeE y.2 own = ρ) Never .mk .mk) (r x = none ∧ wipeE p.2 own = ρ) .mk .mk) Never .mk .mk) .mk) → compL own w c h (xs.map f) ρ acc = .ok (acc ++ xs.filterMap r, ρ) by
    rw [K xs [] H]; exact hk
  intro xs
  induction xs with
  | nil => intro acc _; show R.ok (acc, ρ) = _; rw [List.filterMap_nil, List.append_nil]
  | cons x xs ih =>
    intro acc H
    have ih := fun acc => ih acc fun x hx => H x (List.mem_cons_of_mem _ hx)
    have := H x (List.mem_cons_self ..)
    rw [List.map_cons]
    unfold compL
    cases e1 : w (f x) ρ with
    | none => rw [e1] at this; exact this.elim
    | some ρ1 =>
      rw [e1] at this
      obtain ⟨⟨b, ρ2⟩, e2, z⟩ := Wp.ex this
      simp only [e2]
      cases b with
      | false =>
        obtain ⟨z1, z2⟩ := (show r x = none ∧ _ from z)
        simp only [z2, ih, List.filterMap_cons, z1]
      | true =>
        obtain ⟨⟨y, ρ3⟩, e3, z1, z2⟩ := Wp.ex (show Wp (h ρ2) _ Never .mk .mk from z)
        simp only [e3]
        simp only [] at z1 z2
        simp only [z2, ih, List.filterMap_cons, z1, List.append_assoc, List.singleton_append]
end
section
variable {Q : List Ag × Env → Prop} {E : XQ Env} (t : Tag Q) (u : Tag E) (ρ : Env)
theorem wp_aNil : Wp (aNil ρ) Q E t u = Q ([], ρ) := propext ⟨fun h => h, fun h => h⟩
theorem wp_aCons (f : Env → R Env (D × Env)) (g : Env → R Env (List Ag × Env)) : Wp (aCons f g ρ) Q E t u = Wp (f ρ) (fun p => Wp (g p.2) (fun q => Q (.v p.1 :: q.1, q.2)) E .mk .mk) E .mk .mk := by
  rw [aCons_eq, wp_bind]; (first | refine wp_cg fun p => ?_ | refine op_cg fun p => ?_); rw [wp_bind]; rfl
theorem wp_aRef (i : Nat) (g : Env → R Env (List Ag × Env)) : Wp (aRef i g ρ) Q E t u = Op (gVar i ρ) (fun _ => Wp (g ρ) (fun q => Q (.m i :: q.1, q.2)) E .mk .mk) .mk := by
  rw [aRef_eq, wp_bind, wp_oR]; (first | refine wp_cg fun p => ?_ | refine op_cg fun p => ?_); rw [wp_bind]; rfl
end
section
variable {Q : List D × Env → Prop} {E : XQ Env} (t : Tag Q) (u : Tag E) (ρ : Env)
theorem wp_iSeq (f : Env → R Env (D × Env)) : Wp (iSeq f ρ) Q E t u = Wp (f ρ) (fun q => Op (items (frz q.1)) (fun ds => Q (ds, q.2)) .mk) E .mk .mk := by
  rw [iSeq_eq, wp_bind]; (first | refine wp_cg fun q => ?_ | refine op_cg fun q => ?_); rw [wp_bind, wp_oR]; rfl
def On1 (as : List Ag) (Q : D → Prop) (_ : Tag Q) : Prop := match as with | [.v a] => Q a | _ => False
def On2 (as : List Ag) (Q : D → D → Prop) (_ : Tag Q) : Prop := match as with | [.v a, .v b] => Q a b | _ => False
def On3 (as : List Ag) (Q : D → D → D → Prop) (_ : Tag Q) : Prop := match as with | [.v a, .v b, .v c] => Q a b c | _ => False
theorem on1_v (a : D) (Q : D → Prop) (t : Tag Q) : On1 [.v a] Q t = Q a := propext ⟨fun h => h, fun h => h⟩
theorem on2_v (a b : D) (Q : D → D → Prop) (t : Tag Q) : On2 [.v a, .v b] Q t = Q a b := propext ⟨fun h => h, fun h => h⟩
theorem on3_v (a b c : D) (Q : D → D → D → Prop) (t : Tag Q) : On3 [.v a, .v b, .v c] Q t = Q a b c := propext ⟨fun h => h, fun h => h⟩
theorem wp_iRange1 (g : Env → R Env (List Ag × Env)) : Wp (iRange1 g ρ) Q E t u = Wp (g ρ) (fun q => On1 q.1 (fun a => OnI a (fun j => Gd (okR j = true) (Q (rng 0 j.toNat, q.2)) .mk) .mk) .mk) E .mk .mk := by
  rw [iRange1_eq, wp_bind]; (first | refine wp_cg fun q => ?_ | refine op_cg fun q => ?_); obtain ⟨as, ρ2⟩ := q
  match as with
  | [] => rfl
  | [.m _] => rfl
  | [.v (.int j)] =>
    show Wp (if okR j = true then R.ok _ else .stuck) Q E .mk .mk = Gd _ _ .mk
    by_cases h : okR j = true
    · rw [if_pos h, gd_of h]; rfl
    · rw [if_neg h]; exact propext ⟨fun z => z.elim, fun z => h z.1⟩
  | [.v .non] => rfl
  | [.v (.bl _)] => rfl
  | [.v (.str _)] => rfl
  | [.v (.glb _)] => rfl
  | [.v (.tup _)] => rfl
  | [.v (.nd _ _ _)] => rfl
  | .m _ :: _ :: _ => rfl
  | .v d :: _ :: _ => cases d <;> rfl
theorem wp_iRange2 (g : Env → R Env (List Ag × Env)) : Wp (iRange2 g ρ) Q E t u = Wp (g ρ) (fun q => On2 q.1 (fun a b => OnI a (fun i => OnI b (fun j => Gd (okR i = true ∧ okR j = true) (Q (rng i (j - i).toNat, q.2)) .mk) .mk) .mk) .mk) E .mk .mk := by
  rw [iRange2_eq, wp_bind]; (first | refine wp_cg fun q => ?_ | refine op_cg fun q => ?_); obtain ⟨as, ρ2⟩ := q
  match as with
  | [.v a, .v b] =>
    cases a with
    | int i => cases b with
      | int j =>
        show Wp (if okR i = true ∧ okR j = true then R.ok _ else .stuck) Q E .mk .mk = Gd _ _ .mk
        by_cases h : okR i = true ∧ okR j = true
        · rw [if_pos h, gd_of h]; rfl
        · rw [if_neg h]; exact propext ⟨fun z => z.elim, fun z => h z.1⟩
      | _ => rfl
    | _ => rfl
  | [] => rfl
  | [a] => cases a with
    | v d => cases d <;> rfl
    | m _ => rfl
  | .m _ :: _ :: _ => rfl
  | .v d :: .m _ :: _ => cases d <;> rfl
  | .v d :: .v e :: _ :: _ => cases d <;> cases e <;> rfl
theorem wp_iRangeD (g : Env → R Env (List Ag × Env)) : Wp (iRangeD g ρ) Q E t u = Wp (g ρ) (fun q => On3 q.1 (fun a b c => OnI a (fun i => OnI b (fun j => OnI c (fun k => Gd (okR i = true ∧ okR j = true ∧ k = -1) (Q (rngD i j, q.2)) .mk) .mk) .mk) .mk) .mk) E .mk .mk := by
  rw [iRangeD_eq, wp_bind]; (first | refine wp_cg fun q => ?_ | refine op_cg fun q => ?_); obtain ⟨as, ρ2⟩ := q
  match as with
  | [.v a, .v b, .v c] =>
    cases a with
    | int i => cases b with
      | int j => cases c with
        | int k =>
          show Wp (if okR i = true ∧ okR j = true ∧ k = -1 then R.ok _ else .stuck) Q E .mk .mk = Gd _ _ .mk
          by_cases h : okR i = true ∧ okR j = true ∧ k = -1
          · rw [if_pos h, gd_of h]; rfl
          · rw [if_neg h]; exact propext ⟨fun z => z.elim, fun z => h z.1⟩
        | _ => rfl
      | _ => cases c <;> rfl
    | _ => cases b <;> cases c <;> rfl
  | [] => rfl
  | [a] => cases a with
    | v d => cases d <;> rfl
    | m _ => rfl
  | [a, b] => cases a with
    | v d => cases b with
      | v e => cases d <;> cases e <;> rfl
      | m _ => cases d <;> rfl
    | m _ => rfl
  | .m _ :: _ :: _ :: _ => rfl
  | .v d :: .m _ :: _ :: _ => cases d <;> rfl
  | .v d :: .v e :: .m _ :: _ => cases d <;> cases e <;> rfl
  | .v d :: .v e :: .v f :: _ :: _ => cases d <;> cases e <;> cases f <;> rfl
theorem wp_iEnu (g : Env → R Env (List Ag × Env)) : Wp (iEnu g ρ) Q E t u = Wp (g ρ) (fun q => On1 q.1 (fun a => Op (lstD (frz a)) (fun ds => Q (enuL 0 ds, q.2)) .mk) .mk) E .mk .mk := by
  rw [iEnu_eq, wp_bind]; (first | refine wp_cg fun q => ?_ | refine op_cg fun q => ?_); obtain ⟨as, ρ2⟩ := q
  match as with
  | [] => rfl
  | [.m _] => rfl
  | [.v a] =>
    show Wp ((oR (lstD (frz a))).bind _) Q E .mk .mk = Op _ _ .mk
    rw [wp_bind, wp_oR]; rfl
  | .m _ :: _ :: _ => rfl
  | .v d :: _ :: _ => rfl
theorem wp_iZp (g : Env → R Env (List Ag × Env)) : Wp (iZp g ρ) Q E t u = Wp (g ρ) (fun q => On2 q.1 (fun a b => Op (lstD (frz a)) (fun ds => Op (lstD (frz b)) (fun es => Q (zipL ds es, q.2)) .mk) .mk) .mk) E .mk .mk := by
  rw [iZp_eq, wp_bind]; (first | refine wp_cg fun q => ?_ | refine op_cg fun q => ?_); obtain ⟨as, ρ2⟩ := q
  match as with
  | [.v a, .v b] =>
    show Wp ((oR (lstD (frz a))).bind _) Q E .mk .mk = Op _ _ .mk
    rw [wp_bind, wp_oR]; (first | refine wp_cg fun ds => ?_ | refine op_cg fun ds => ?_); rw [wp_bind, wp_oR]; rfl
  | [] => rfl
  | [a] => cases a <;> rfl
  | .m _ :: _ :: _ => rfl
  | .v d :: .m _ :: _ => rfl
  | .v d :: .v e :: _ :: _ => rfl
end
section
variable {Q : Option Int × Env → Prop} {E : XQ Env} (t : Tag Q) (u : Tag E) (ρ : Env)
theorem wp_oNone : Wp (oNone ρ) Q E t u = Q (none, ρ) := propext ⟨fun h => h, fun h => h⟩
theorem wp_oSome (f : Env → R Env (D × Env)) : Wp (oSome f ρ) Q E t u = Wp (f ρ) (fun p => OnI p.1 (fun i => Q (some i, p.2)) .mk) E .mk .mk := by
  rw [oSome_eq, wp_bind]; (first | refine wp_cg fun p => ?_ | refine op_cg fun p => ?_); obtain ⟨d, ρ2⟩ := p; cases d <;> rfl
end
section
variable {Q : D → Prop} (t : Tag Q) (ρ : Env)
theorem op_toG (f : Env → R Env (D × Env)) : Op (toG f ρ) Q t = Wp (f ρ) (fun p => Q p.1) Never .mk .mk := by
  rw [toG_eq]
  cases f ρ <;> rfl
theorem op_gIx (f g : Env → Option D) : Op (gIx f g ρ) Q t = Op (f ρ) (fun x => Op (g ρ) (fun i => Op (getIx x i) Q .mk) .mk) .mk := by
  rw [gIx_eq, op_bind]; (first | refine wp_cg fun x => ?_ | refine op_cg fun x => ?_); rw [op_bind]
theorem gVar_0 (o : Option D) (ρ : Env) : gVar 0 (o :: ρ) = o := rfl
theorem gVar_s (o : Option D) (n : Nat) (ρ : Env) : gVar (n + 1) (o :: ρ) = gVar n ρ := by unfold gVar; rw [List.getElem?_cons_succ]
end
section
variable {Q : Env → Prop} (t : Tag Q) (ρ : Env)
theorem op_wName (i : Nat) (d : D) : Op (wName i d ρ) Q t = Nm (ρ.set i (some d)) Q .mk := propext ⟨fun h => h, fun h => h⟩
theorem op_wTup (n : Nat) (ws : List D → Env → Option Env) (ds : List D) : Op (wTup n ws (.tup ds) ρ) Q t = Gd (ds.length = n) (Op (ws ds ρ) Q .mk) .mk := by
  rw [wTup_eq]
  by_cases h : ds.length = n
  · rw [if_pos h, gd_of h]
  · rw [if_neg h]; exact propext ⟨fun z => z.elim, fun z => h z.1⟩
theorem op_wTupL (n : Nat) (ws : List D → Env → Option Env) (m : Bool) (ds : List D) : Op (wTup n ws (.nd m .lst ds) ρ) Q t = Gd (ds.length = n) (Op (ws ds ρ) Q .mk) .mk := by
  have e : wTup n ws (.nd m .lst ds) ρ = if ds.length = n then ws ds ρ else none := by cases m <;> rfl
  rw [e]
  by_cases h : ds.length = n
  · rw [if_pos h, gd_of h]
  · rw [if_neg h]; exact propext ⟨fun z => z.elim, fun z => h z.1⟩
theorem op_wNil : Op (wNil [] ρ) Q t = Q ρ := propext ⟨fun h => h, fun h => h⟩
theorem op_wCons (w : D → Env → Option Env) (ws : List D → Env → Option Env) (d : D) (ds : List D) : Op (wCons w ws (d :: ds) ρ) Q t = Op (w d ρ) (fun ρ2 => Op (ws ds ρ2) Q .mk) .mk := by rw [wCons_eq, op_bind]
theorem op_wSub (w : Env → Option (Nat × List Nat)) (g : Env → Option D) (x : D) : Op (wSub w g x ρ) Q t = Op (w ρ) (fun iq => Op (g ρ) (fun k => OnL (atP ρ iq) (fun ds => OnI k (fun j => Op (ixN ds.length j) (fun n => Q (putP ρ iq (.lst true (ds.set n x)))) .mk) .mk) .mk) .mk) .mk := by
  rw [wSub_eq, op_bind]; (first | refine wp_cg fun iq => ?_ | refine op_cg fun iq => ?_); rw [op_bind]; (first | refine wp_cg fun k => ?_ | refine op_cg fun k => ?_)
  cases atP ρ iq with
  | none => rfl
  | some d => cases d with
    | nd m kk ds => cases m with
      | false => cases k <;> rfl
      | true => cases kk with
        | lst => cases k with
          | int j =>
            show Op ((ixN ds.length j).map _) Q _ = Op _ _ .mk
            rw [op_map]
          | _ => rfl
        | _ => cases k <;> rfl
    | _ => cases k <;> rfl
end
section
variable {Q : Nat × List Nat → Prop} (t : Tag Q) (ρ : Env)
theorem op_pVar (i : Nat) : Op (pVar i ρ) Q t = Op (gVar i ρ) (fun _ => Q (i, [])) .mk := by rw [pVar_eq, op_map]
def OnC (o : Option D) (Q : List D → Prop) (_ : Tag Q) : Prop := match o with | some (.nd true .lst ds) => Q ds | some (.tup ds) => Q ds | _ => False
theorem onC_lst (ds : List D) (Q : List D → Prop) (t : Tag Q) : OnC (some (.nd true .lst ds)) Q t = Q ds := propext ⟨fun h => h, fun h => h⟩
theorem onC_tup (ds : List D) (Q : List D → Prop) (t : Tag Q) : OnC (some (.tup ds)) Q t = Q ds := propext ⟨fun h => h, fun h => h⟩
theorem op_pIx (w : Env → Option (Nat × List Nat)) (g : Env → Option D) : Op (pIx w g ρ) Q t = Op (w ρ) (fun iq => Op (g ρ) (fun k => OnC (atP ρ iq) (fun ds => OnI k (fun j => Op (ixN ds.length j) (fun n => Q (iq.1, iq.2 ++ [n])) .mk) .mk) .mk) .mk) .mk := by
  rw [pIx_eq, op_bind]; (first | refine wp_cg fun iq => ?_ | refine op_cg fun iq => ?_); rw [op_bind]; (first | refine wp_cg fun k => ?_ | refine op_cg fun k => ?_)
  cases atP ρ iq with
  | none => rfl
  | some d => cases d with
    | nd m kk ds => cases m with
      | false => cases k <;> rfl
      | true => cases kk with
        | lst => cases k with
          | int j =>
            show Op ((ixN ds.length j).map _) Q _ = Op _ _ .mk
            rw [op_map]
          | _ => rfl
        | _ => cases k <;> rfl
    | tup ds => cases k with
      | int j =>
        show Op ((ixN ds.length j).map _) Q _ = Op _ _ .mk
        rw [op_map]
      | _ => rfl
    | _ => cases k <;> rfl
end
section
variable {Q : List D × Env → Prop} (t : Tag Q) (ρ : Env)
theorem op_fillA_nil : Op (fillA [] ρ) Q t = Q ([], ρ) := propext ⟨fun h => h, fun h => h⟩
theorem op_fillA_v (d : D) (r : List Ag) : Op (fillA (.v d :: r) ρ) Q t = Op (fillA r ρ) (fun p => Q (frz d :: p.1, p.2)) .mk := by
  show Op ((fillA r ρ).map _) Q t = _
  rw [op_map]
theorem op_fillA_m (i : Nat) (r : List Ag) : Op (fillA (.m i :: r) ρ) Q t = Op (gVar i ρ) (fun d => Op (fillA r (ρ.set i none)) (fun p => Q (d :: p.1, p.2)) .mk) .mk := by
  unfold fillA
  cases gVar i ρ with
  | none => rfl
  | some d =>
    show Op ((fillA r _).map _) Q t = Op (fillA r _) _ .mk
    rw [op_map]
end
theorem putA_nil (os : List D) (ρ : Env) : putA [] os ρ = ρ := by cases os <;> rfl
theorem putA_v (d : D) (r : List Ag) (os : List D) (ρ : Env) : putA (.v d :: r) os ρ = putA r os ρ := by cases os <;> rfl
theorem putA_m (i : Nat) (r : List Ag) (d : D) (os : List D) (ρ : Env) : putA (.m i :: r) (d :: os) ρ = putA r os (ρ.set i (some d)) := rfl
theorem mask_nil : mask [] = [] := rfl
theorem mask_v (d : D) (r : List Ag) : mask (.v d :: r) = false :: mask r := rfl
theorem mask_m (i : Nat) (r : List Ag) : mask (.m i :: r) = true :: mask r := rfl
theorem vals_nil : vals [] = some [] := rfl
theorem op_vals_v (d : D) (r : List Ag) (Q : List D → Prop) (t : Tag Q) : Op (vals (.v d :: r)) Q t = Op (vals r) (fun l => Q (d :: l)) .mk := by
  show Op ((vals r).map _) Q t = _
  rw [op_map]
theorem op_vals_nil (Q : List D → Prop) (t : Tag Q) : Op (vals []) Q t = Q [] := propext ⟨fun h => h, fun h => h⟩
theorem ini_s (n : Nat) (d : D) (ds : List D) : ini (n + 1) (d :: ds) = some d :: ini n ds := by unfold ini; rw [List.length_cons, Nat.add_sub_add_right]; rfl
theorem ini_nil (n : Nat) : ini (n + 1) [] = none :: ini n [] := rfl
theorem ini_0 : ini 0 [] = [] := rfl
theorem outs_nil (ρ : Env) : outsOf [] ρ = some [] := by cases ρ <;> rfl
theorem outs_f (m : List Bool) (o : Option D) (ρ : Env) : outsOf (false :: m) (o :: ρ) = outsOf m ρ := rfl
theorem op_outs_t (m : List Bool) (d : D) (ρ : Env) (Q : List D → Prop) (t : Tag Q) : Op (outsOf (true :: m) (some d :: ρ)) Q t = Op (outsOf m ρ) (fun l => Q (d :: l)) .mk := by
  show Op ((outsOf m ρ).map _) Q t = _
  rw [op_map]
theorem op_outs_nil (ρ : Env) (Q : List D → Prop) (t : Tag Q) : Op (outsOf [] ρ) Q t = Q [] := by rw [outs_nil]; rfl
theorem wipe_nil (ρ : Env) : wipeE ρ [] = ρ := rfl
theorem wipe_cons (ρ : Env) (v : Nat) (vs : List Nat) : wipeE ρ (v :: vs) = (wipeE ρ vs).set v none := rfl
theorem rest_nil (ρ ρ2 : Env) : restE ρ ρ2 [] = ρ2 := rfl
theorem rest_cons (ρ ρ2 : Env) (v : Nat) (vs : List Nat) : restE ρ ρ2 (v :: vs) = (restE ρ ρ2 vs).set v (gVar v ρ) := rfl
theorem own_nil (ρ : Env) : ownOk ρ [] = true := rfl
def isFrzO : Option D → Bool
  | some d => isFrz d
  | none => true
theorem own_cons (ρ : Env) (v : Nat) (vs : List Nat) : ownOk ρ (v :: vs) = (isFrzO (gVar v ρ) && ownOk ρ vs) := by
  show ((match gVar v ρ with | some d => isFrz d | none => true) && ownOk ρ vs) = _
  cases gVar v ρ <;> rfl
theorem frzO_n : isFrzO none = true := rfl
theorem frzO_s (d : D) : isFrzO (some d) = isFrz d := rfl
theorem wp_defD (n : Nat) (m : List Bool) (g : Env → R Env Out) (ds : List D) (Q : D × List D → Prop) (E : XQ (List D)) (t : Tag Q) (u : Tag E) : Wp (defD n m g ds) Q E t u = Wp (g (ini n ds)) (Thn (fun ρ => Op (outsOf m ρ) (fun os => Q (.non, os)) .mk) (fun _ => False) (fun _ => False) (fun d ρ => Op (outsOf m ρ) (fun os => Q (d, os)) .mk)) (fun c fs ρ => Op (outsOf m ρ) (fun os => E c fs os) .mk) .mk .mk := by
  unfold defD
  cases g (ini n ds) with
  | ok o => cases o with
    | nx ρ => show Wp (match outsOf m ρ with | some os => R.ok (D.non, os) | none => .stuck) Q E t u = Op _ _ .mk; cases outsOf m ρ <;> rfl
    | rt d ρ => show Wp (match outsOf m ρ with | some os => R.ok (d, os) | none => .stuck) Q E t u = Op _ _ .mk; cases outsOf m ρ <;> rfl
    | bk ρ => rfl
    | ct ρ => rfl
  | exc c fs ρ => show Wp (match outsOf m ρ with | some os => R.exc c fs os | none => .stuck) Q E t u = Op _ _ .mk; cases outsOf m ρ <;> rfl
  | stuck => rfl
theorem atP_0 (i : Nat) (ρ : Env) : atP ρ (i, []) = gVar i ρ := by
  show (gVar i ρ).bind (fun d => getP d []) = _
  cases gVar i ρ with
  | none => rfl
  | some d => cases d <;> rfl
theorem putP_of {i : Nat} {q : List Nat} {y d : D} {ρ : Env} (h : gVar i ρ = some d) : putP ρ (i, q) y = ρ.set i (some (setP d q y)) := by
  unfold putP; simp only [h]
theorem setP_0 (d y : D) : setP d [] y = y := by cases d <;> rfl
theorem atP_c (i n : Nat) (q : List Nat) (ρ : Env) : atP ρ (i, n :: q) = (gVar i ρ).bind fun d => getP d (n :: q) := rfl
theorem getP_0 (d : D) : getP d [] = some d := by cases d <;> rfl
theorem getP_l (k : Kd) (ds : List D) (n : Nat) (p : List Nat) : getP (.nd true k ds) (n :: p) = (ds[n]?).bind fun x => getP x p := rfl
theorem getP_t (ds : List D) (n : Nat) (p : List Nat) : getP (.tup ds) (n :: p) = (ds[n]?).bind fun x => getP x p := rfl
theorem setP_l (m : Bool) (k : Kd) (ds : List D) (n : Nat) (p : List Nat) (x y : D) (h : ds[n]? = some x) : setP (.nd m k ds) (n :: p) y = .nd m k (ds.set n (setP x p y)) := by
  show D.nd m k (match ds[n]? with | some x => ds.set n (setP x p y) | none => ds) = _
  rw [h]
theorem setP_t (ds : List D) (n : Nat) (p : List Nat) (x y : D) (h : ds[n]? = some x) : setP (.tup ds) (n :: p) y = .tup (ds.set n (setP x p y)) := by
  show D.tup (match ds[n]? with | some x => ds.set n (setP x p y) | none => ds) = _
  rw [h]
end Tw

set_option maxRecDepth 100000
namespace Tw
open PySem PySem.Spec PyProof.Rows L2
section
variable {X : Cx} {G : Nat → Addr} {W : WX} {e a b c tg iter o : Expr} {es elts : List Expr} {pos p apos cpos tpos : Pos} {kk : Nat} {K : Ct} {Z H : Hp} {fx : List Nat}
/-! ### a, b = x, y -/
def setL : List Nat → List D → Env → Option Env
  | [], [], ρ => some ρ
  | i :: is, d :: ds, ρ => setL is ds (ρ.set i (some d))
  | _, _, _ => none
def sPar (is : List Nat) (g : Env → R Env (List Ag × Env)) : Env → R Env Out := fun ρ => (g ρ).bind fun q => (oR (vals q.1)).bind fun ds => (oR (setL is ds q.2)).bind fun ρ' => .ok (.nx ρ')
theorem sPar_eq (is : List Nat) (g : Env → R Env (List Ag × Env)) (ρ : Env) : sPar is g ρ = (g ρ).bind fun q => (oR (vals q.1)).bind fun ds => (oR (setL is ds q.2)).bind fun ρ' => .ok (.nx ρ') := rfl
theorem wp_sPar {Q : Out → Prop} {E : XQ Env} (t : Tag Q) (u : Tag E) (ρ : Env) (is : List Nat) (g : Env → R Env (List Ag × Env)) : Wp (sPar is g ρ) Q E t u = Wp (g ρ) (fun q => Op (vals q.1) (fun ds => Op (setL is ds q.2) (fun ρ2 => Q (.nx ρ2)) .mk) .mk) E .mk .mk := by
  rw [sPar_eq, wp_bind]; refine wp_cg fun q => ?_; rw [wp_bind, wp_oR]; refine op_cg fun ds => ?_; rw [wp_bind, wp_oR]; rfl
theorem setL_nil (ρ : Env) : setL [] [] ρ = some ρ := rfl
theorem setL_cons (i : Nat) (is : List Nat) (d : D) (ds : List D) (ρ : Env) : setL (i :: is) (d :: ds) ρ = setL is ds (ρ.set i (some d)) := rfl
theorem par_run {is : List Nat} {b1 : Bool} {g : Env → R Env (List Ag × Env)} (h : Ax X G W b1 es g) {σ : Sg} {H Z : Hp} {ρ : Env} {T : List It} {D' : Ends} (S : Sa ⟨X.K, G⟩ Z H σ ρ T) (P : SPost ⟨X.K, G⟩ fx Z σ T W D' (sPar is g ρ)) {Q : List V → Hp → Prop}
    (k : ∀ ds vs H1 Z1 ρ1 ρ2, ds.length = vs.length → setL is ds ρ1 = some ρ2 → Same Z Z1 → Sa ⟨X.K, G⟩ Z1 H1 σ ρ1 (trs ds vs ++ T) → (∀ σ', Fx fx σ σ' → Sa ⟨X.K, G⟩ Z1 H1 σ' ρ2 T → D'.nx σ' H1) → Q vs H1) : RunA X es σ H Q := by
  refine h.run σ H Z ρ T _ S ?_
  rw [sPar_eq] at P
  cases e1 : g ρ with
  | stuck => rw [e1] at P; exact P
  | exc c fs ρ' => rw [e1] at P; exact YPost.x P
  | ok q =>
    obtain ⟨as, ρ1⟩ := q
    rw [e1] at P
    simp only [R.ok_bind] at P
    intro vs L H1 Z1 z1 h1 rL S1
    cases e2 : vals as with
    | none => rw [e2] at P; exact P.elim
    | some ds =>
      rw [e2] at P
      simp only [oR_some, R.ok_bind] at P
      obtain ⟨rfl, l⟩ := resA_vals rL e2
      cases e3 : setL is ds ρ1 with
      | none => rw [e3] at P; exact P.elim
      | some ρ2 =>
        rw [e3] at P
        exact k ds vs H1 Z1 ρ1 ρ2 l e3 z1 S1 fun σ' f' S' => P σ' H1 Z1 z1 f' S'
theorem sx_par {i j : Nat} {x y : Str} {px py pt : Pos} {kt k2 pt2} {b1 : Bool} {g : Env → R Env (List Ag × Env)} (hc : X.calm = true) (hN : X.N.Nodup) (hi : X.N[i]? = some x) (hj : X.N[j]? = some y) (hij : i ≠ j)
    (hx : X.env.scope.names.lookup x = some .local) (hy : X.env.scope.names.lookup y = some .local) (hF : i ∉ fx) (hF' : j ∉ fx) (ha : Ax X G W b1 [a, b] g)
    (hw : swappedStores [.Tuple [.Name x px, .Name y py] kt pt] (.Tuple [a, b] k2 pt2) X.env = pure (some [x, y]))
    (hs : swapsWithSole [.Tuple [.Name x px, .Name y py] kt pt] (.Tuple [a, b] k2 pt2) pos.line X.env = pure false := by rfl) :
    Sx X G W fx (.Assign [.Tuple [.Name x px, .Name y py] kt pt] (.Tuple [a, b] k2 pt2) pos) (sPar [i, j] g) := by
  refine ⟨fun σ H Z ρ T D' S P pins s I => (ps_par hc hN hi hj hij hx hy paR hw hs).run pins s σ H D' I ?_⟩
  have hl : i < σ.length := by rw [I.len]; exact (List.getElem?_eq_some_iff.mp hi).1
  have hl2 : j < σ.length := by rw [I.len]; exact (List.getElem?_eq_some_iff.mp hj).1
  refine par_run ha S P fun ds vs H1 Z1 ρ1 ρ2 l es z S1 k => ?_
  match ds, vs, l, es with
  | [d1, d2], [v1, v2], _, es =>
    cases es
    exact ⟨v1, v2, rfl, k _ ((Fx.set hF).trans (Fx.set hF')) ((S1.put hl).put (by rw [List.length_set]; exact hl2))⟩
  | [], _, _, es => cases es
  | [_], _, _, es => cases es
  | _ :: _ :: _ :: _, _, _, es => cases es
theorem sx_par3 {i j l : Nat} {x y z : Str} {px py pz pt : Pos} {kt k2 pt2} {b1 : Bool} {g : Env → R Env (List Ag × Env)} (hc : X.calm = true) (hN : X.N.Nodup) (hi : X.N[i]? = some x) (hj : X.N[j]? = some y) (hl : X.N[l]? = some z) (hij : i ≠ j) (hil : i ≠ l) (hjl : j ≠ l)
    (hx : X.env.scope.names.lookup x = some .local) (hy : X.env.scope.names.lookup y = some .local) (hz : X.env.scope.names.lookup z = some .local) (hF : i ∉ fx) (hF' : j ∉ fx) (hF'' : l ∉ fx) (ha : Ax X G W b1 [a, b, c] g)
    (hw : swappedStores [.Tuple [.Name x px, .Name y py, .Name z pz] kt pt] (.Tuple [a, b, c] k2 pt2) X.env = pure (some [x, y, z]))
    (hs : swapsWithSole [.Tuple [.Name x px, .Name y py, .Name z pz] kt pt] (.Tuple [a, b, c] k2 pt2) pos.line X.env = pure false := by rfl) :
    Sx X G W fx (.Assign [.Tuple [.Name x px, .Name y py, .Name z pz] kt pt] (.Tuple [a, b, c] k2 pt2) pos) (sPar [i, j, l] g) := by
  refine ⟨fun σ H Z ρ T D' S P pins s I => (ps_par3 hc hN hi hj hl hij hil hjl hx hy hz paR hw hs).run pins s σ H D' I ?_⟩
  have l1 : i < σ.length := by rw [I.len]; exact (List.getElem?_eq_some_iff.mp hi).1
  have l2 : j < σ.length := by rw [I.len]; exact (List.getElem?_eq_some_iff.mp hj).1
  have l3 : l < σ.length := by rw [I.len]; exact (List.getElem?_eq_some_iff.mp hl).1
  refine par_run ha S P fun ds vs H1 Z1 ρ1 ρ2 l0 es z S1 k => ?_
  match ds, vs, l0, es with
  | [d1, d2, d3], [v1, v2, v3], _, es =>
    cases es
    exact ⟨v1, v2, v3, rfl, k _ (((Fx.set hF).trans (Fx.set hF')).trans (Fx.set hF'')) (((S1.put l1).put (by rw [List.length_set]; exact l2)).put (by rw [List.length_set, List.length_set]; exact l3))⟩
  | [], _, _, es => cases es
  | [_], _, _, es => cases es
  | [_, _], _, _, es => cases es
  | _ :: _ :: _ :: _ :: _, _, _, es => cases es
theorem RunE.mono' {e : Expr} {σ : Sg} {H : Hp} {Q Q' : VK} (h : RunE X e σ H Q) (k : ∀ v H, Q v H → Q' v H) : RunE X e σ H Q' := fun pins s I =>
  thn (h pins s I) fun u s' ⟨v, H', I', r, q⟩ => ⟨v, H', I', r, k v H' q⟩
/-! ### xs[::-1] -/
def revF : F1
  | .str l => if l.length ≤ lim then some (.str l.reverse) else none
  | .nd false .ro ds => if areFrz ds = true then some (.lst true ds.reverse) else none
  | .nd _ .lst ds => if areFrz ds = true then some (.lst true ds.reverse) else none
  | _ => none
def revS (z : Str) : Str := ⟨z.cps.toList.reverse.toArray⟩
def rRev (K : PySem.W.Frag) : V → Hp → VK → Prop := fun x H Q => (∃ z : Str, x = .str z ∧ z.length ≤ sizeLine ∧ Q (.str (revS z)) H) ∨ ∃ a xs, x = .ref a ∧ SqL K H a xs ∧ ∀ p, H p = none → Q (.ref p) (upd H p (.lst xs.reverse))
theorem str_indices (n : Nat) : Builtin.Str.strSliceIndices none none (-1) n = (List.range n).reverse := by
  unfold Builtin.Str.strSliceIndices
  have h := PySem.W.krv_sliceRange n
  rw [PySem.W.krv_range] at h
  have h1 : ¬ ((-1 : Int) > 0) := by decide
  simp only [h1, if_false]
  exact h
theorem pe_rev {te : TE} {k : Nat} {p1 p2 p3 pos : Pos} (he : PE X e te) : PE X (.Subscript e (.Slice none none (some (.UnaryOp .USub (.Constant (.int 1) k p1) p2)) p3) pos) (fun σ H Q => te σ H fun x H1 => rRev X.K x H1 Q) := by
  refine ⟨fun pins s σ H Q I h => ?_⟩
  refine Subscript_ (thn (he.run pins s σ H _ I h) fun v s1 ⟨x, H1, I1, r1, q1⟩ => ?_)
  have hst : PO X (some (.UnaryOp .USub (.Constant (.int 1) k p1) p2)) (tPart (tUn (rU fun i => .int (-i)) (tC (.int 1)))) := po_some (pe_un un_neg pe_int)
  refine wpAny_Slice (thn (po_none.run pins s1 σ H1 (fun o H2 => o = none ∧ H2 = H1) I1 ⟨rfl, rfl⟩) fun vl s2 ⟨l, H2, I2, pl, el, e2⟩ => ?_)
  subst el e2
  refine thn (po_none.run pins s2 σ H2 (fun o H3 => o = none ∧ H3 = H2) I2 ⟨rfl, rfl⟩) fun vu s3 ⟨u, H3, I3, pu, eu, e3⟩ => ?_
  subst eu e3
  refine thn (hst.run pins s3 σ H3 (fun o H4 => o = some (-1) ∧ H4 = H3) I3 ⟨1, rfl, -1, rfl, rfl, rfl⟩) fun vs s4 ⟨o, H4, I4, ps, eo, e4⟩ => ?_
  subst eo e4
  have I5 : Inv X pins σ H4 { s4 with heap := s4.heap.push { cls := .type "slice", data := .fields #[vl, vu, vs] } } := I4.kept (t' := s4.toks) fun b ob q => Heap.get?_push_of_some _ q
  show wpAny (model X.prog X.w) X.A (subscriptTail e (.Slice none none (some (.UnaryOp .USub (.Constant (.int 1) k p1) p2)) p3) v (.ref s4.heap.objs.size)) (EP X pins σ Q) X.xe { s4 with heap := s4.heap.push { cls := .type "slice", data := .fields #[vl, vu, vs] } }
  rcases q1 with ⟨z, ex, hz, q⟩ | ⟨a, xs, ex, hx, q⟩
  · subst ex
    obtain ⟨t, rfl⟩ := r1
    obtain ⟨l, rfl, hl⟩ := IsPart.raw pl
    obtain ⟨u, rfl, hu⟩ := IsPart.raw pu
    obtain ⟨st, rfl, hs⟩ := IsPart.raw ps
    cases l with
    | some l => cases hl
    | none =>
    cases u with
    | some u => cases hu
    | none =>
    cases st with
    | none => cases hs
    | some st =>
    obtain ⟨i, ti⟩ := st
    obtain rfl : i = -1 := Option.some.inj hs
    refine tail_any (ops := [.ref s4.heap.objs.size, .str z t]) (typeIs_str _ _ _) PySem.F.slot_str_getitem.lookup ?_ (by with_unfolding_all rfl)
    refine wpAny_getItem_str_slice (l := none) (u := none) (st := some (-1, ti)) ⟨_, Heap.get?_push_size _ rfl, rfl, rfl⟩ rfl ?_
    have er : ((Builtin.Str.strSliceIndices none none (-1) z.length).filterMap (z.cps[·]?)).toArray = (revS z).cps := by
      rw [str_indices, List.filterMap_reverse]
      show ((List.range z.cps.size).filterMap (z.cps[·]?)).reverse.toArray = _
      rw [PySem.W.krv_all]; rfl
    show Made.post (if ((-1 : Int) == 1 && (Builtin.Str.strSliceIndices none none (-1) z.length).length == z.length) = true then Made.val (.str z t)
      else Made.str ⟨((Builtin.Str.strSliceIndices none none (-1) z.length).filterMap (z.cps[·]?)).toArray⟩) (EP X pins σ Q) _
    rw [if_neg (by simp), er]
    refine ⟨?_, .str _, H4, I5.tok _, ⟨_, rfl⟩, q⟩
    show (z.cps.toList.reverse.toArray).size ≤ sizeLine
    rw [List.size_toArray, List.length_reverse]
    exact hz
  · subst ex
    cases r1
    obtain ⟨its, r, ht, hz⟩ := I5.list hx
    have hlen := r.length
    refine tail_any (ops := [.ref a, .ref s4.heap.objs.size]) ht.isList.typeIs (PySem.slot_list_getitem.lookup) ?_ (by with_unfolding_all rfl)
    refine wpAny_getItem_list_slice ht.isList (Heap.IsSliceOf.new _ vl vu vs) pl pu ps (by decide) ?_ (by rw [List.size_toArray]; omega)
    rw [PySem.W.krv_pick]
    refine ⟨.ref _, _, I5.laid (t' := s4.toks) (o := .lst xs.reverse) (fun b ob q => Heap.get?_push_of_some _ q) (Nat.le_refl _) ?_, rfl, q _ (I5.hok.fresh (Nat.le_refl _))⟩
    exact ⟨by rw [List.length_reverse]; exact hz, _, 0, r.reverse, Heap.get?_push_size _ rfl⟩
theorem Rps.reverse {K : Ct} {Z H : Hp} : ∀ {ds : List D} {vs : List V}, Rps K Z H ds vs [] → Rps K Z H ds.reverse vs.reverse []
  | [], vs, r => by obtain ⟨rfl, _⟩ := r; exact ⟨rfl, rfl⟩
  | d :: ds, vs, r => by
    obtain ⟨v, vs', f1, f2, rfl, e, r1, r2⟩ := r
    obtain ⟨rfl, rfl⟩ := List.append_eq_nil_iff.mp e.symm
    rw [List.reverse_cons, List.reverse_cons]
    exact r2.reverse.app ⟨v, [], [], [], rfl, rfl, r1, rfl, rfl⟩
theorem caF_rev : CaF X G (fun xs H Q => ∃ x, xs = [x] ∧ rRev X.K x H Q) revF := by
  intro Z H x v fx d Q zh rx e q
  unfold revF at e
  split at e
  · obtain ⟨rfl, rfl⟩ := rx
    split at e
    · rename_i h; cases e
      refine ⟨_, rfl, .inl ⟨_, rfl, by rw [mkS_len]; exact lim_of h, ?_⟩⟩
      exact q_str q
    · cases e
  · obtain ⟨a, vs, rfl, s, r, _⟩ := rx
    split at e
    · cases e; exact ⟨_, rfl, .inr ⟨a, vs, rfl, zh.seq s, fun l hl => q _ _ _ (Al.newL r.reverse hl)⟩⟩
    · cases e
  · split at e
    · rename_i h; cases e
      obtain ⟨a, vs, rfl, ha, r⟩ := frz_lst zh rx h
      exact ⟨_, rfl, .inr ⟨a, vs, rfl, SqL.of ha, fun l hl => q _ _ _ (Al.newL r.reverse hl)⟩⟩
    · cases e
  · cases e
theorem ev_rev {k : Nat} {p1 p2 p3 : Pos} {b1 : Bool} {f : Env → R Env (D × Env)} (ha : Ev X G W b1 a f) : Ev X G W b1 (.Subscript a (.Slice none none (some (.UnaryOp .USub (.Constant (.int 1) k p1) p2)) p3) pos) (d1 revF f) :=
  ⟨d1_q ha.q, fun σ H Z ρ T Q S P => toE (pe_rev peR) (RunE.mono' (run1 caF_rev ha S P) fun x H ⟨_, e, h⟩ => by cases e; exact h)⟩
theorem ev_revG {k : Nat} {p1 p2 p3 : Pos} {f : Env → Option D} (ha : Bo X G a f) : Ev X G W true (.Subscript a (.Slice none none (some (.UnaryOp .USub (.Constant (.int 1) k p1) p2)) p3) pos) (g1 revF f) :=
  ⟨g1_q, fun σ H Z ρ T Q S P => toE (pe_rev peR) (RunE.mono' (run1g caF_rev ha S P) fun x H ⟨_, e, h⟩ => by cases e; exact h)⟩
end
end Tw

set_option maxRecDepth 100000
namespace Tw
open PySem PySem.Spec PyProof.Rows L2
section
variable {X : Cx} {G : Nat → Addr} {W : WX} {e a b c tg iter o : Expr} {es elts : List Expr} {pos p apos cpos tpos : Pos} {kk : Nat} {K : Ct} {Z H : Hp} {fx : List Nat}
/-! ### list(text), tuple(text) -/
def sgV (x : Str) : List V := x.cps.toList.map fun c => .str ⟨#[c]⟩
theorem sgV_len (x : Str) : (sgV x).length = x.cps.size := by unfold sgV; rw [List.length_map, Array.length_toList]
theorem sgV_vals {x : Str} {acc : Array Value} (h : ItemsOf (SignAt x) acc x.cps.size) : Vals (sgV x) acc.toList := by
  refine vals_of_at (by rw [sgV_len, Array.length_toList, h.1]) fun j v u h1 h2 => ?_
  obtain ⟨c, t, hc, rfl⟩ := h.2 j u (by rw [← Array.getElem?_toList]; exact h2)
  unfold sgV at h1
  rw [List.getElem?_map, Array.getElem?_toList, hc] at h1
  cases h1
  exact ⟨t, rfl⟩
theorem call_list_text (hc : X.calm = true) : CallR X (.type "list") (fun xs H Q => ∃ x : Str, xs = [.str x] ∧ x.length ≤ sizeLine ∧ ∀ l, H l = none → Q (.ref l) (upd H l (.lst (sgV x)))) := by
  intro pins s σ H xs us Q I r h
  obtain ⟨x, rfl, hz, q⟩ := h
  obtain ⟨u, rfl, rx⟩ := vals1 r
  obtain ⟨t, rfl⟩ := rx
  refine PySem.call_list_str (I.ok.hd hc) x t (hn := hz) fun h' tk acc' c' hk hS hacc => ?_
  refine ⟨.ref s.heap.objs.size, _, I.laid (t' := tk) hk (Nat.le_refl _) (show ObjOk X.prog X.w _ h' _ (.lst (sgV x)) from ⟨by rw [sgV_len]; exact hz, acc'.toList, c', sgV_vals hacc, by rw [Array.toArray_toList]; exact hS⟩), rfl, q _ (I.hok.fresh (Nat.le_refl _))⟩
theorem call_tuple_text (hc : X.calm = true) : CallR X (.type "tuple") (fun xs H Q => ∃ x : Str, xs = [.str x] ∧ x.length ≤ sizeLine ∧ ∀ l, H l = none → Q (.ref l) (upd H l (.tup (sgV x)))) := by
  intro pins s σ H xs us Q I r h
  obtain ⟨x, rfl, hz, q⟩ := h
  obtain ⟨u, rfl, rx⟩ := vals1 r
  obtain ⟨t, rfl⟩ := rx
  refine PySem.call_tuple_str (I.ok.hd hc) x t (fun h' tk acc' hk hacc => ?_) hz
  have I1 : Inv X pins σ H { s with heap := h', toks := tk } := I.kept (t' := tk) hk
  have I2 : Inv X pins σ (upd H h'.objs.size (.tup (sgV x))) { s with heap := h'.push { cls := .type "tuple", data := .seq acc' }, toks := tk } :=
    I1.laid (t' := tk) (fun b o e => Heap.get?_push_of_some _ e) (Nat.le_refl _) (show ObjOk X.prog X.w _ _ _ (.tup (sgV x)) from ⟨by rw [sgV_len]; exact hz, acc'.toList, sgV_vals hacc, by rw [Array.toArray_toList]; exact IsTup.new _ _⟩)
  exact ⟨.ref h'.objs.size, _, I2, rfl, q _ (I1.hok.fresh (Nat.le_refl _))⟩
def sgD (l : List Nat) : List D := l.map fun c => .str [c]
theorem sgD_rps (l : List Nat) : Rps K Z H (sgD l) (sgV (mkS l)) [] := by
  show Rps K Z H (sgD l) (l.map _) []
  induction l with
  | nil => exact ⟨rfl, rfl⟩
  | cons c l ih => exact ⟨_, _, [], [], rfl, rfl, ⟨rfl, rfl⟩, ih⟩
def listF2 : F1
  | .str l => if l.length ≤ lim then some (.lst true (sgD l)) else none
  | d => listF d
def tupF2 : F1
  | .str l => if l.length ≤ lim then some (.tup (sgD l)) else none
  | d => tupF d
abbrev rList2 (X : Cx) : List V → Hp → VK → Prop := fun xs H Q => (∃ p ys, xs = [.ref p] ∧ (SqL X.K H p ys ∨ SqT X.K H p ys) ∧ ∀ l, H l = none → Q (.ref l) (upd H l (.lst ys))) ∨ (∃ x : Str, xs = [.str x] ∧ x.length ≤ sizeLine ∧ ∀ l, H l = none → Q (.ref l) (upd H l (.lst (sgV x))))
abbrev rTup2 (X : Cx) : List V → Hp → VK → Prop := fun xs H Q => (∃ p ys, xs = [.ref p] ∧ ((SqL X.K H p ys ∧ ∀ l, H l = none → Q (.ref l) (upd H l (.tup ys))) ∨ (SqT X.K H p ys ∧ Q (.ref p) H))) ∨ (∃ x : Str, xs = [.str x] ∧ x.length ≤ sizeLine ∧ ∀ l, H l = none → Q (.ref l) (upd H l (.tup (sgV x))))
theorem call_list2 (hc : X.calm = true) : CallR X (.type "list") (rList2 X) := call_list_of.or (call_list_text hc)
theorem call_tup2 (hc : X.calm = true) : CallR X (.type "tuple") (rTup2 X) := call_tuple_of.or (call_tuple_text hc)
theorem caF_list2 : CaF X G (rList2 X) listF2 := by
  intro Z H x v fx d Q zh rx e q
  unfold listF2 at e
  split at e
  · obtain ⟨rfl, rfl⟩ := rx
    split at e
    · rename_i h; cases e
      exact .inr ⟨_, rfl, by rw [mkS_len]; exact lim_of h, fun l hl => q _ _ _ (Al.newL (sgD_rps _) hl)⟩
    · cases e
  · exact .inl (caF_list Z H x v fx d Q zh rx e q)
theorem caF_tup2 : CaF X G (rTup2 X) tupF2 := by
  intro Z H x v fx d Q zh rx e q
  unfold tupF2 at e
  split at e
  · obtain ⟨rfl, rfl⟩ := rx
    split at e
    · rename_i h; cases e
      exact .inr ⟨_, rfl, by rw [mkS_len]; exact lim_of h, fun l hl => q _ _ _ (Al.newT zh (sgD_rps _) hl)⟩
    · cases e
  · exact .inl (caF_tup Z H x v fx d Q zh rx e q)
/-! ### places, once more -/
def optSet (o : Option D) (ρ : Env) (i : Nat) (q : List Nat) (y : D) : Env := match o with
  | some d => ρ.set i (some (setP d q y))
  | none => ρ
theorem putP_eq (i : Nat) (q : List Nat) (y : D) (ρ : Env) : putP ρ (i, q) y = optSet (gVar i ρ) ρ i q y := by
  unfold putP optSet
  cases gVar i ρ <;> rfl
theorem optSet_some (d : D) (ρ : Env) (i : Nat) (q : List Nat) (y : D) : optSet (some d) ρ i q y = ρ.set i (some (setP d q y)) := rfl
def setO (ds : List D) (n : Nat) (p : List Nat) (y : D) : Option D → List D
  | some x => ds.set n (setP x p y)
  | none => ds
theorem setP_lE (m : Bool) (k : Kd) (ds : List D) (n : Nat) (p : List Nat) (y : D) : setP (.nd m k ds) (n :: p) y = .nd m k (setO ds n p y (ds[n]?)) := by
  show D.nd m k (match ds[n]? with | some x => ds.set n (setP x p y) | none => ds) = _
  cases ds[n]? <;> rfl
theorem setP_tE (ds : List D) (n : Nat) (p : List Nat) (y : D) : setP (.tup ds) (n :: p) y = .tup (setO ds n p y (ds[n]?)) := by
  show D.tup (match ds[n]? with | some x => ds.set n (setP x p y) | none => ds) = _
  cases ds[n]? <;> rfl
theorem setO_some (ds : List D) (n : Nat) (p : List Nat) (y x : D) : setO ds n p y (some x) = ds.set n (setP x p y) := rfl
theorem obind_some {α β : Type} (a : α) (f : α → Option β) : (some a).bind f = f a := rfl
theorem ixN_nat {n r : Nat} (h : r < n) : ixN n (r : Int) = some r := by
  unfold ixN
  rw [if_pos (by omega), if_pos (by omega)]; rfl
theorem okD_ge : ∀ (n m : Nat) (d : D), n ≤ m → okD n d = true → okD m d = true := fun n m d h e => by
  suffices K : ∀ n, (∀ d, okD n d = true → ∀ m, n ≤ m → okD m d = true) by exact K n d e m h
  intro n
  induction n with
  | zero =>
    intro d e m h
    cases d with
    | tup ds => cases e
    | nd a k ds => cases k <;> cases e
    | glb _ => cases e
    | non => cases m <;> rfl
    | bl _ => cases m <;> rfl
    | int _ => cases m <;> rfl
    | str l => cases m <;> exact e
  | succ n ih =>
    intro d e m h
    have go : ∀ ds : List D, okDs n ds = true → ∀ m, n ≤ m → okDs m ds = true := by
      intro ds
      induction ds with
      | nil => intro _ m _; cases m <;> rfl
      | cons d ds ih2 =>
        intro e m h
        have e' : (okD n d && okDs n ds) = true := by cases n <;> exact e
        rw [Bool.and_eq_true] at e'
        have : (okD m d && okDs m ds) = true := by rw [ih d e'.1 m h, ih2 e'.2 m h]; rfl
        cases m <;> exact this
    cases m with
    | zero => omega
    | succ m =>
      cases d with
      | tup ds => exact go ds e m (by omega)
      | nd a k ds => cases k with
        | lst => exact go ds e m (by omega)
        | _ => cases e
      | glb _ => cases e
      | non => rfl
      | bl _ => rfl
      | int _ => rfl
      | str l => exact e
end
end Tw

set_option maxRecDepth 100000
namespace Tw
open PySem PySem.Spec PyProof.Rows L2
section
variable {X : Cx} {G : Nat → Addr} {W : WX} {e a b c tg iter o : Expr} {es elts : List Expr} {st : Stmt} {pos p apos cpos tpos : Pos} {kk : Nat} {K : Ct} {Z H : Hp} {fx : List Nat}
/-! ### frozen at once -/
theorem ev_frz {b1 : Bool} {f : Env → R Env (D × Env)} (h : Ev X G W b1 a f) : Ev X G W b1 a (dFrz f) := by
  refine ⟨bindq h.q fun p d ρ' e => by cases e; rfl, fun σ H Z ρ T Q S P => h.run σ H Z ρ T Q S ?_⟩
  unfold dFrz at P
  cases e1 : f ρ with
  | stuck => rw [e1] at P; exact P
  | exc c fs ρ' => rw [e1] at P; exact P
  | ok p =>
    obtain ⟨d, ρ1⟩ := p
    rw [e1] at P
    intro v H1 Z1 z1 h1 S1
    obtain ⟨Z2, z2, s2⟩ := S1.freeze
    exact P v H1 Z2 (z1.trans z2) h1 s2
theorem Sa.frzAt {σ : Sg} {ρ : Env} {T : List It} {i : Nat} {d : D} (S : Sa K Z H σ (ρ.set i (some d)) T) : ∃ Z', Same Z Z' ∧ Sa K Z' H σ (ρ.set i (some (frz d))) T := by
  by_cases hi : i < ρ.length
  · obtain ⟨v, hv, S1⟩ := S.take (i := i) (d := d) (by rw [List.getElem?_set_self hi])
    rw [List.set_set] at S1
    obtain ⟨Z', z, S2⟩ := S1.freeze
    exact ⟨Z', z, S2.back (List.getElem?_eq_some_iff.mp hv).1 hv⟩
  · rw [List.set_eq_of_length_le (by omega)] at S ⊢
    exact ⟨Z, Same.refl _, S⟩
theorem sx_frzSet {i : Nat} {f : Env → R Env (D × Env)} (h : Sx X G W fx st (sAsg f (wName i))) : Sx X G W fx st (sAsg (dFrz f) (wName i)) := by
  refine ⟨fun σ H Z ρ T D S P => h.run σ H Z ρ T D S ?_⟩
  rw [sAsg_eq] at P ⊢
  unfold dFrz at P
  cases e1 : f ρ with
  | stuck => rw [e1] at P; exact P
  | exc c fs ρ' => rw [e1] at P; exact P
  | ok p =>
    obtain ⟨d, ρ1⟩ := p
    rw [e1] at P
    intro σ' H' Z' z' f' S'
    obtain ⟨Z2, z2, S2⟩ := Sa.frzAt S'
    exact P σ' H' Z2 (z'.trans z2) f' S2
theorem dFrz_eq (f : Env → R Env (D × Env)) (ρ : Env) : dFrz f ρ = (f ρ).bind fun p => .ok (frz p.1, p.2) := rfl
theorem wp_dFrz {Q : D × Env → Prop} {E : XQ Env} (t : Tag Q) (u : Tag E) (ρ : Env) (f : Env → R Env (D × Env)) : Wp (dFrz f ρ) Q E t u = Wp (f ρ) (fun p => Q (frz p.1, p.2)) E .mk .mk := by
  show Wp ((f ρ).bind _) Q E t u = _
  rw [wp_bind]; rfl
section
variable {Q : List D × Env → Prop} {E : XQ Env} (t : Tag Q) (u : Tag E) (ρ : Env) (own : List Nat) (w : D → Env → Option Env) (c : Env → R Env (Bool × Env)) (h : Env → R Env (D × Env))
theorem wp_comp_nil (acc : List D) : Wp (compL own w c h [] ρ acc) Q E t u = Q (acc, ρ) := propext ⟨fun h => h, fun h => h⟩
theorem wp_comp_cons (d : D) (ds acc : List D) : Wp (compL own w c h (d :: ds) ρ acc) Q E t u = Op (w d ρ) (fun ρ1 => Wp (c ρ1) (fun p => Br p.1 (Wp (h p.2) (fun y => Nm (wipeE y.2 own) (fun ρ2 => Wp (compL own w c h ds ρ2 (acc ++ [y.1])) Q E .mk .mk) .mk) Never .mk .mk) (Nm (wipeE p.2 own) (fun ρ2 => Wp (compL own w c h ds ρ2 acc) Q E .mk .mk) .mk) .mk .mk) Never .mk .mk) .mk := by
  show Wp (match w d ρ with | none => .stuck | some ρ1 => match c ρ1 with
      | .ok (true, ρ2) => match h ρ2 with
        | .ok (y, ρ3) => compL own w c h ds (wipeE ρ3 own) (acc ++ [y])
        | _ => .stuck
      | .ok (false, ρ2) => compL own w c h ds (wipeE ρ2 own) acc
      | _ => .stuck) Q E t u = _
  cases w d ρ with
  | none => rfl
  | some ρ1 =>
    show Wp (match c ρ1 with
      | .ok (true, ρ2) => match h ρ2 with
        | .ok (y, ρ3) => compL own w c h ds (wipeE ρ3 own) (acc ++ [y])
        | _ => .stuck
      | .ok (false, ρ2) => compL own w c h ds (wipeE ρ2 own) acc
      | _ => .stuck) Q E t u = Wp (c ρ1) _ _ .mk .mk
    cases c ρ1 with
    | stuck => rfl
    | exc _ _ _ => rfl
    | ok p =>
      obtain ⟨b, ρ2⟩ := p
      cases b with
      | false => rfl
      | true =>
        show Wp (match h ρ2 with
          | .ok (y, ρ3) => compL own w c h ds (wipeE ρ3 own) (acc ++ [y])
          | _ => .stuck) Q E t u = Wp (h ρ2) _ _ .mk .mk
        cases h ρ2 with
        | stuck => rfl
        | exc _ _ _ => rfl
        | ok q => obtain ⟨y, ρ3⟩ := q; rfl
end
end
end Tw

set_option maxRecDepth 100000
namespace Tw
open PySem PySem.Spec PyProof.Rows L2
/-! ### dict(zip(a text, a list)), the machine's side: KE.KDictZip's zip of two lists told for any two iterators (KE.GoesZip's Draws) -/
section
variable {prog : Program} {w : World} {A : Around} {E : Value → Shared → Prop} {s : Shared} {z TI TO i1 i2 T : Addr} {fp1 fp2 : List Addr} {n1 n2 i : Nat} {P1 P2 : Nat → Value → Prop} {St1 St2 : Nat → Heap → Prop} {f : Bool} {oT : Obj}
theorem zipH_item {Q : Value → Shared → Prop} (S : ZipSep2 z TI TO i1 i2 fp1 fp2) (D1 : Draws prog w A i1 fp1 n1 P1 St1) (D2 : Draws prog w A i2 fp2 n2 P2 St2)
    (hz : IsZipHeld s.heap z TI TO T f) (hT : s.heap.get? T = some oT) (hTI : IsPair s.heap TI (.ref i1) (.ref i2)) (st1 : St1 i s.heap) (st2 : St2 i s.heap) (l1 : i < n1) (l2 : i < n2)
    (hQ : ∀ x1 x2 h' tk, P1 i x1 → P2 i x2 → IsZipHeld h' z TI TO T true → St1 (i + 1) h' → St2 (i + 1) h' → IsPair h' s.heap.objs.size x1 x2 → h'.objs.size = s.heap.objs.size + 1 →
      (∀ c o, c ≠ z → c ≠ i1 → c ≠ i2 → s.heap.get? c = some o → h'.get? c = some o) → Q (.ref s.heap.objs.size) { s with heap := h', toks := tk }) :
    wpAny (model prog w) A (Builtin.«zip.__next__» ⟨[.ref z], []⟩) (fun fin s' => ∃ v, fin = .done (.ret v) ∧ Q v s') E s := by
  obtain ⟨hp, g, d, tk0, os⟩ := s
  show wpAny _ A (field (.ref z) 2 >>= _) (fun fin s' => ∃ v, fin = Fin.done (.ret v) ∧ Q v s') _ ⟨hp, g, d, tk0, os⟩
  refine wpAny_bind (wpAny_field hz rfl (x := .bool false) rfl (show wpAny _ A (field (.ref z) 3 >>= _) _ _ _ from wpAny_bind (wpAny_field hz rfl (x := .ref TI) rfl (wpAny_bind (wpAny_seqItems hTI rfl ?_)))))
  refine (show wpAny _ A (Builtin.SmallTypes.ownedTupleIsFree (.ref z) >>= _) _ _ _ from wpAny_bind (wpAny_tupleHeld_zip hz hT fun g0 hz0 hs0 => ?_))
  replace hs0 : Heap.SameBut z hp g0 := hs0
  simp only [Bool.false_eq_true, if_false]
  refine wpAny_bind ?_
  rw [← Array.forIn_toList]; simp only [List.forIn_cons, List.forIn_nil]
  refine wpAny_bind (wpAny_bind (wpAny_holding (show wpAny _ A (Builtin.SmallTypes.nextOf (.ref i1) >>= _) _ _ ⟨g0, g, d, tk0, os⟩ from wpAny_bind (D1.item i _ _ _ l1 (D1.over st1 hs0 S.zf1) fun x1 p1 tk1 hx1 sn1 hp1 => wpAny_pure (wpAny_pure ?_)))))
  replace hp1 : Heap.SameBut i1 g0 p1 := hp1
  refine wpAny_bind (wpAny_bind (wpAny_holding (show wpAny _ A (Builtin.SmallTypes.nextOf (.ref i2) >>= _) _ _ ⟨p1, g, d, tk1, os⟩ from wpAny_bind (D2.item i _ _ _ l2 (D2.over (D2.over st2 hs0 S.zf2) hp1 S.sep1_2) fun x2 p2 tk2 hx2 sn2 hp2 => wpAny_pure (wpAny_pure (wpAny_pure ?_))))))
  replace hp2 : Heap.SameBut i2 p1 p2 := hp2
  refine (show wpAny _ A (newTuple [x1, x2] >>= _) _ _ ⟨p2, g, d, tk2, os⟩ from wpAny_bind (wpAny_newTuple (wpAny_pure ⟨_, rfl, ?_⟩)))
  have hsz : p2.objs.size = hp.objs.size := by rw [hp2.1, hp1.1, hs0.1]
  have zz : IsZipHeld p2 z TI TO T true := hp2.extBut _ _ S.zi2 (hp1.extBut _ _ S.zi1 hz0)
  have keep : ∀ c o, c ≠ z → c ≠ i1 → c ≠ i2 → hp.get? c = some o → p2.get? c = some o := fun c o c1 c2 c3 e => hp2.extBut _ _ c3 (hp1.extBut _ _ c2 (hs0.extBut _ _ c1 e))
  have up : ∀ c o, p2.get? c = some o → (p2.push { cls := .type "tuple", data := .seq #[x1, x2] }).get? c = some o := fun c o e => Heap.get?_push_of_some _ e
  have pr : IsPair (p2.push { cls := .type "tuple", data := .seq #[x1, x2] }) p2.objs.size x1 x2 := Heap.get?_push_size _ rfl
  have sz : (p2.push { cls := .type "tuple", data := .seq #[x1, x2] }).objs.size = p2.objs.size + 1 := Heap.size_push ..
  show Q (.ref p2.objs.size) _
  rw [hsz] at pr sz ⊢
  exact hQ x1 x2 _ _ hx1 hx2 (up _ _ zz) (D1.frame _ _ _ (D1.over sn1 hp2 S.sep2_1) fun b _ o e => up b o e) (D2.frame _ _ _ sn2 fun b _ o e => up b o e) pr sz fun c o c1 c2 c3 e => up c o (keep c o c1 c2 c3 e)
theorem zipH_end {Q : Fin → Shared → Prop} (S : ZipSep2 z TI TO i1 i2 fp1 fp2) (D1 : Draws prog w A i1 fp1 n1 P1 St1)
    (hz : IsZipHeld s.heap z TI TO T f) (hT : s.heap.get? T = some oT) (hTI : IsPair s.heap TI (.ref i1) (.ref i2)) (st1 : St1 n1 s.heap)
    (hE : ∀ h' tk e, (∀ c o, c ≠ z → c ≠ i1 → c ≠ i2 → s.heap.get? c = some o → h'.get? c = some o) → (∃ o, h'.get? e = some o ∧ o.cls = .type "StopIteration") → E (.ref e) { s with heap := h', toks := tk }) :
    wpAny (model prog w) A (Builtin.«zip.__next__» ⟨[.ref z], []⟩) Q E s := by
  obtain ⟨hp, g, d, tk0, os⟩ := s
  show wpAny _ A (field (.ref z) 2 >>= _) Q _ ⟨hp, g, d, tk0, os⟩
  refine wpAny_bind (wpAny_field hz rfl (x := .bool false) rfl (show wpAny _ A (field (.ref z) 3 >>= _) Q _ _ from wpAny_bind (wpAny_field hz rfl (x := .ref TI) rfl (wpAny_bind (wpAny_seqItems hTI rfl ?_)))))
  refine (show wpAny _ A (Builtin.SmallTypes.ownedTupleIsFree (.ref z) >>= _) Q _ _ from wpAny_bind (wpAny_tupleHeld_zip hz hT fun g0 hz0 hs0 => ?_))
  replace hs0 : Heap.SameBut z hp g0 := hs0
  simp only [Bool.false_eq_true, if_false]
  refine wpAny_bind ?_
  rw [← Array.forIn_toList]; simp only [List.forIn_cons, List.forIn_nil]
  refine wpAny_bind (wpAny_bind (wpAny_holding (show wpAny _ A (Builtin.SmallTypes.nextOf (.ref i1) >>= _) _ _ ⟨g0, g, d, tk0, os⟩ from wpAny_bind (D1.done _ _ _ (D1.over st1 hs0 S.zf1) fun p1 e hp1 he => ?_))))
  exact hE p1 _ e (fun c o c1 c2 c3 q => hp1 _ _ c2 (hs0.extBut _ _ c1 q)) he
theorem nextH_item {Q : Option Value → Shared → Prop} (S : ZipSep2 z TI TO i1 i2 fp1 fp2) (D1 : Draws prog w A.in1 i1 fp1 n1 P1 St1) (D2 : Draws prog w A.in1 i2 fp2 n2 P2 St2)
    (hz : IsZipHeld s.heap z TI TO T f) (hT : s.heap.get? T = some oT) (hTI : IsPair s.heap TI (.ref i1) (.ref i2)) (st1 : St1 i s.heap) (st2 : St2 i s.heap) (l1 : i < n1) (l2 : i < n2)
    (hQ : ∀ x1 x2 h' tk, P1 i x1 → P2 i x2 → IsZipHeld h' z TI TO T true → St1 (i + 1) h' → St2 (i + 1) h' → IsPair h' s.heap.objs.size x1 x2 → h'.objs.size = s.heap.objs.size + 1 →
      (∀ c o, c ≠ z → c ≠ i1 → c ≠ i2 → s.heap.get? c = some o → h'.get? c = some o) → Q (some (.ref s.heap.objs.size)) { s with heap := h', toks := tk }) :
    wpAny (model prog w) A (pyNext (.ref z)) Q E s := by
  have hTy : s.TypeIs (.ref z) "zip" := ⟨_, hz, rfl⟩
  unfold pyNext
  exact wpAny_bind (wpAny_attempt (wpAny_callSpecial?_slot (name := Str.ofString "__next__") hTy F.slot_zip_next (wpAny_call_entry F.slot_zip_next hTy F.entry_zip_next
      (zipH_item S D1 D2 hz hT hTI st1 st2 l1 l2 fun x1 x2 h' tk y1 y2 a1 a2 a3 a4 a5 a6 => wpAny_pure (hQ x1 x2 h' tk y1 y2 a1 a2 a3 a4 a5 a6)) (F.args_zip_next_1 _))))
theorem nextH_end {Q : Option Value → Shared → Prop} (S : ZipSep2 z TI TO i1 i2 fp1 fp2) (D1 : Draws prog w A.in1 i1 fp1 n1 P1 St1)
    (hz : IsZipHeld s.heap z TI TO T f) (hT : s.heap.get? T = some oT) (hTI : IsPair s.heap TI (.ref i1) (.ref i2)) (st1 : St1 n1 s.heap)
    (hQ : ∀ h' tk, (∀ c o, c ≠ z → c ≠ i1 → c ≠ i2 → s.heap.get? c = some o → h'.get? c = some o) → Q none { s with heap := h', toks := tk }) :
    wpAny (model prog w) A (pyNext (.ref z)) Q E s := by
  have hTy : s.TypeIs (.ref z) "zip" := ⟨_, hz, rfl⟩
  unfold pyNext
  refine wpAny_bind (wpAny_attempt (wpAny_callSpecial?_slot (name := Str.ofString "__next__") hTy F.slot_zip_next (wpAny_call_entry F.slot_zip_next hTy F.entry_zip_next (zipH_end S D1 hz hT hTI st1 fun h' tk e hk he => ?_) (F.args_zip_next_1 _))))
  obtain ⟨o, ho, hc⟩ := he
  exact wpAny_bind (wpAny_isInstance (T := "StopIteration") (b := true) ⟨o, ho, hc⟩ isSubtype_stop (wpAny_pure (hQ _ _ hk)))
end
section
variable {prog : Program} {w : World}
abbrev TxtRel (x : Str) (ys : Array Value) (i : Nat) (k v : Value) : Prop := (∃ c u, x.cps[i]? = some c ∧ k = .str ⟨#[c]⟩ u) ∧ ys[i]? = some v
abbrev TxtSt (z TI TO i1 i2 l d : Addr) (x : Str) (t : Tok) (ys : Array Value) (i : Nat) (h : Heap) : Prop := IsPair h TI (.ref i1) (.ref i2) ∧ h.IsStrIter i1 "str_ascii_iterator" x t i ∧ (h.IsListIter i2 l i ∧ h.IsList l ys) ∧
  ((IsZip h z TI TO .none ∧ ∃ a b, IsPair h TO a b) ∨ ∃ T f oT, IsZipHeld h z TI TO T f ∧ h.get? T = some oT ∧ T ≠ z ∧ T ≠ i1 ∧ T ≠ i2 ∧ T ≠ d)
theorem srcTxt {A : Around} (hA : A.handled = none) {z TI TO i1 i2 l d : Addr} (S : ZipSep2 z TI TO i1 i2 [i1] [i2, l]) (hl : l ≠ i2) (x : Str) (t : Tok) (ys : Array Value) (hn : ys.size = x.cps.size) (dz : d ≠ z) (dTI : d ≠ TI) (dTO : d ≠ TO) (d1 : d ≠ i1) (d2 : d ≠ i2) (dl : d ≠ l) :
    PairSrc prog w A z d [z, TO, i1, i2] x.cps.size (TxtRel x ys) (TxtSt z TI TO i1 i2 l d x t ys) where
  off := fun hm => by
    have hm : d = z ∨ d = TO ∨ d = i1 ∨ d = i2 := by simpa using hm
    exact hm.elim dz fun hm => hm.elim dTO fun hm => hm.elim d1 d2
  frame := fun i h1 h2 st hk => by
    obtain ⟨hTI, st1, st2, hz⟩ := st
    refine ⟨hk _ _ dTI.symm hTI, let ⟨o, ho, r⟩ := st1; ⟨o, hk _ _ d1.symm ho, r⟩, ⟨st2.1.at fun o e => hk _ o d2.symm e, st2.2.at fun o e => hk _ o dl.symm e⟩, ?_⟩
    rcases hz with ⟨hz, a, b, hTO⟩ | ⟨T, f, oT, hz, hT, r1, r2, r3, r4⟩
    · exact .inl ⟨hk _ _ dz.symm hz, a, b, hk _ _ dTO.symm hTO⟩
    · exact .inr ⟨T, f, oT, hk _ _ dz.symm hz, hk _ _ r4 hT, r1, r2, r3, r4⟩
  item := fun i s1 Q1 E1 hi st hds hQ => by
    obtain ⟨hTI, st1, st2, hz⟩ := st
    have D1 : Draws prog w A.in1 i1 [i1] x.cps.size _ _ := Draws.strAscii (A := A.in1) hA i1 x t
    have D2 : Draws prog w A.in1 i2 [i2, l] ys.size _ _ := Draws.list (A := A.in1) hA i2 l hl ys
    have lt : ∀ {c o}, s1.heap.get? c = some o → s1.heap.objs.size ≠ c := fun e => Nat.ne_of_gt (Heap.lt_size e)
    have n1 : s1.heap.objs.size ≠ i1 := let ⟨_, e, _⟩ := st1; lt e
    have n2 : s1.heap.objs.size ≠ i2 := let ⟨_, e, _⟩ := st2.1; lt e
    rcases hz with ⟨hz, a, b, hTO⟩ | ⟨T, f, oT, hz, hT, r1, r2, r3, r4⟩
    · refine wpAny_pyNext_zipD2_item S D1 D2 hz hTI hTO st1 st2 hi (by omega) fun x1 x2 h' tk y1 y2 b1 b2 e1 e2 b5 b6 hk => ?_
      refine hQ s1.heap.objs.size x1 x2 h' tk ⟨y1, y2⟩ (.inl ⟨_, b5, rfl, _, rfl⟩) ⟨hk _ _ S.TIz S.TITO S.TIi1 S.TIi2 hTI, e1, e2, .inr ⟨s1.heap.objs.size, false, _, b1, b5, lt hz, n1, n2, Nat.ne_of_gt hds⟩⟩ fun c o hc e => ?_
      have hc : c ≠ z ∧ c ≠ TO ∧ c ≠ i1 ∧ c ≠ i2 := by simpa using hc
      exact hk c o hc.1 hc.2.1 hc.2.2.1 hc.2.2.2 e
    · refine nextH_item S D1 D2 hz hT hTI st1 st2 hi (by omega) fun x1 x2 h' tk y1 y2 b1 e1 e2 b5 b6 hk => ?_
      refine hQ s1.heap.objs.size x1 x2 h' tk ⟨y1, y2⟩ (.inl ⟨_, b5, rfl, _, rfl⟩) ⟨hk _ _ S.TIz S.TIi1 S.TIi2 hTI, e1, e2, .inr ⟨T, true, oT, b1, hk _ _ r1 r2 r3 hT, r1, r2, r3, r4⟩⟩ fun c o hc e => ?_
      have hc : c ≠ z ∧ c ≠ TO ∧ c ≠ i1 ∧ c ≠ i2 := by simpa using hc
      exact hk c o hc.1 hc.2.2.1 hc.2.2.2 e
  done := fun s1 Q1 E1 st hQ => by
    obtain ⟨hTI, st1, st2, hz⟩ := st
    have D1 : Draws prog w A.in1 i1 [i1] x.cps.size _ _ := Draws.strAscii (A := A.in1) hA i1 x t
    have D2 : Draws prog w A.in1 i2 [i2, l] ys.size _ _ := Draws.list (A := A.in1) hA i2 l hl ys
    rcases hz with ⟨hz, a, b, hTO⟩ | ⟨T, f, oT, hz, hT, r1, r2, r3, r4⟩
    · refine wpAny_pyNext_zipD2_end S D1 D2 hz hTI hTO st1 st2 (Nat.le_refl _) (by omega) (.inl rfl) fun h' tk hk => hQ h' tk fun c o hc e => ?_
      have hc : c ≠ z ∧ c ≠ TO ∧ c ≠ i1 ∧ c ≠ i2 := by simpa using hc
      exact hk c o hc.1 hc.2.1 hc.2.2.1 hc.2.2.2 e
    · refine nextH_end S D1 hz hT hTI st1 fun h' tk hk => hQ h' tk fun c o hc e => ?_
      have hc : c ≠ z ∧ c ≠ TO ∧ c ≠ i1 ∧ c ≠ i2 := by simpa using hc
      exact hk c o hc.1 hc.2.2.1 hc.2.2.2 e
theorem argTxt {z TI TO i1 i2 l : Addr} (S : ZipSep2 z TI TO i1 i2 [i1] [i2, l]) (hl : l ≠ i2) (x : Str) (t : Tok) (ys : Array Value) (hn : ys.size = x.cps.size) :
    PairArg prog w "zip" z [z, TI, TO, i1, i2, l] [z, TO, i1, i2] x.cps.size (TxtRel x ys)
      (fun h => IsZip h z TI TO .none ∧ IsPair h TI (.ref i1) (.ref i2) ∧ (∃ a b, IsPair h TO a b) ∧ h.IsStrIter i1 "str_ascii_iterator" x t 0 ∧ h.IsListIter i2 l 0 ∧ h.IsList l ys) where
  type := fun s ok => ⟨_, ok.1, rfl⟩
  notDict := by decide
  keep := fun h h' ⟨hz, hTI, ⟨a, b, hTO⟩, ⟨o, ho, r⟩, h2, h3⟩ hk => ⟨hk _ _ hz, hk _ _ hTI, ⟨a, b, hk _ _ hTO⟩, ⟨o, hk _ _ ho, r⟩, h2.at fun o e => hk _ o e, h3.at fun o e => hk _ o e⟩
  there := fun h ok b hb => by
    obtain ⟨hz, hTI, ⟨a, c, hTO⟩, ⟨o1, h1, _⟩, ⟨o2, h2, _⟩, ⟨o3, h3, _⟩⟩ := ok
    have hb : b = z ∨ b = TI ∨ b = TO ∨ b = i1 ∨ b = i2 ∨ b = l := by simpa using hb
    rcases hb with rfl | rfl | rfl | rfl | rfl | rfl
    all_goals first | exact ⟨_, h1⟩ | exact ⟨_, h2⟩ | exact ⟨_, h3⟩ | exact ⟨_, hz⟩ | exact ⟨_, hTI⟩ | exact ⟨_, hTO⟩
  sub := fun b hb => by
    have hb : b = z ∨ b = TO ∨ b = i1 ∨ b = i2 := by simpa using hb
    rcases hb with rfl | rfl | rfl | rfl <;> simp
  noKeys := fun A s Q E hA ok h => getAttrOr_miss_zip ok.1 rfl rfl rfl zip_no_keys (by decide +kernel) hA h
  iter := fun A s d Q E hA ok hd hdf h => by
    obtain ⟨hz, hTI, ⟨a, b, hTO⟩, h1, h2, h3⟩ := ok
    have hdf : d ≠ z ∧ d ≠ TI ∧ d ≠ TO ∧ d ≠ i1 ∧ d ≠ i2 ∧ d ≠ l := by simpa using hdf
    exact wpAny_pyIter_zip hz (h z [z, TO, i1, i2] _ s.heap s.toks (srcTxt hA S hl x t ys hn hdf.1 hdf.2.1 hdf.2.2.1 hdf.2.2.2.1 hdf.2.2.2.2.1 hdf.2.2.2.2.2)
      ⟨hTI, h1, ⟨h2, h3⟩, .inl ⟨hz, a, b, hTO⟩⟩ (fun _ _ e => e) fun b hb => .inl hb)
end
section
abbrev zt1 (h : Heap) (x : Str) (t : Tok) : Heap := h.push { cls := .type "str_ascii_iterator", data := .fields #[.str x t, .int 0 0] }
abbrev zt2 (h : Heap) (x : Str) (t : Tok) (l : Addr) : Heap := (zt1 h x t).push { cls := .type "list_iterator", data := .fields #[.ref l, .int 0 0] }
abbrev zt3 (h : Heap) (x : Str) (t : Tok) (l : Addr) : Heap := (zt2 h x t l).push { cls := .type "tuple", data := .seq #[.ref h.objs.size, .ref (zt1 h x t).objs.size] }
abbrev zt4 (h : Heap) (x : Str) (t : Tok) (l : Addr) : Heap := (zt3 h x t l).push { cls := .type "tuple", data := .seq #[.none, .none] }
abbrev zt5 (h : Heap) (x : Str) (t : Tok) (l : Addr) : Heap := (zt4 h x t l).push { cls := .type "zip", data := .fields #[.none, .bool false, .bool false, .ref (zt2 h x t l).objs.size, .ref (zt3 h x t l).objs.size] }
set_option maxHeartbeats 8000000 in
theorem meets_zipT (x : Str) (t : Tok) (l : Addr) (ys : Array Value) (ha : x.cps.all (· < 128) = true) :
    Meets (Builtin.«zip.__new__» ⟨[.type "zip", .str x t, .ref l], []⟩) (fun _ R s => s.heap.IsList l ys ∧ R (.ok (.ret (.ref (zt4 s.heap x t l).objs.size))) { s with heap := zt5 s.heap x t l }) :=
  .of_wp fun prog w A R s h => by
    obtain ⟨hp, g, d, tk, os⟩ := s; obtain ⟨hl, h⟩ := h
    have hsub := sub_zip
    have hL : Heap.IsList (Shared.heap ⟨hp.push { cls := .type "str_ascii_iterator", data := .fields #[.str x t, .int 0 0] }, g, d, tk, os⟩) l ys := Heap.IsList.push hl _
    wp_walk using wpAny_pyIter_ascii ha, wpAny_pyIter_list hL
    exact ⟨_, rfl, h⟩
theorem call_zipT {prog : Program} {w : World} {A : Around} {E : Value → Shared → Prop} {s : Shared} {x : Str} {t : Tok} {l : Addr} {ys : Array Value} {Q : Value → Shared → Prop} (ha : x.cps.all (· < 128) = true) (hl : s.heap.IsList l ys)
    (h : ∀ h', IsZip h' (s.heap.objs.size + 4) (s.heap.objs.size + 2) (s.heap.objs.size + 3) .none → IsPair h' (s.heap.objs.size + 2) (.ref s.heap.objs.size) (.ref (s.heap.objs.size + 1)) →
      IsPair h' (s.heap.objs.size + 3) .none .none → h'.IsStrIter s.heap.objs.size "str_ascii_iterator" x t 0 → h'.IsListIter (s.heap.objs.size + 1) l 0 → h'.objs.size = s.heap.objs.size + 5 →
      (∀ c o, s.heap.get? c = some o → h'.get? c = some o) → Q (.ref (s.heap.objs.size + 4)) { s with heap := h' }) : wpAny (model prog w) A (call (.type "zip") [.str x t, .ref l]) Q E s := by
  refine callType_new F.called_zip (by decide) (F.typeCall_zip_2 _ _) (F.newCall_zip_2 _ _) (fun obj => F.args_object_init_3 obj _ _) F.entry_zip_new (meets_zipT x t l ys ha) ⟨hl, ?_⟩
  generalize hs : s.heap.objs.size = n at h ⊢
  have z1 : (zt1 s.heap x t).objs.size = n + 1 := by rw [← hs]; exact Heap.size_push ..
  have z2 : (zt2 s.heap x t l).objs.size = n + 2 := by rw [Heap.size_push, z1]
  have z3 : (zt3 s.heap x t l).objs.size = n + 3 := by rw [Heap.size_push, z2]
  have z4 : (zt4 s.heap x t l).objs.size = n + 4 := by rw [Heap.size_push, z3]
  have up : ∀ {h : Heap} {o : Obj} {c : Addr} {q : Obj}, h.get? c = some q → (h.push o).get? c = some q := fun e => Heap.get?_push_of_some _ e
  have g5 : (zt5 s.heap x t l).get? (zt4 s.heap x t l).objs.size = some _ := Heap.get?_push_size _ rfl
  have g4 : (zt5 s.heap x t l).get? (zt3 s.heap x t l).objs.size = some _ := up (Heap.get?_push_size _ rfl)
  have g3 : (zt5 s.heap x t l).get? (zt2 s.heap x t l).objs.size = some _ := up (up (Heap.get?_push_size _ rfl))
  have g2 : (zt5 s.heap x t l).get? (zt1 s.heap x t).objs.size = some _ := up (up (up (Heap.get?_push_size _ rfl)))
  have g1 : (zt5 s.heap x t l).get? s.heap.objs.size = some _ := up (up (up (up (Heap.get?_push_size _ rfl))))
  rw [z2, z3, z4] at g5; rw [z3] at g4; rw [z1, z2, hs] at g3; rw [z1] at g2; rw [hs] at g1
  show _ ∧ _
  rw [z4]
  exact ⟨⟨_, g5, rfl⟩, h _ g5 g3 g4 ⟨_, g1, rfl, rfl⟩ ⟨_, g2, rfl, rfl⟩ (by rw [Heap.size_push, z4]) fun c o q => up (up (up (up (up q))))⟩
theorem sepT {n l : Addr} (hl : l < n) : ZipSep2 (n + 4) (n + 2) (n + 3) n (n + 1) [n] [n + 1, l] where
  TIz := by simp [Addr]
  TOz := by simp [Addr]
  TITO := by simp [Addr]
  TIi1 := by simp [Addr]
  mem1 := by simp
  zf1 := by simp [Addr]
  Tf1 := by simp [Addr]
  TIi2 := by simp [Addr]
  mem2 := by simp
  zf2 := by simp [Addr] at hl ⊢; omega
  Tf2 := by simp [Addr] at hl ⊢; omega
  sep1_2 := by simp [Addr] at hl ⊢; omega
  sep2_1 := by simp [Addr]
end
section
variable {X : Cx} {G : Nat → Addr} {W : WX} {e a b c tg iter o e2 : Expr} {es elts : List Expr} {pos p apos cpos tpos : Pos} {kk : Nat} {K : Ct} {Z H : Hp} {fx : List Nat}
def sgK (x : Str) : List Key := x.cps.toList.map fun c => .inr ⟨#[c]⟩
theorem sgK_len (x : Str) : (sgK x).length = x.cps.size := by unfold sgK; rw [List.length_map, Array.length_toList]
theorem kv_zip : ∀ {ks : List Key} {xs : List V} {its : List Value}, Vals xs its → KV (ks.zip xs) (ks.zip its)
  | [], _, _, _ => .nil
  | _ :: _, _, _, .nil => .nil
  | _ :: _, _, _, .cons r rr => .cons ⟨rfl, r⟩ (kv_zip rr)
def tDZ (K : PySem.W.Frag) (ta : TA) : TE := fun σ H Q => ta σ H fun vs H1 => ∃ (x : Str) (a : Addr) (xs : List V), vs = [.str x, .ref a] ∧ x.cps.all (· < 128) = true ∧ SqL K H1 a xs ∧ xs.length = x.cps.size ∧ x.cps.size ≤ sizeLine ∧
  ∀ q, H1 q = none → Q (.ref q) (upd H1 q (.dK (mergeK [] ((sgK x).zip xs))))
theorem pe_dictZ {ta : TA} {p2 pos2 : Pos} (hc : X.calm = true) (hg : Gl X "dict") (hm : X.mg "dict" = none) (hg2 : Gl X "zip") (hm2 : X.mg "zip" = none) (ha : PA X [e, e2] ta)
    (hs : starEach [e, e2] X.env = (false, eval e X.env) :: starEach [e2] X.env := by rfl) (hpl : (backTo pos2 (starEach [e2] X.env)).any (·.1) = false := by rfl)
    (hs2 : starEach [.Call (.Name "zip" p2) [e, e2] [] pos2] X.env = (false, eval (.Call (.Name "zip" p2) [e, e2] [] pos2) X.env) :: starEach [] X.env := by rfl) :
    PE X (.Call (.Name "dict" p) [.Call (.Name "zip" p2) [e, e2] [] pos2] [] pos) (tDZ X.K ta) := by
  refine ⟨fun pins s σ H Q I h => ?_⟩
  refine Call_ (ld_blt I hg hm PyProof.Rows.boot_dict (PyProof.Rows.callWith_type1 (args_cons (Call_ (ld_blt I hg2 hm2 PyProof.Rows.boot_zip (PyProof.Rows.callWith_type1 (thn (ha.run pos2 pins s σ H _ I h) fun us s1 ⟨vs, H1, I1, r1, q1⟩ => ?_) hs hpl))) hs2) hs2 rfl))
  obtain ⟨x, l, xs, ev, hx, hq, hn, hz, q⟩ := q1
  subst ev
  cases r1 with
  | cons r rr =>
  cases rr with
  | cons r' rr =>
  cases rr
  obtain ⟨t, rfl⟩ := r
  cases r'
  obtain ⟨its, rv, p', _⟩ := I1.list hq
  have lb : l < s1.heap.objs.size := p'.lt
  refine call_zipT hx p'.isList fun h2 hzp hTI hTO h1 hl2 hsz hk => args_nil ?_
  have I2 : Inv X pins σ H1 { s1 with heap := h2 } := I1.kept (t' := s1.toks) hk
  have hlen := rv.length
  have hks := sgK_len x
  have hsz2 : its.toArray.size = x.cps.size := by rw [List.size_toArray, ← hlen, hn]
  have fp : ∀ b, s1.heap.objs.size ≤ b → FpOk X pins H1 b := fun b hb => I1.fpOk hb (I1.hok.fresh hb)
  refine PySem.call_dict_pairs (s := { s1 with heap := h2 }) (knd := mixKind X.prog X.w) (kvs := (sgK x).zip its) (argTxt (sepT lb) (Nat.ne_of_lt (Nat.lt_succ_of_lt lb)) x t its.toArray hsz2) (I1.ok.hd hc)
    ⟨hzp, hTI, ⟨_, _, hTO⟩, h1, hl2, let ⟨o, ho, r⟩ := p'.isList; ⟨o, hk _ _ ho, r⟩⟩ ⟨by rw [List.length_zip, hks]; rw [List.size_toArray] at hsz2; omega, fun i key v ⟨⟨c, u, hc1, hk1⟩, hv⟩ => ?_⟩ hz fun h3 tk hd hk3 => ?_
  · refine ⟨.inr ⟨#[c]⟩, ?_, by rw [hk1]; exact mixKind_str _ _ _ _⟩
    have e1 : (sgK x)[i]? = some (.inr ⟨#[c]⟩) := by unfold sgK; rw [List.getElem?_map, Array.getElem?_toList, hc1]; rfl
    have e2 : its[i]? = some v := by rw [List.getElem?_toArray] at hv; exact hv
    rw [List.getElem?_zip_eq_some]
    exact ⟨e1, e2⟩
  · have hm' : (h2.objs.size == sysModules) = false := beq_eq_false_iff_ne.mpr (Nat.ne_of_gt (I2.big))
    have hl3 : (mergeK [] ((sgK x).zip xs)).length ≤ sizeLine := by
      refine Nat.le_trans (length_mergeK _ _) ?_
      rw [List.length_nil, Nat.zero_add, List.length_zip, hks, hn, Nat.min_self]; exact hz
    refine ⟨.ref h2.objs.size, upd H1 h2.objs.size (.dK (mergeK [] ((sgK x).zip xs))), I2.turnedNew (t' := tk) (ch := [s1.heap.objs.size + 4, s1.heap.objs.size + 3, s1.heap.objs.size, s1.heap.objs.size + 1]) (fun b o hb e => hk3 b o hb e) (fun b hb => ?_) (Nat.le_refl _)
      (show ObjOk X.prog X.w _ _ _ (.dK (mergeK [] ((sgK x).zip xs))) from ⟨hl3, hm', merged [] ((sgK x).zip its), KV.merge (kv_zip rv) .nil, hd⟩), rfl, q _ (I2.hok.fresh (Nat.le_refl _))⟩
    have hb : b = s1.heap.objs.size + 4 ∨ b = s1.heap.objs.size + 3 ∨ b = s1.heap.objs.size ∨ b = s1.heap.objs.size + 1 := by simpa using hb
    refine fp b ?_
    rcases hb with rfl | rfl | rfl | rfl
    · exact Nat.le_add_right _ _
    · exact Nat.le_add_right _ _
    · exact Nat.le_refl _
    · exact Nat.le_add_right _ _
end
end Tw

set_option maxRecDepth 100000
namespace Tw
open PySem PySem.Spec PyProof.Rows L2
section
variable {X : Cx} {G : Nat → Addr} {W : WX} {e a b c tg iter o e2 : Expr} {es elts : List Expr} {pos p apos cpos tpos : Pos} {kk : Nat} {K : Ct} {Z H : Hp} {fx : List Nat}
/-! ### dict(zip(a text, a list)) -/
theorem Al.newD {ds : List D} {vs : List V} {ks : List Ky} {p : Addr} (lk : ks.length = vs.length) (r : Rps K Z H ds vs []) (hp : H p = none) : Al K Z H Z (upd H p (.dK ((ks.map mkK).zip vs))) (.nd true (.dct ks) ds) (.ref p) :=
  ⟨Same.refl _, fun b u e => by rw [upd_ne (ne_of_none e hp)]; exact e, fun L s => SI.newD lk r.length (by
    obtain ⟨z, fp, h, n, q⟩ := s
    exact ⟨z, fp, (by rw [List.append_assoc]; exact (r.trs).app h), n, q⟩) hp⟩
theorem mergeK_app : ∀ (more acc : List (L2.Key × V)), ((acc ++ more).map (·.1)).Nodup → mergeK acc more = acc ++ more := by
  intro more
  induction more with
  | nil => intro acc _; rw [List.append_nil]; rfl
  | cons p more ih =>
    intro acc h
    have h2 : ((acc ++ [p]) ++ more).map (·.1) = (acc ++ p :: more).map (·.1) := by rw [List.append_assoc]; rfl
    have e : putK acc p.1 p.2 = acc ++ [p] := by
      unfold putK
      rw [if_neg]
      intro z
      obtain ⟨q, hq, hz⟩ := List.any_eq_true.mp z
      have hz := of_decide_eq_true hz
      rw [List.map_append, List.nodup_append] at h
      exact h.2.2 q.1 (List.mem_map.mpr ⟨q, hq, rfl⟩) p.1 (by simp) hz
    show mergeK (putK acc p.1 p.2) more = _
    rw [e, ih _ (by rw [h2]; exact h), List.append_assoc]; rfl
def dzF : F2
  | .str S, .nd _ .lst ds => if S.length = ds.length ∧ S.Nodup ∧ S.all (· < 128) = true ∧ areFrz ds = true ∧ S.length ≤ lim then some (.nd true (.dct (S.map fun c => .inr [c])) ds) else none
  | _, _ => none
theorem sgK_mk (S : List Nat) : sgK (mkS S) = (S.map fun c => (Sum.inr [c] : Ky)).map mkK := by
  unfold sgK
  show S.toArray.toList.map _ = _
  rw [List.toList_toArray, List.map_map]; rfl
/-- two things reckoned, as arguments -/
def dDZ (g : Env → R Env (List Ag × Env)) : Env → R Env (D × Env) := fun ρ => (g ρ).bind fun q => match q.1 with
  | [.v x, .v y] => (oR (dzF x y)).bind fun d => .ok (d, q.2)
  | _ => .stuck
theorem dDZ_q {b1 : Bool} {g : Env → R Env (List Ag × Env)} (h : b1 = true → ∀ ρ d ρ', g ρ = .ok (d, ρ') → ρ' = ρ) : b1 = true → ∀ ρ d ρ', dDZ g ρ = .ok (d, ρ') → ρ' = ρ := bindq h fun q d ρ' e => by
  split at e
  · rename_i x y _
    cases e1 : dzF x y with
    | none => rw [e1] at e; cases e
    | some z => rw [e1] at e; cases e; rfl
  · cases e
theorem ev_dictZ {b1 : Bool} {g : Env → R Env (List Ag × Env)} {p2 pos2 : Pos} (hc : X.calm = true) (hg : Gl X "dict") (hm : X.mg "dict" = none) (hg2 : Gl X "zip") (hm2 : X.mg "zip" = none) (ha : Ax X G W b1 [e, e2] g)
    (hs : starEach [e, e2] X.env = (false, eval e X.env) :: starEach [e2] X.env := by rfl) (hpl : (backTo pos2 (starEach [e2] X.env)).any (·.1) = false := by rfl)
    (hs2 : starEach [.Call (.Name "zip" p2) [e, e2] [] pos2] X.env = (false, eval (.Call (.Name "zip" p2) [e, e2] [] pos2) X.env) :: starEach [] X.env := by rfl) :
    Ev X G W b1 (.Call (.Name "dict" p) [.Call (.Name "zip" p2) [e, e2] [] pos2] [] pos) (dDZ g) := by
  refine ⟨dDZ_q ha.q, fun σ H Z ρ T Q S P => toE (pe_dictZ hc hg hm hg2 hm2 paR hs hpl hs2) (ha.run σ H Z ρ T _ S ?_)⟩
  unfold dDZ at P
  cases e1 : g ρ with
  | stuck => rw [e1] at P; exact P
  | exc c fs ρ' => rw [e1] at P; exact P
  | ok q =>
    obtain ⟨as, ρ1⟩ := q
    rw [e1] at P
    simp only [R.ok_bind] at P
    intro vs L H1 Z1 z1 h1 rL S1
    split at P
    · rename_i x y
      cases e2 : dzF x y with
      | none => rw [e2] at P; exact P.elim
      | some d =>
        rw [e2] at P
        obtain ⟨rfl, l⟩ := resA_vals rL (ds := [x, y]) rfl
        match vs, l with
        | [v, u], _ =>
        unfold dzF at e2
        split at e2
        · rename_i St m ds _
          split at e2
          · rename_i hh; cases e2
            obtain ⟨hl, hn, h128, hf, hlm⟩ := hh
            have S2 : Sa ⟨X.K, G⟩ Z1 H1 σ ρ1 (.tr (.str St) v :: .tr (.nd m .lst ds) u :: T) := S1
            obtain ⟨f1, r1⟩ := S2.rp
            obtain ⟨f2, r2⟩ := S2.drop.rp
            obtain ⟨rfl, rfl⟩ := r1
            obtain ⟨a, ws, rfl, hq, r⟩ := frz_lst S2.si.zh r2 hf
            have lw := r.length
            have hsz : (mkS St).cps.size = St.length := List.size_toArray
            refine ⟨mkS St, a, ws, rfl, ?_, SqL.of hq, by rw [hsz]; omega, by rw [hsz]; exact lim_of hlm, fun p hp => ?_⟩
            · show St.toArray.all (· < 128) = true
              rw [List.all_toArray]; exact h128
            · have ek : mergeK [] ((sgK (mkS St)).zip ws) = ((St.map fun c => (Sum.inr [c] : Ky)).map mkK).zip ws := by
                rw [sgK_mk]
                rw [mergeK_app]; rfl
                rw [List.nil_append, List.map_fst_zip (by simp; omega)]
                rw [List.map_map]
                have inj : ∀ (S : List Nat), S.Nodup → (S.map (mkK ∘ fun c => (Sum.inr [c] : Ky))).Nodup := by
                  intro S
                  induction S with
                  | nil => intro _; exact List.nodup_nil
                  | cons c S ih =>
                    intro h
                    rw [List.nodup_cons] at h
                    rw [List.map_cons, List.nodup_cons]
                    refine ⟨fun hm => ?_, ih h.2⟩
                    obtain ⟨c', hc', e⟩ := List.mem_map.mp hm
                    have := mkK_inj e
                    cases this
                    exact h.1 hc'
                exact inj St hn
              rw [ek]
              have al := Al.newD (K := ⟨X.K, G⟩) (Z := Z1) (H := H1) (ks := St.map fun c => (Sum.inr [c] : Ky)) (by rw [List.length_map]; omega) r hp
              exact P _ _ _ (z1.trans al.z) (fun hb => (h1 hb).trans al.h) (Al.sa al S2.drop.drop)
          · cases e2
        · cases e2
    · exact P.elim
theorem wp_dDZ {Q : D × Env → Prop} {E : XQ Env} (t : Tag Q) (u : Tag E) (ρ : Env) (g : Env → R Env (List Ag × Env)) : Wp (dDZ g ρ) Q E t u = Wp (g ρ) (fun q => On2 q.1 (fun x y => Op (dzF x y) (fun d => Q (d, q.2)) .mk) .mk) E .mk .mk := by
  show Wp ((g ρ).bind _) Q E t u = _
  rw [wp_bind]; refine wp_cg fun q => ?_; obtain ⟨as, ρ2⟩ := q
  match as with
  | [.v a, .v b] =>
    show Wp ((oR (dzF a b)).bind _) Q E .mk .mk = Op _ _ .mk
    rw [wp_bind, wp_oR]; rfl
  | [] => rfl
  | [a] => cases a <;> rfl
  | .m _ :: _ :: _ => rfl
  | .v d :: .m _ :: _ => rfl
  | .v d :: .v e :: _ :: _ => rfl
end
end Tw

set_option maxRecDepth 100000
namespace Tw
open PySem PySem.Spec PyProof.Rows L2
/-! ### enumerate over texts and tuples -/
section
/-- pairs of the turn's number and the item -/
def ItV (xs : List V) : L2.It := ⟨fun i _ => i < xs.length, fun i H v H' => ∃ T x, v = .ref T ∧ H T = none ∧ H' = upd H T (.tup [.int (i : Nat), x]) ∧ xs[i]? = some x, fun i _ => xs.length ≤ i⟩
def ItT (K : PySem.W.Frag) (a : Addr) (xs : List V) : L2.It := ⟨fun i H => SqT K H a xs ∧ i < xs.length, fun i H v H' => ∃ T x, v = .ref T ∧ H T = none ∧ H' = upd H T (.tup [.int (i : Nat), x]) ∧ xs[i]? = some x, fun i H => SqT K H a xs ∧ xs.length ≤ i⟩
/-- the pair that a turn gives out -/
theorem enumD_turn {X : Cx} {pins : List (Addr × Obj)} {s : Shared} {σ : Sg} {H : Hp} {E : Value → Shared → Prop} {e it : Addr} {fp : List Addr} {n i : Nat} {Pr : Nat → Value → Prop} {St : Nat → Heap → Prop} {old : Value} {elts : List Expr} {kk : Nat} {tpos : Pos} {tn : Nat → Heap → Prop} {Y : Hp → V → Hp → Prop}
    (D : Draws X.prog X.w X.A.in1 it fp n Pr St) (I : Inv X pins σ H s) (hf : ∀ b ∈ [e, it], FpOk X pins H b) (he : IsEnum s.heap e it ((i : Nat) : Int) old) (hst : St i s.heap) (hlt : i < n) (hne : e ≠ it) (hef : e ∉ fp)
    (rel : ∀ v, Pr i v → ∃ x, RelV x v ∧ ∀ T, H T = none → Y H (.ref T) (upd H T (.tup [.int (i : Nat), x])))
    (nxt : ∀ h' old, IsEnum h' e it (((i + 1 : Nat)) : Int) old → St (i + 1) h' → tn (i + 1) h') :
    wpAny (model X.prog X.w) X.A (pyNext (.ref e)) (fun r s1 => ∃ u, r = some u ∧
      wpAny (model X.prog X.w) X.A (letOwnedTupleGo (.Tuple elts kk tpos) (.ref e) u) (fun _ s2 => ∃ x H', Inv X pins σ H' s2 ∧ RelV x u ∧ Y H x H' ∧ tn (i + 1) s2.heap ∧ ∀ b ∈ [e, it], H' b = none) E s1) E s := by
  have hel : e < s.heap.objs.size := Heap.lt_size he
  have hil : it < s.heap.objs.size := by obtain ⟨_, q⟩ := D.live _ _ hst; exact Heap.lt_size q
  refine wpAny_pyNext_enum_itemD D he hst hlt hne hef fun v h' tk hP ho hs' hT hsz hk => ⟨_, rfl, wpAny_letOwnedTupleGo_enum (s := { s with heap := h', toks := tk + 1 }) ho fun h2 he2 sb => ?_⟩
  obtain ⟨x, rx, hY⟩ := rel v hP
  have hT2 : h2.get? s.heap.objs.size = some { cls := .type "tuple", data := .seq #[.int i tk, v] } := (sb.2 _ (Nat.ne_of_gt hel)).trans hT
  have new : ObjOk X.prog X.w (upd H s.heap.objs.size (.tup [.int (i : Nat), x])) h2 s.heap.objs.size (.tup [.int (i : Nat), x]) :=
    ⟨by show 2 ≤ sizeLine; decide, [.int i tk, v], .cons ⟨_, rfl⟩ (.cons rx .nil), ⟨_, hT2, rfl, _, rfl⟩⟩
  have I1 : Inv X pins σ (upd H s.heap.objs.size (.tup [.int (i : Nat), x])) { s with heap := h2, toks := tk + 1 } :=
    I.turnedNew (ch := [e, it]) (fun b ob hb q => by
      have hb : b ≠ e ∧ b ≠ it := by simpa using hb
      exact (sb.2 b hb.1).trans (hk b ob hb.1 hb.2 q)) hf (Nat.le_refl _) new
  refine ⟨.ref s.heap.objs.size, _, I1, rfl, hY _ (I.hok.fresh (Nat.le_refl _)), nxt h2 v ?_ (D.frame _ _ _ hs' fun b hb o q => (sb.2 b fun z => hef (z ▸ hb)).trans q), fun b hb => ?_⟩
  · rw [show ((i + 1 : Nat) : Int) = (i : Int) + 1 by omega]; exact he2
  · have e' : b = e ∨ b = it := by simpa using hb
    have hb' : b < s.heap.objs.size := by
      rcases e' with z | z
      · rw [z]; exact hel
      · rw [z]; exact hil
    rw [upd_ne (Nat.ne_of_lt hb')]
    exact (hf b hb).1
theorem turn_enumS {P : Program} {w : World} {K : PySem.W.Frag} {elts : List Expr} {kk : Nat} {tpos : Pos} (x : Str) (t : Tok) (e it : Addr) :
    Turn P w K (.Tuple elts kk tpos) (ItV (sgV x)) [e, it] e (fun i h => (∃ old, IsEnum h e it ((i : Nat) : Int) old) ∧ h.IsStrIter it (strIterType x) x t i ∧ e ≠ it) where
  mem := by simp
  obj := fun i h st b hb => by
    obtain ⟨⟨old, he⟩, ⟨o, ho, hc, hd⟩, _⟩ := st
    have e' : b = e ∨ b = it := by simpa using hb
    rcases e' with z | z
    · rw [z]; exact ⟨_, he, fun v q => nomatch q⟩
    · rw [z]; exact ⟨o, ho, fun v q => by rw [hd] at q; cases q⟩
  keep := fun i h h' ⟨⟨old, he⟩, ⟨o, ho, r⟩, hne⟩ k => ⟨⟨old, k e (by simp) _ he⟩, ⟨o, k it (by simp) o ho, r⟩, hne⟩
  item := by
    intro X hP hw hK hc i pins s σ H E I hf st hg
    subst hP hw hK
    obtain ⟨⟨old, he⟩, hit, hne⟩ := st
    have hg : i < (sgV x).length := hg
    rw [sgV_len] at hg
    refine enumD_turn (Y := (ItV (sgV x)).yld i) (tn := fun i h => (∃ old, IsEnum h e it ((i : Nat) : Int) old) ∧ h.IsStrIter it (strIterType x) x t i ∧ e ≠ it) (Draws.text (A := X.A.in1) (I.ok.hd hc) it x t) I hf he hit hg hne (by simpa using hne) (fun v ⟨c, u, hcx, ev⟩ => ⟨.str ⟨#[c]⟩, ⟨u, ev⟩, fun T hT => ⟨T, _, rfl, hT, rfl, ?_⟩⟩) fun h' old he' hs' => ⟨⟨old, he'⟩, hs', hne⟩
    unfold sgV
    rw [List.getElem?_map, Array.getElem?_toList, hcx]; rfl
  done := by
    intro X hP hw hK hc i pins s σ H E I hf st hg
    subst hP hw hK
    obtain ⟨⟨old, he⟩, hit, hne⟩ := st
    obtain ⟨f0, f1, f2, f3, f4, f5⟩ := hf it (by simp)
    have hg : (sgV x).length ≤ i := hg
    rw [sgV_len] at hg
    have hx : x.cps[i]? = none := Array.getElem?_eq_none hg
    cases ha : x.cps.all (· < 128)
    · have ety : strIterType x = "str_iterator" := by unfold strIterType; rw [ha]; rfl
      rw [ety] at hit
      unfold pyNext
      have hTy : s.TypeIs (.ref e) "enumerate" := ⟨_, he, rfl⟩
      refine wpAny_bind (wpAny_attempt (wpAny_callSpecial?_slot (name := Str.ofString "__next__") hTy F.slot_enumerate_next (wpAny_call_entry F.slot_enumerate_next hTy F.entry_enumerate_next ?_ (F.args_enumerate_next_1 _))))
      refine (show wpAny _ _ (field (.ref e) 2 >>= _) _ _ _ from wpAny_bind (wpAny_field he rfl (x := .ref it) rfl (wpAny_bind (wpAny_nextOf_wide_end (A := X.A.in1) (I.ok.hd hc) hit hx fun h' y hb' ⟨o, ho, hoc⟩ => ?_))))
      exact wpAny_bind (wpAny_isInstance (T := "StopIteration") (b := true) ⟨o, ho, hoc⟩ isSubtype_stop (wpAny_pure ⟨rfl, I.turned (t' := s.toks) (fun b o hb q => hb' b o hb q) f0 f1 f3 f4 f5⟩))
    · have ety : strIterType x = "str_ascii_iterator" := by unfold strIterType; rw [ha]; rfl
      rw [ety] at hit
      unfold pyNext
      have hTy : s.TypeIs (.ref e) "enumerate" := ⟨_, he, rfl⟩
      refine wpAny_bind (wpAny_attempt (wpAny_callSpecial?_slot (name := Str.ofString "__next__") hTy F.slot_enumerate_next (wpAny_call_entry F.slot_enumerate_next hTy F.entry_enumerate_next ?_ (F.args_enumerate_next_1 _))))
      refine (show wpAny _ _ (field (.ref e) 2 >>= _) _ _ _ from wpAny_bind (wpAny_field he rfl (x := .ref it) rfl (wpAny_bind (wpAny_nextOf_ascii_end (A := X.A.in1) (I.ok.hd hc) hit hx fun h' y hb' ⟨o, ho, hoc⟩ => ?_))))
      exact wpAny_bind (wpAny_isInstance (T := "StopIteration") (b := true) ⟨o, ho, hoc⟩ isSubtype_stop (wpAny_pure ⟨rfl, I.turned (t' := s.toks) (fun b o hb q => hb' b o hb q) f0 f1 f3 f4 f5⟩))
  self := fun A i s Q E st h => let ⟨⟨_, he⟩, _⟩ := st; wpAny_pyIter_enum he h
theorem turn_enumT {P : Program} {w : World} {K : PySem.W.Frag} {elts : List Expr} {kk : Nat} {tpos : Pos} (a e it : Addr) (xs : List V) (hae : a ≠ e) (hai : a ≠ it) :
    Turn P w K (.Tuple elts kk tpos) (ItT K a xs) [e, it] e (fun i h => (∃ old, IsEnum h e it ((i : Nat) : Int) old) ∧ h.IsTupleIter it a i ∧ e ≠ it ∧ i ≤ xs.length) where
  mem := by simp
  obj := fun i h st b hb => by
    obtain ⟨⟨old, he⟩, ⟨o, ho, hc, hd⟩, _⟩ := st
    have e' : b = e ∨ b = it := by simpa using hb
    rcases e' with z | z
    · rw [z]; exact ⟨_, he, fun v q => nomatch q⟩
    · rw [z]; exact ⟨o, ho, fun v q => by rw [hd] at q; cases q⟩
  keep := fun i h h' ⟨⟨old, he⟩, hi, hne⟩ k => ⟨⟨old, k e (by simp) _ he⟩, hi.at fun o q => k it (by simp) o q, hne⟩
  item := by
    intro X hP hw hK hc i pins s σ H E I hf st hg
    subst hP hw hK
    obtain ⟨⟨old, he⟩, hit, hne, hle⟩ := st
    obtain ⟨hq, hlt⟩ := hg
    obtain ⟨its, rv, p, hz⟩ := I.tuple hq
    have hl := rv.length
    refine enumD_turn (Y := (ItT X.K a xs).yld i) (tn := fun i h => (∃ old, IsEnum h e it ((i : Nat) : Int) old) ∧ h.IsTupleIter it a i ∧ e ≠ it ∧ i ≤ xs.length) (Draws.tuple (A := X.A.in1) (I.ok.hd hc) it a hai its.toArray) I hf he ⟨hit, p⟩ (by rw [List.size_toArray]; omega) hne
      (by simpa using ⟨hne, hae.symm⟩) (fun v hv => ?_) fun h' old he' hs' => ⟨⟨old, he'⟩, hs'.1, hne, hlt⟩
    have hx : xs[i]? = some xs[i] := List.getElem?_eq_getElem hlt
    obtain ⟨u, hu, ru⟩ := rv.get hx
    have : v = u := by
      rw [List.getElem?_toArray, hu] at hv
      exact (Option.some.inj hv).symm
    subst this
    exact ⟨xs[i], ru, fun T hT => ⟨T, _, rfl, hT, rfl, hx⟩⟩
  done := by
    intro X hP hw hK hc i pins s σ H E I hf st hg
    subst hP hw hK
    obtain ⟨⟨old, he⟩, hit, hne, hle⟩ := st
    obtain ⟨f0, f1, f2, f3, f4, f5⟩ := hf it (by simp)
    obtain ⟨hq, hge⟩ := hg
    obtain ⟨its, rv, p, hz⟩ := I.tuple hq
    have hl := rv.length
    have ei : i = its.toArray.size := by rw [List.size_toArray]; omega
    exact wpAny_pyNext_enum_endD (Draws.tuple (A := X.A.in1) (I.ok.hd hc) it a hai its.toArray) he (by rw [← ei]; exact ⟨hit, p⟩) fun h' hb' => ⟨rfl, I.turned (t' := s.toks) (fun b o hb q => hb' b o hb q) f0 f1 f3 f4 f5⟩
  self := fun A i s Q E st h => let ⟨⟨_, he⟩, _⟩ := st; wpAny_pyIter_enum he h
set_option maxHeartbeats 4000000 in
theorem meets_enumT (l : Addr) (items : Array Value) (o : Obj) (hc : o.cls = .type "tuple") (hd : ∃ n, o.data = .seq items n) :
    Meets (Builtin.«enumerate.__new__» ⟨[.type "enumerate", .ref l], []⟩) (fun _ R s => s.heap.get? l = some o ∧
      R (.ok (.ret (.ref (s.heap.push { cls := .type "tuple_iterator", data := .fields #[.ref l, .int 0 0] }).objs.size)))
        { s with heap := (s.heap.push { cls := .type "tuple_iterator", data := .fields #[.ref l, .int 0 0] }).push { cls := .type "enumerate", data := .fields #[.none, .bool false, .ref s.heap.objs.size, rawInt 0, .none, .none] } }) :=
  .of_wp fun prog w A R s h => by
    obtain ⟨hp, g, d, tk, os⟩ := s; obtain ⟨hl, h⟩ := h
    have hsub := sub_enumerate
    have hL : Heap.IsTuple (Shared.heap ⟨hp, g, d, tk, os⟩) l items := ⟨o, hl, hc, hd⟩
    wp_walk using AutoSeq1.wpAny_loadPart' hl
    refine wpAny_stack_any fun st => wpAny_pure ?_
    split
    · rename_i c _ _ _ _ _
      cases (c == Value.type "enumerate")
      · wp_walk using AutoSeq1.wpAny_loadPart' hl, wpAny_pyIter_tuple hL
        exact ⟨_, rfl, h⟩
      · wp_walk using AutoSeq1.wpAny_loadPart' hl, wpAny_pyIter_tuple hL
        exact ⟨_, rfl, h⟩
    · wp_walk using AutoSeq1.wpAny_loadPart' hl, wpAny_pyIter_tuple hL
      exact ⟨_, rfl, h⟩
theorem call_enumT {prog : Program} {w : World} {A : Around} {E : Value → Shared → Prop} {s : Shared} {l : Addr} {items : Array Value} {Q : Value → Shared → Prop} (hL : s.heap.IsTuple l items)
    (h : ∀ h', IsEnum h' (s.heap.objs.size + 1) s.heap.objs.size 0 .none → h'.IsTupleIter s.heap.objs.size l 0 → h'.objs.size = s.heap.objs.size + 2 →
      (∀ b o, s.heap.get? b = some o → h'.get? b = some o) → Q (.ref (s.heap.objs.size + 1)) { s with heap := h' }) : wpAny (model prog w) A (call (.type "enumerate") [.ref l]) Q E s := by
  obtain ⟨o, hl, hc, hd⟩ := hL
  refine callType_new F.called_enumerate (by decide) (F.typeCall_enumerate_1 _) (F.newCall_enumerate_1 _) (fun obj => F.args_object_init_2 obj _) F.entry_enumerate_new (meets_enumT l items o hc hd) ⟨hl, ?_⟩
  have hz : (s.heap.push { cls := .type "tuple_iterator", data := .fields #[.ref l, .int 0 0] }).objs.size = s.heap.objs.size + 1 := Heap.size_push ..
  show _ ∧ _
  have he := Heap.get?_push_size (s.heap.push { cls := .type "tuple_iterator", data := .fields #[.ref l, .int 0 0] }) (o := { cls := .type "enumerate", data := .fields #[.none, .bool false, .ref s.heap.objs.size, rawInt 0, .none, .none] }) rfl
  rw [hz] at he ⊢
  exact ⟨⟨_, he, rfl⟩, h _ he ⟨_, Heap.get?_push_of_some _ (Heap.get?_push_size _ rfl), rfl, rfl⟩ (by rw [Heap.size_push, hz]) fun b o q => Heap.get?_push_of_some _ (Heap.get?_push_of_some _ q)⟩
def iEnumA (K : PySem.W.Frag) (ta : TA) : TI := fun σ H R => ta σ H fun vs H1 => (∃ a xs, vs = [.ref a] ∧ SqL K H1 a xs ∧ R (Ite K a) H1) ∨ (∃ x : Str, vs = [.str x] ∧ R (ItV (sgV x)) H1) ∨ ∃ a xs, vs = [.ref a] ∧ SqT K H1 a xs ∧ R (ItT K a xs) H1
theorem pi_enumA {X : Cx} {e : Expr} {ta : TA} {p pos tpos : Pos} {elts : List Expr} {kk : Nat} (hg : Gl X "enumerate") (hm : X.mg "enumerate" = none) (ha : PA X [e] ta) (hs : starEach [e] X.env = [(false, eval e X.env)] := by rfl) :
    PI X (.Tuple elts kk tpos) (.Call (.Name "enumerate" p) [e] [] pos) (iEnumA X.K ta) := by
  refine ⟨fun pins s σ H R I h => Call_ (ld_blt I hg hm boot_enumerate (PyProof.Rows.callWith_type1 (thn (ha.run pos pins s σ H _ I h) fun us s1 ⟨vs, H1, I1, r1, q1⟩ => ?_) hs rfl))⟩
  have fp : ∀ b ∈ [s1.heap.objs.size + 1, s1.heap.objs.size], FpOk X pins H1 b := fun b hb => by
    have e' : b = s1.heap.objs.size + 1 ∨ b = s1.heap.objs.size := by simpa using hb
    have hle : s1.heap.objs.size ≤ b := by
      rcases e' with z | z
      · rw [z]; exact Nat.le_add_right _ _
      · rw [z]; exact Nat.le_refl _
    exact I1.fpOk hle (I1.hok.fresh hle)
  rcases q1 with ⟨a, xs, rfl, hq, q⟩ | ⟨x, rfl, q⟩ | ⟨a, xs, rfl, hq, q⟩
  · obtain ⟨u, rfl, r⟩ := vals1 r1
    cases r
    obtain ⟨its, rv, p', hz⟩ := I1.list hq
    refine call_enumerate_list p'.isList fun h' he hit hsz hk => wpAny_pyIter_enum he ?_
    exact ⟨s1.heap.objs.size + 1, [s1.heap.objs.size + 1, s1.heap.objs.size], _, _, H1, rfl, I1.kept (t' := s1.toks) hk, turn_enum a (s1.heap.objs.size + 1) s1.heap.objs.size, ⟨⟨.none, he⟩, hit, Nat.succ_ne_self _⟩, fp, q⟩
  · obtain ⟨u, rfl, t, rfl⟩ := vals1 r1
    refine call_enumerate_str fun h' he hit hsz hk => wpAny_pyIter_enum he ?_
    exact ⟨s1.heap.objs.size + 1, [s1.heap.objs.size + 1, s1.heap.objs.size], _, _, H1, rfl, I1.kept (t' := s1.toks) hk, turn_enumS x t (s1.heap.objs.size + 1) s1.heap.objs.size, ⟨⟨.none, he⟩, hit, Nat.succ_ne_self _⟩, fp, q⟩
  · obtain ⟨u, rfl, r⟩ := vals1 r1
    cases r
    obtain ⟨its, rv, p', hz⟩ := I1.tuple hq
    have la : a < s1.heap.objs.size := let ⟨_, e, _⟩ := p'; Heap.lt_size e
    refine call_enumT p' fun h' he hit hsz hk => wpAny_pyIter_enum he ?_
    exact ⟨s1.heap.objs.size + 1, [s1.heap.objs.size + 1, s1.heap.objs.size], _, _, H1, rfl, I1.kept (t' := s1.toks) hk, turn_enumT a (s1.heap.objs.size + 1) s1.heap.objs.size xs (Nat.ne_of_lt (Nat.lt_succ_of_lt la)) (Nat.ne_of_lt la),
      ⟨⟨.none, he⟩, hit, Nat.succ_ne_self _, Nat.zero_le _⟩, fp, q⟩
end
section
variable {X : Cx} {G : Nat → Addr} {W : WX} {e a b c tg iter o : Expr} {es elts : List Expr} {pos p apos cpos tpos : Pos} {kk : Nat} {K : Ct} {Z H : Hp} {fx : List Nat}
theorem itr_yld {ds : List D} {vs : List V} (r : Rps K Z H ds vs []) {i : Nat} {d : D} {Z' H' H2 : Hp} {x : V} (e : (enuL 0 ds)[i]? = some d) (z : Same Z Z') (zh : Same Z' H') (hy : ∃ T y, x = .ref T ∧ H' T = none ∧ H2 = upd H' T (.tup [.int (i : Nat), y]) ∧ vs[i]? = some y) : ∃ Z2, Al K Z' H' Z2 H2 d x := by
  obtain ⟨T, y, rfl, hT, rfl, hx⟩ := hy
  rw [enuL_get] at e
  cases e2 : ds[i]? with
  | none => rw [e2] at e; cases e
  | some d0 =>
    rw [e2] at e; cases e
    obtain ⟨v, ev, rv⟩ := r.at0 e2
    rw [ev] at hx; cases hx
    have rv' : Rp K Z' H' d0 _ [] := rv.keep z fun b hb => by simp at hb
    exact ⟨_, Al.newT (ds := [.int ((0 + i : Nat) : Int), d0]) zh ⟨.int (i : Nat), [_], [], [], rfl, rfl, ⟨by rw [Nat.zero_add], rfl⟩, _, [], [], [], rfl, rfl, rv', rfl, rfl⟩ hT⟩
theorem enu_frz {ds : List D} {vs : List V} (r : Rps K Z H ds vs []) : ∀ d ∈ enuL 0 ds, isFrz d = true := fun d hd => by
  obtain ⟨j, hj⟩ := List.mem_iff_getElem?.mp hd
  rw [enuL_get] at hj
  cases e : ds[j]? with
  | none => rw [e] at hj; cases hj
  | some x =>
    rw [e] at hj; cases hj
    show (true && (isFrz x && true)) = true
    rw [r.frz_all x (List.mem_of_getElem? e)]; rfl
theorem itr_V {ds : List D} {vs : List V} (r : Rps K Z H ds vs []) : Itr K Z (ItV vs) (enuL 0 ds) where
  frz := enu_frz r
  stop := fun Z' H' z zh => by show vs.length ≤ _; rw [enuL_len, r.length]; exact Nat.le_refl _
  go := fun i hi Z' H' z zh => by show i < vs.length; rw [enuL_len, r.length] at hi; exact hi
  yld := fun i d e Z' H' x H2 z zh hy => itr_yld r e z zh hy
theorem itr_T {a' : Addr} {ds : List D} {vs : List V} (s : SqT K.K Z a' vs) (r : Rps K Z H ds vs []) : Itr K Z (ItT K.K a' vs) (enuL 0 ds) where
  frz := enu_frz r
  stop := fun Z' H' z zh => ⟨sqT_mono s (z.trans zh), by rw [enuL_len, r.length]; exact Nat.le_refl _⟩
  go := fun i hi Z' H' z zh => ⟨sqT_mono s (z.trans zh), by rw [enuL_len, r.length] at hi; exact hi⟩
  yld := fun i d e Z' H' x H2 z zh hy => itr_yld r e z zh hy
def iEnA (g : Env → R Env (List Ag × Env)) : Env → R Env (List D × Env) := fun ρ => (g ρ).bind fun q => match q.1 with
  | [.v x] => (oR (items (frz x))).bind fun ds => .ok (enuL 0 ds, q.2)
  | _ => .stuck
theorem ix_enumA {b1 : Bool} {g : Env → R Env (List Ag × Env)} (hg : Gl X "enumerate") (hm : X.mg "enumerate" = none) (ha : Ax X G W b1 [a] g) (hs : starEach [a] X.env = [(false, eval a X.env)] := by rfl) :
    Ix X G W b1 (.Tuple elts kk tpos) (.Call (.Name "enumerate" p) [a] [] pos) (iEnA g) := by
  refine ⟨bindq ha.q fun p d ρ' e => ?_, fun σ H Z ρ T Q S P => toI (pi_enumA hg hm paR hs) (ha.run σ H Z ρ T _ S ?_)⟩
  · split at e
    · rename_i x _
      cases e1 : items (frz x) with
      | none => rw [e1] at e; cases e
      | some y => rw [e1] at e; cases e; rfl
    · cases e
  unfold iEnA at P
  cases e1 : g ρ with
  | stuck => rw [e1] at P; exact P
  | exc c fs ρ' => rw [e1] at P; exact P
  | ok r =>
    obtain ⟨as, ρ1⟩ := r
    rw [e1] at P
    simp only [R.ok_bind] at P
    intro vs L H1 Z1 z1 h1 rL S1
    split at P
    · rename_i x
      cases e2 : items (frz x) with
      | none => rw [e2] at P; exact P.elim
      | some ds =>
        rw [e2] at P
        obtain ⟨rfl, l⟩ := resA_vals rL (ds := [x]) rfl
        match vs, l with
        | [v], _ =>
        have S1' : Sa ⟨X.K, G⟩ Z1 H1 σ ρ1 (.tr x v :: T) := S1
        obtain ⟨Z2, z2, S2⟩ := S1'.freeze
        obtain ⟨fp, rv⟩ := S2.rp
        have f0 := rv.isFrz (isFrz_frz x)
        subst f0
        have P' : ∀ J : L2.It, Itr ⟨X.K, G⟩ Z2 J (enuL 0 ds) → Q J H1 := fun J hj => P J H1 Z2 (z1.trans z2) h1 S2.drop hj
        unfold items at e2
        split at e2
        · rename_i ds' e3; cases e2
          rw [e3] at rv
          obtain ⟨a, ws, rfl, s, r⟩ := rv
          exact .inr (.inr ⟨a, ws, rfl, sqT_mono s S2.si.zh, P' _ (itr_T s r)⟩)
        · rename_i ds' e3; cases e2
          rw [e3] at rv
          obtain ⟨a, ws, rfl, ⟨own, s⟩, r, _⟩ := rv
          exact .inl ⟨a, ws, rfl, S2.si.zh.seq (SqL.of s.1), P' _ (itr_enum (SqL.of s.1) r)⟩
        · rename_i ds' e3; cases e2
          rw [e3] at rv
          obtain ⟨a, ws, rfl, s, r, _⟩ := rv
          exact .inl ⟨a, ws, rfl, S2.si.zh.seq s, P' _ (itr_enum s r)⟩
        · rename_i l e3; cases e2
          rw [e3] at rv
          obtain ⟨rfl, _⟩ := rv
          exact .inr (.inl ⟨mkS l, rfl, P' _ (itr_V (sgD_rps (H := H1) l))⟩)
        · cases e2
    · exact P.elim
theorem wp_iEnA {Q : List D × Env → Prop} {E : XQ Env} (t : Tag Q) (u : Tag E) (ρ : Env) (g : Env → R Env (List Ag × Env)) : Wp (iEnA g ρ) Q E t u = Wp (g ρ) (fun q => On1 q.1 (fun a => Op (items (frz a)) (fun ds => Q (enuL 0 ds, q.2)) .mk) .mk) E .mk .mk := by
  show Wp ((g ρ).bind _) Q E t u = _
  rw [wp_bind]; refine wp_cg fun q => ?_; obtain ⟨as, ρ2⟩ := q
  match as with
  | [] => rfl
  | [.m _] => rfl
  | [.v a] =>
    show Wp ((oR (items (frz a))).bind _) Q E .mk .mk = Op _ _ .mk
    rw [wp_bind, wp_oR]; rfl
  | .m _ :: _ :: _ => rfl
  | .v d :: _ :: _ => rfl
end
end Tw

set_option maxRecDepth 100000
namespace Tw
open PySem PySem.Spec PyProof.Rows L2
/-! ### zip over any two of lists, tuples, texts -/
section
inductive Zs
  | l (a : Addr) (xs : List V)
  | t (a : Addr) (xs : List V)
  | s (x : Str) (k : Tok)
def Zs.xs : Zs → List V
  | .l _ xs => xs
  | .t _ xs => xs
  | .s x _ => sgV x
def Zs.ok (K : PySem.W.Frag) (H : Hp) : Zs → Prop
  | .l a xs => SqL K H a xs
  | .t a xs => SqT K H a xs
  | .s _ _ => True
def Zs.st (it : Addr) (i : Nat) (h : Heap) : Zs → Prop
  | .l a _ => h.IsListIter it a i
  | .t a _ => h.IsTupleIter it a i
  | .s x k => h.IsStrIter it (strIterType x) x k i
def Zs.fp (it : Addr) : Zs → List Addr
  | .l a _ => [it, a]
  | .t a _ => [it, a]
  | .s _ _ => [it]
def Zs.ne (it : Addr) : Zs → Prop
  | .l a _ => a ≠ it
  | .t a _ => a ≠ it
  | .s _ _ => True
def Zs.val : Zs → Value
  | .l a _ => .ref a
  | .t a _ => .ref a
  | .s x k => .str x k
def Zs.ob : Zs → Obj
  | .l a _ => { cls := .type "list_iterator", data := .fields #[.ref a, .int 0 0] }
  | .t a _ => { cls := .type "tuple_iterator", data := .fields #[.ref a, .int 0 0] }
  | .s x k => { cls := .type (strIterType x), data := .fields #[.str x k, .int 0 0] }
def Zs.live (h : Heap) : Zs → Prop
  | .l a _ => ∃ its, h.IsList a its
  | .t a _ => ∃ its, h.IsTuple a its
  | .s _ _ => True
theorem Zs.st_at {p : Zs} {it : Addr} {i : Nat} {h h' : Heap} (st : p.st it i h) (k : ∀ o, h.get? it = some o → h'.get? it = some o) : p.st it i h' := by
  cases p with
  | l a xs => exact Heap.IsListIter.at st k
  | t a xs => exact Heap.IsTupleIter.at st k
  | s x t => obtain ⟨o, ho, r⟩ := st; exact ⟨o, k o ho, r⟩
theorem Zs.st_obj {p : Zs} {it : Addr} {i : Nat} {h : Heap} (st : p.st it i h) : ∃ o, h.get? it = some o ∧ ∀ v, o.data ≠ .cell v := by
  cases p with
  | l a xs => obtain ⟨o, ho, hc, hd⟩ := st; exact ⟨o, ho, fun v q => by rw [hd] at q; cases q⟩
  | t a xs => obtain ⟨o, ho, hc, hd⟩ := st; exact ⟨o, ho, fun v q => by rw [hd] at q; cases q⟩
  | s x t => obtain ⟨o, ho, hc, hd⟩ := st; exact ⟨o, ho, fun v q => by rw [hd] at q; cases q⟩
theorem Zs.st_new {p : Zs} {it : Addr} {h : Heap} (e : h.get? it = some p.ob) : p.st it 0 h := by
  cases p with
  | l a xs => exact ⟨_, e, rfl, rfl⟩
  | t a xs => exact ⟨_, e, rfl, rfl⟩
  | s x t => exact ⟨_, e, rfl, rfl⟩
theorem Zs.ob_free (p : Zs) : p.ob.isFreed = false := by cases p <;> rfl
theorem Zs.live_push {p : Zs} {h : Heap} (l : p.live h) (o : Obj) : p.live (h.push o) := by
  cases p with
  | l a xs => obtain ⟨its, h⟩ := l; exact ⟨its, Heap.IsList.push h _⟩
  | t a xs => obtain ⟨its, h⟩ := l; exact ⟨its, Heap.IsTuple.push h _⟩
  | s x t => trivial
theorem Zs.iter {p : Zs} {prog : Program} {w : World} {A : Around} {E : Value → Shared → Prop} {s : Shared} {Q : Value → Shared → Prop} (l : p.live s.heap)
    (hQ : Q (.ref s.heap.objs.size) { s with heap := s.heap.push p.ob }) : wpAny (model prog w) A (pyIter p.val) Q E s := by
  cases p with
  | l a xs => obtain ⟨its, h⟩ := l; exact wpAny_pyIter_list h hQ
  | t a xs => obtain ⟨its, h⟩ := l; exact wpAny_pyIter_tuple h hQ
  | s x t => exact wpAny_pyIter_strU hQ
theorem Zs.draws {X : Cx} {pins : List (Addr × Obj)} {σ : Sg} {H : Hp} {s : Shared} (p : Zs) (I : Inv X pins σ H s) (hc : X.calm = true) (ok : p.ok X.K H) (it : Addr) (ne : p.ne it) :
    ∃ (P : Nat → Value → Prop) (St : Nat → Heap → Prop), Draws X.prog X.w X.A.in1 it (p.fp it) p.xs.length P St ∧ (∀ i, p.st it i s.heap → St i s.heap) ∧ (∀ i v, P i v → ∃ x, RelV x v ∧ p.xs[i]? = some x) ∧ ∀ i h', St i h' → p.st it i h' := by
  cases p with
  | l a xs =>
    obtain ⟨its, rv, p, _⟩ := I.list ok
    refine ⟨fun i v => its.toArray[i]? = some v, fun i h => h.IsListIter it a i ∧ h.IsList a its.toArray, ?_, fun i st => ⟨st, p.isList⟩, fun i v hv => by
      replace hv : its.toArray[i]? = some v := hv
      rw [List.getElem?_toArray] at hv
      have hlt : i < xs.length := by rw [rv.length]; exact (List.getElem?_eq_some_iff.mp hv).1
      have hx : xs[i]? = some xs[i] := List.getElem?_eq_getElem hlt
      obtain ⟨u, hu, ru⟩ := rv.get hx
      have : v = u := by rw [hu] at hv; exact (Option.some.inj hv).symm
      subst this
      exact ⟨_, ru, hx⟩, fun i h' hs => hs.1⟩
    · show Draws _ _ _ _ _ xs.length _ _
      rw [rv.length, ← List.size_toArray]
      exact Draws.list (A := X.A.in1) (I.ok.hd hc) it a ne its.toArray
  | t a xs =>
    obtain ⟨its, rv, p, _⟩ := I.tuple ok
    refine ⟨fun i v => its.toArray[i]? = some v, fun i h => h.IsTupleIter it a i ∧ h.IsTuple a its.toArray, ?_, fun i st => ⟨st, p⟩, fun i v hv => by
      replace hv : its.toArray[i]? = some v := hv
      rw [List.getElem?_toArray] at hv
      have hlt : i < xs.length := by rw [rv.length]; exact (List.getElem?_eq_some_iff.mp hv).1
      have hx : xs[i]? = some xs[i] := List.getElem?_eq_getElem hlt
      obtain ⟨u, hu, ru⟩ := rv.get hx
      have : v = u := by rw [hu] at hv; exact (Option.some.inj hv).symm
      subst this
      exact ⟨_, ru, hx⟩, fun i h' hs => hs.1⟩
    · show Draws _ _ _ _ _ xs.length _ _
      rw [rv.length, ← List.size_toArray]
      exact Draws.tuple (A := X.A.in1) (I.ok.hd hc) it a ne its.toArray
  | s x k =>
    refine ⟨fun i v => ∃ c u, x.cps[i]? = some c ∧ v = .str ⟨#[c]⟩ u, fun i h => h.IsStrIter it (strIterType x) x k i, ?_, fun i st => st, fun i v hv => ?_, fun i h' hs => hs⟩
    · show Draws _ _ _ _ _ (sgV x).length _ _
      rw [sgV_len]
      exact Draws.text (A := X.A.in1) (I.ok.hd hc) it x k
    · obtain ⟨c, u, hcx, rfl⟩ := hv
      refine ⟨.str ⟨#[c]⟩, ⟨_, rfl⟩, ?_⟩
      show (sgV x)[i]? = _
      unfold sgV
      rw [List.getElem?_map, Array.getElem?_toList, hcx]; rfl
/-- what stands at p and q at each turn, the items in new pairs -/
def ItZ (K : PySem.W.Frag) (p q : Zs) : L2.It := ⟨fun i H => (p.ok K H ∧ q.ok K H) ∧ i < p.xs.length ∧ i < q.xs.length, fun i H v H' => ∃ T x y, v = .ref T ∧ H T = none ∧ H' = upd H T (.tup [x, y]) ∧ p.xs[i]? = some x ∧ q.xs[i]? = some y,
  fun i H => (p.ok K H ∧ q.ok K H) ∧ (p.xs.length ≤ i ∨ q.xs.length ≤ i)⟩
theorem turn_zipX {P : Program} {w : World} {K : PySem.W.Frag} {elts : List Expr} {kk : Nat} {tpos : Pos} {p q : Zs} {z TI TO i1 i2 : Addr} (D : ZipSep2 z TI TO i1 i2 (p.fp i1) (q.fp i2)) (n1 : p.ne i1) (n2 : q.ne i2) :
    Turn P w K (.Tuple elts kk tpos) (ItZ K p q) [z, TI, TO, i1, i2] z (fun i h => IsZip h z TI TO .none ∧ IsPair h TI (.ref i1) (.ref i2) ∧ (∃ x y, IsPair h TO x y) ∧ p.st i1 i h ∧ q.st i2 i h ∧ i ≤ p.xs.length ∧ i ≤ q.xs.length) where
  mem := by simp
  obj := fun i h st c hc => by
    obtain ⟨hz, hTI, ⟨x, y, hTO⟩, s1, s2, _⟩ := st
    have e' : c = z ∨ c = TI ∨ c = TO ∨ c = i1 ∨ c = i2 := by simpa using hc
    rcases e' with q | q | q | q | q
    · rw [q]; exact ⟨_, hz, fun v q => nomatch q⟩
    · rw [q]; exact ⟨_, hTI, fun v q => nomatch q⟩
    · rw [q]; exact ⟨_, hTO, fun v q => nomatch q⟩
    · rw [q]; exact Zs.st_obj s1
    · rw [q]; exact Zs.st_obj s2
  keep := fun i h h' st k => by
    obtain ⟨hz, hTI, ⟨x, y, hTO⟩, h1, h2, l⟩ := st
    exact ⟨k z (by simp) _ hz, k TI (by simp) _ hTI, ⟨x, y, k TO (by simp) _ hTO⟩, Zs.st_at h1 fun o q => k i1 (by simp) o q, Zs.st_at h2 fun o q => k i2 (by simp) o q, l⟩
  item := by
    intro X hP hw hK hc i pins s σ H E I hf st hg
    subst hP hw hK
    obtain ⟨hz, hTI, ⟨x0, y0, hTO⟩, h1, h2, _⟩ := st
    obtain ⟨⟨ok1, ok2⟩, l1, l2⟩ := hg
    obtain ⟨P1, S1, D1, a1, b1, c1⟩ := p.draws I hc ok1 i1 n1
    obtain ⟨P2, S2, D2, a2, b2, c2⟩ := q.draws I hc ok2 i2 n2
    have hzl : z < s.heap.objs.size := Heap.lt_size hz
    refine wpAny_pyNext_zipD2_item D D1 D2 hz hTI hTO (a1 _ h1) (a2 _ h2) l1 l2 fun u u2 h' tk y1 y2 z' TO' h1' h2' hT hsz hk => ?_
    obtain ⟨x, ru, hx⟩ := b1 _ _ y1
    obtain ⟨y, ru2, hy⟩ := b2 _ _ y2
    refine ⟨_, rfl, wpAny_letOwnedTupleGo_zip (s := { s with heap := h', toks := tk }) z' fun h'' z'' sb => ?_⟩
    have hT2 : h''.get? s.heap.objs.size = some { cls := .type "tuple", data := .seq #[u, u2] } := (sb.2 _ (Nat.ne_of_gt hzl)).trans hT
    have new : ObjOk X.prog X.w (upd H s.heap.objs.size (.tup [x, y])) h'' s.heap.objs.size (.tup [x, y]) :=
      ⟨by show 2 ≤ sizeLine; decide, [u, u2], .cons ru (.cons ru2 .nil), ⟨_, hT2, rfl, _, rfl⟩⟩
    have I1 : Inv X pins σ (upd H s.heap.objs.size (.tup [x, y])) { s with heap := h'', toks := tk } :=
      I.turnedNew (ch := [z, TI, TO, i1, i2]) (fun c o hb q => (sb.2 c (fun q' => hb (by simp [q']))).trans (hk c o (fun q' => hb (by simp [q'])) (fun q' => hb (by simp [q'])) (fun q' => hb (by simp [q'])) (fun q' => hb (by simp [q'])) q)) hf (Nat.le_refl _) new
    refine ⟨.ref s.heap.objs.size, _, I1, rfl, ⟨_, x, y, rfl, I.hok.fresh (Nat.le_refl _), rfl, hx, hy⟩, ⟨z'', ?_, ⟨u, u2, ?_⟩, ?_, ?_, l1, l2⟩, fun c hcm => ?_⟩
    · exact (sb.2 _ D.TIz).trans (hk _ _ D.TIz D.TITO D.TIi1 D.TIi2 hTI)
    · exact (sb.2 _ D.TOz).trans TO'
    · exact Zs.st_at (c1 _ _ h1') fun o q => (sb.2 _ D.zi1.symm).trans q
    · exact Zs.st_at (c2 _ _ h2') fun o q => (sb.2 _ D.zi2.symm).trans q
    · have hlt : c < s.heap.objs.size := by
        have e' : c = z ∨ c = TI ∨ c = TO ∨ c = i1 ∨ c = i2 := by simpa using hcm
        rcases e' with q | q | q | q | q
        · rw [q]; exact hzl
        · rw [q]; exact Heap.lt_size hTI
        · rw [q]; exact Heap.lt_size hTO
        · rw [q]; obtain ⟨_, e1, _⟩ := Zs.st_obj h1; exact Heap.lt_size e1
        · rw [q]; obtain ⟨_, e2, _⟩ := Zs.st_obj h2; exact Heap.lt_size e2
      rw [upd_ne (Nat.ne_of_lt hlt)]
      exact (hf c hcm).1
  done := by
    intro X hP hw hK hc i pins s σ H E I hf st hg
    subst hP hw hK
    obtain ⟨hz, hTI, ⟨x0, y0, hTO⟩, h1, h2, l1, l2⟩ := st
    obtain ⟨⟨ok1, ok2⟩, hend⟩ := hg
    obtain ⟨P1, S1, D1, a1, b1, c1⟩ := p.draws I hc ok1 i1 n1
    obtain ⟨P2, S2, D2, a2, b2, c2⟩ := q.draws I hc ok2 i2 n2
    exact wpAny_pyNext_zipD2_end D D1 D2 hz hTI hTO (a1 _ h1) (a2 _ h2) l1 l2 (by omega) fun h' tk hk => ⟨rfl, I.turnedL (t' := tk) (ch := [z, TI, TO, i1, i2]) (fun c o hb q =>
      hk c o (fun q' => hb (by simp [q'])) (fun q' => hb (by simp [q'])) (fun q' => hb (by simp [q'])) (fun q' => hb (by simp [q'])) q) hf⟩
  self := fun A i s Q E st h => wpAny_pyIter_zip st.1 h
abbrev zx1 (h : Heap) (p q : Zs) : Heap := h.push p.ob
abbrev zx2 (h : Heap) (p q : Zs) : Heap := (zx1 h p q).push q.ob
abbrev zx3 (h : Heap) (p q : Zs) : Heap := (zx2 h p q).push { cls := .type "tuple", data := .seq #[.ref h.objs.size, .ref (zx1 h p q).objs.size] }
abbrev zx4 (h : Heap) (p q : Zs) : Heap := (zx3 h p q).push { cls := .type "tuple", data := .seq #[.none, .none] }
abbrev zx5 (h : Heap) (p q : Zs) : Heap := (zx4 h p q).push { cls := .type "zip", data := .fields #[.none, .bool false, .bool false, .ref (zx2 h p q).objs.size, .ref (zx3 h p q).objs.size] }
set_option maxHeartbeats 8000000 in
theorem meets_zipX (p q : Zs) :
    Meets (Builtin.«zip.__new__» ⟨[.type "zip", p.val, q.val], []⟩) (fun _ R s => p.live s.heap ∧ q.live s.heap ∧ R (.ok (.ret (.ref (zx4 s.heap p q).objs.size))) { s with heap := zx5 s.heap p q }) :=
  .of_wp fun prog w A R s h => by
    obtain ⟨hp, g, d, tk, os⟩ := s; obtain ⟨hl, hl2, h⟩ := h
    have hsub := sub_zip
    have hL : q.live (Shared.heap ⟨hp.push p.ob, g, d, tk, os⟩) := Zs.live_push hl2 _
    wp_walk using Zs.iter hl, Zs.iter hL
    exact ⟨_, rfl, h⟩
theorem call_zipX {prog : Program} {w : World} {A : Around} {E : Value → Shared → Prop} {s : Shared} {p q : Zs} {Q : Value → Shared → Prop} (hp : p.live s.heap) (hq : q.live s.heap)
    (h : ∀ h', IsZip h' (s.heap.objs.size + 4) (s.heap.objs.size + 2) (s.heap.objs.size + 3) .none → IsPair h' (s.heap.objs.size + 2) (.ref s.heap.objs.size) (.ref (s.heap.objs.size + 1)) →
      IsPair h' (s.heap.objs.size + 3) .none .none → p.st s.heap.objs.size 0 h' → q.st (s.heap.objs.size + 1) 0 h' →
      (∀ c o, s.heap.get? c = some o → h'.get? c = some o) → Q (.ref (s.heap.objs.size + 4)) { s with heap := h' }) : wpAny (model prog w) A (call (.type "zip") [p.val, q.val]) Q E s := by
  refine callType_new F.called_zip (by decide) (F.typeCall_zip_2 _ _) (F.newCall_zip_2 _ _) (fun obj => F.args_object_init_3 obj _ _) F.entry_zip_new (meets_zipX p q) ⟨hp, hq, ?_⟩
  generalize hs : s.heap.objs.size = n at h ⊢
  have z1 : (zx1 s.heap p q).objs.size = n + 1 := by rw [← hs]; exact Heap.size_push ..
  have z2 : (zx2 s.heap p q).objs.size = n + 2 := by rw [Heap.size_push, z1]
  have z3 : (zx3 s.heap p q).objs.size = n + 3 := by rw [Heap.size_push, z2]
  have z4 : (zx4 s.heap p q).objs.size = n + 4 := by rw [Heap.size_push, z3]
  have up : ∀ {h : Heap} {o : Obj} {c : Addr} {q : Obj}, h.get? c = some q → (h.push o).get? c = some q := fun e => Heap.get?_push_of_some _ e
  have g5 : (zx5 s.heap p q).get? (zx4 s.heap p q).objs.size = some _ := Heap.get?_push_size _ rfl
  have g4 : (zx5 s.heap p q).get? (zx3 s.heap p q).objs.size = some _ := up (Heap.get?_push_size _ rfl)
  have g3 : (zx5 s.heap p q).get? (zx2 s.heap p q).objs.size = some _ := up (up (Heap.get?_push_size _ rfl))
  have g2 : (zx5 s.heap p q).get? (zx1 s.heap p q).objs.size = some _ := up (up (up (Heap.get?_push_size _ q.ob_free)))
  have g1 : (zx5 s.heap p q).get? s.heap.objs.size = some _ := up (up (up (up (Heap.get?_push_size _ p.ob_free))))
  rw [z2, z3, z4] at g5; rw [z3] at g4; rw [z1, z2, hs] at g3; rw [z1] at g2; rw [hs] at g1
  show _ ∧ _
  rw [z4]
  exact ⟨⟨_, g5, rfl⟩, h _ g5 g3 g4 (Zs.st_new g1) (Zs.st_new g2) fun c o q => up (up (up (up (up q))))⟩
theorem Zs.sep {p q : Zs} {n : Addr} {h : Heap} (hn : h.objs.size = n) (lp : p.live h) (lq : q.live h) : ZipSep2 (n + 4) (n + 2) (n + 3) n (n + 1) (p.fp n) (q.fp (n + 1)) ∧ p.ne n ∧ q.ne (n + 1) := by
  have ap : ∀ b ∈ p.fp n, b ≤ n := by
    cases p with
    | l a xs =>
      obtain ⟨its, o, ho, _⟩ := lp
      have := Heap.lt_size ho
      intro b hb
      have hb : b = n ∨ b = a := by simpa [Zs.fp] using hb
      rcases hb with rfl | rfl
      · exact Nat.le_refl _
      · rw [← hn]; exact Nat.le_of_lt this
    | t a xs =>
      obtain ⟨its, o, ho, _⟩ := lp
      have := Heap.lt_size ho
      intro b hb
      have hb : b = n ∨ b = a := by simpa [Zs.fp] using hb
      rcases hb with rfl | rfl
      · exact Nat.le_refl _
      · rw [← hn]; exact Nat.le_of_lt this
    | s x k =>
      intro b hb
      have hb : b = n := by simpa [Zs.fp] using hb
      rw [hb]; exact Nat.le_refl _
  have aq : ∀ b ∈ q.fp (n + 1), b = n + 1 ∨ b < n := by
    cases q with
    | l a xs =>
      obtain ⟨its, o, ho, _⟩ := lq
      have := Heap.lt_size ho
      intro b hb
      have hb : b = n + 1 ∨ b = a := by simpa [Zs.fp] using hb
      rcases hb with rfl | rfl
      · exact .inl rfl
      · rw [← hn]; exact .inr this
    | t a xs =>
      obtain ⟨its, o, ho, _⟩ := lq
      have := Heap.lt_size ho
      intro b hb
      have hb : b = n + 1 ∨ b = a := by simpa [Zs.fp] using hb
      rcases hb with rfl | rfl
      · exact .inl rfl
      · rw [← hn]; exact .inr this
    | s x k =>
      intro b hb
      have hb : b = n + 1 := by simpa [Zs.fp] using hb
      exact .inl hb
  have m1 : n ∈ p.fp n := by cases p <;> simp [Zs.fp]
  have m2 : n + 1 ∈ q.fp (n + 1) := by cases q <;> simp [Zs.fp]
  refine ⟨⟨by simp [Addr], by simp [Addr], by simp [Addr], by simp [Addr], m1, fun m => ?_, fun m => ?_, by simp [Addr], m2, fun m => ?_, fun m => ?_, fun m => ?_, fun m => ?_⟩, ?_, ?_⟩
  · have := ap _ m; simp [Addr] at this; omega
  · have := ap _ m; simp [Addr] at this; omega
  · have := aq _ m; simp [Addr] at this; omega
  · have := aq _ m; simp [Addr] at this; omega
  · have := aq _ m; simp [Addr] at this
  · have := ap _ m; simp [Addr] at this; omega
  · cases p with
    | l a xs =>
      obtain ⟨its, o, ho, _⟩ := lp
      exact Nat.ne_of_lt (hn ▸ Heap.lt_size ho)
    | t a xs =>
      obtain ⟨its, o, ho, _⟩ := lp
      exact Nat.ne_of_lt (hn ▸ Heap.lt_size ho)
    | s x k => trivial
  · cases q with
    | l a xs =>
      obtain ⟨its, o, ho, _⟩ := lq
      exact Nat.ne_of_lt (Nat.lt_succ_of_lt (hn ▸ Heap.lt_size ho))
    | t a xs =>
      obtain ⟨its, o, ho, _⟩ := lq
      exact Nat.ne_of_lt (Nat.lt_succ_of_lt (hn ▸ Heap.lt_size ho))
    | s x k => trivial
/-- what a hand value is a source of -/
inductive ZsV : Zs → V → Prop
  | l {a : Addr} {xs : List V} : ZsV (.l a xs) (.ref a)
  | t {a : Addr} {xs : List V} : ZsV (.t a xs) (.ref a)
  | s {x : Str} {k : Tok} : ZsV (.s x k) (.str x)
theorem Zs.live_of {X : Cx} {pins : List (Addr × Obj)} {σ : Sg} {H : Hp} {s : Shared} {p : Zs} (I : Inv X pins σ H s) (ok : p.ok X.K H) : p.live s.heap := by
  cases p with
  | l a xs => obtain ⟨its, rv, p, _⟩ := I.list ok; exact ⟨_, p.isList⟩
  | t a xs => obtain ⟨its, rv, p, _⟩ := I.tuple ok; exact ⟨_, p⟩
  | s x k => trivial
/-- with the token of the run -/
theorem ZsV.tok {p : Zs} {v : V} {u : Value} {K : PySem.W.Frag} (h : ZsV p v) (r : RelV v u) : ∃ p' : Zs, p'.val = u ∧ p'.xs = p.xs ∧ ∀ H, (p'.ok K H ↔ p.ok K H) := by
  cases h with
  | l => cases r; exact ⟨.l _ _, rfl, rfl, fun _ => Iff.rfl⟩
  | t => cases r; exact ⟨.t _ _, rfl, rfl, fun _ => Iff.rfl⟩
  | s => obtain ⟨k, rfl⟩ := r; exact ⟨.s _ k, rfl, rfl, fun _ => Iff.rfl⟩
def iZipX (K : PySem.W.Frag) (ta : TA) : TI := fun σ H R => ta σ H fun vs H1 => ∃ v u p q, vs = [v, u] ∧ ZsV p v ∧ ZsV q u ∧ p.ok K H1 ∧ q.ok K H1 ∧ ∀ p' q' : Zs, p'.xs = p.xs → q'.xs = q.xs → (∀ H, p'.ok K H ↔ p.ok K H) → (∀ H, q'.ok K H ↔ q.ok K H) → R (ItZ K p' q') H1
theorem pi_zipX {X : Cx} {e e2 : Expr} {ta : TA} {p pos tpos : Pos} {elts : List Expr} {kk : Nat} (hg : Gl X "zip") (hm : X.mg "zip" = none) (ha : PA X [e, e2] ta)
    (hs : starEach [e, e2] X.env = (false, eval e X.env) :: starEach [e2] X.env := by rfl) (hpl : (backTo pos (starEach [e2] X.env)).any (·.1) = false := by rfl) :
    PI X (.Tuple elts kk tpos) (.Call (.Name "zip" p) [e, e2] [] pos) (iZipX X.K ta) := by
  refine ⟨fun pins s σ H R I h => ?_⟩
  refine Call_ (ld_blt I hg hm PyProof.Rows.boot_zip (PyProof.Rows.callWith_type1 (thn (ha.run pos pins s σ H _ I h) fun us s1 ⟨vs, H1, I1, r1, q1⟩ => ?_) hs hpl))
  obtain ⟨v, u, p1, q1, ex, v1, v2, o1, o2, R1⟩ := q1
  subst ex
  cases r1 with
  | cons r rr =>
    cases rr with
    | cons r' rr =>
      cases rr
      obtain ⟨p', rfl, e1, f1⟩ := v1.tok (K := X.K) r
      obtain ⟨q', rfl, e2', f2⟩ := v2.tok (K := X.K) r'
      have ok1 := (f1 H1).mpr o1
      have ok2 := (f2 H1).mpr o2
      have lp := Zs.live_of I1 ok1
      have lq := Zs.live_of I1 ok2
      have fresh5 : ∀ c, c ∈ [s1.heap.objs.size + 4, s1.heap.objs.size + 2, s1.heap.objs.size + 3, s1.heap.objs.size, s1.heap.objs.size + 1] → FpOk X pins H1 c := fun c hcm => by
        have e' : c = s1.heap.objs.size + 4 ∨ c = s1.heap.objs.size + 2 ∨ c = s1.heap.objs.size + 3 ∨ c = s1.heap.objs.size ∨ c = s1.heap.objs.size + 1 := by simpa using hcm
        have hle : s1.heap.objs.size ≤ c := by
          rcases e' with z | z | z | z | z
          · rw [z]; exact Nat.le_add_right _ _
          · rw [z]; exact Nat.le_add_right _ _
          · rw [z]; exact Nat.le_add_right _ _
          · rw [z]; exact Nat.le_refl _
          · rw [z]; exact Nat.le_add_right _ _
        exact I1.fpOk hle (I1.hok.fresh hle)
      refine call_zipX lp lq fun h' hz hTI hTO h1 h2 hk => wpAny_pyIter_zip hz ?_
      obtain ⟨S, n1, n2⟩ := Zs.sep rfl lp lq
      have I2 : Inv X pins σ H1 { s1 with heap := h' } := I1.kept (t' := s1.toks) hk
      exact ⟨s1.heap.objs.size + 4, [s1.heap.objs.size + 4, s1.heap.objs.size + 2, s1.heap.objs.size + 3, s1.heap.objs.size, s1.heap.objs.size + 1], _, _, H1, rfl, I2, turn_zipX S n1 n2, ⟨hz, hTI, ⟨_, _, hTO⟩, h1, h2, Nat.zero_le _, Nat.zero_le _⟩, fresh5, R1 p' q' e1 e2' f1 f2⟩
end
end Tw

set_option maxRecDepth 100000
namespace Tw
open PySem PySem.Spec PyProof.Rows L2
section
variable {X : Cx} {G : Nat → Addr} {W : WX} {e a b c tg iter o : Expr} {es elts : List Expr} {pos p apos cpos tpos : Pos} {kk : Nat} {K : Ct} {Z H : Hp} {fx : List Nat}
/-! ### zip over any two -/
theorem zs_of {d : D} {v : V} {ds : List D} (zh : Same Z H) (r : Rp K Z H d v []) (e : items d = some ds) :
    ∃ p : Zs, ZsV p v ∧ p.ok K.K Z ∧ Rps K Z H ds p.xs [] := by
  unfold items at e
  split at e
  · cases e
    obtain ⟨a, ws, rfl, s, r⟩ := r
    exact ⟨.t a ws, .t, s, r⟩
  · cases e
    obtain ⟨a, ws, rfl, ⟨own, s⟩, r, _⟩ := r
    exact ⟨.l a ws, .l, SqL.of s.1, r⟩
  · cases e
    obtain ⟨a, ws, rfl, s, r, _⟩ := r
    exact ⟨.l a ws, .l, s, r⟩
  · rename_i l; cases e
    obtain ⟨rfl, _⟩ := r
    exact ⟨.s (mkS l) default, .s, trivial, sgD_rps l⟩
  · cases e
theorem zs_mono {p : Zs} {Z' : Hp} (z : Same Z Z') (h : p.ok K.K Z) : p.ok K.K Z' := by
  cases p with
  | l a xs => exact z.seq h
  | t a xs => exact sqT_mono h z
  | s x k => trivial
theorem itr_zipX {p q : Zs} {ds es : List D} {vs ws : List V} (e1 : p.xs = vs) (e2 : q.xs = ws) (s : p.ok K.K Z) (r : Rps K Z H ds vs []) (s2 : q.ok K.K Z) (r2 : Rps K Z H es ws []) : Itr K Z (ItZ K.K p q) (zipL ds es) where
  frz := fun d hd => by
    obtain ⟨j, hj⟩ := List.mem_iff_getElem?.mp hd
    obtain ⟨x, y, ex, ey, rfl⟩ := zipL_get hj
    show (isFrz x && (isFrz y && true)) = true
    rw [r.frz_all x (List.mem_of_getElem? ex), r2.frz_all y (List.mem_of_getElem? ey)]; rfl
  stop := fun Z' H' z zh => ⟨⟨zs_mono (z.trans zh) s, zs_mono (z.trans zh) s2⟩, by rw [e1, e2, zipL_len, ← r.length, ← r2.length]; omega⟩
  go := fun i hi Z' H' z zh => by
    rw [zipL_len, r.length, r2.length] at hi
    exact ⟨⟨zs_mono (z.trans zh) s, zs_mono (z.trans zh) s2⟩, by rw [e1]; omega, by rw [e2]; omega⟩
  yld := fun i d e Z' H' x H2 z zh hy => by
    obtain ⟨T, u, w, rfl, hT, rfl, hx, hw⟩ := hy
    obtain ⟨x, y, ex, ey, rfl⟩ := zipL_get e
    obtain ⟨v, ev, rv⟩ := r.at0 ex
    obtain ⟨v2, ev2, rv2⟩ := r2.at0 ey
    rw [e1, ev] at hx; cases hx
    rw [e2, ev2] at hw; cases hw
    have rv' : Rp K Z' H' x _ [] := rv.keep z fun b hb => by simp at hb
    have rv2' : Rp K Z' H' y _ [] := rv2.keep z fun b hb => by simp at hb
    exact ⟨_, Al.newT (ds := [x, y]) zh ⟨_, [_], [], [], rfl, rfl, rv', _, [], [], [], rfl, rfl, rv2', rfl, rfl⟩ hT⟩
def iZpA (g : Env → R Env (List Ag × Env)) : Env → R Env (List D × Env) := fun ρ => (g ρ).bind fun q => match q.1 with
  | [.v x, .v y] => (oR (items (frz x))).bind fun ds => (oR (items (frz y))).bind fun es => .ok (zipL ds es, q.2)
  | _ => .stuck
theorem ix_zipA {b1 : Bool} {g : Env → R Env (List Ag × Env)} (hg : Gl X "zip") (hm : X.mg "zip" = none) (ha : Ax X G W b1 [a, b] g) (hs : starEach [a, b] X.env = (false, eval a X.env) :: starEach [b] X.env := by rfl) (hpl : (backTo pos (starEach [b] X.env)).any (·.1) = false := by rfl) :
    Ix X G W b1 (.Tuple elts kk tpos) (.Call (.Name "zip" p) [a, b] [] pos) (iZpA g) := by
  refine ⟨bindq ha.q fun p d ρ' e => ?_, fun σ H Z ρ T Q S P => toI (pi_zipX hg hm paR hs hpl) (ha.run σ H Z ρ T _ S ?_)⟩
  · split at e
    · rename_i x y _
      cases e1 : items (frz x) with
      | none => rw [e1] at e; cases e
      | some ds =>
        rw [e1] at e
        simp only [oR_some, R.ok_bind] at e
        cases e2 : items (frz y) with
        | none => rw [e2] at e; cases e
        | some es => rw [e2] at e; cases e; rfl
    · cases e
  unfold iZpA at P
  cases e1 : g ρ with
  | stuck => rw [e1] at P; exact P
  | exc c fs ρ' => rw [e1] at P; exact P
  | ok r =>
    obtain ⟨as, ρ1⟩ := r
    rw [e1] at P
    simp only [R.ok_bind] at P
    intro vs L H1 Z1 z1 h1 rL S1
    split at P
    · rename_i x y
      cases e2 : items (frz x) with
      | none => rw [e2] at P; exact P.elim
      | some ds =>
        rw [e2] at P
        simp only [oR_some, R.ok_bind] at P
        cases e3 : items (frz y) with
        | none => rw [e3] at P; exact P.elim
        | some es =>
          rw [e3] at P
          obtain ⟨rfl, l⟩ := resA_vals rL (ds := [x, y]) rfl
          match vs, l with
          | [v, u], _ =>
          have S1' : Sa ⟨X.K, G⟩ Z1 H1 σ ρ1 (.tr x v :: .tr y u :: T) := S1
          obtain ⟨Z2, z2, S2⟩ := S1'.freeze
          obtain ⟨Z3, z3, S3⟩ := (S2.perm (List.Perm.swap _ _ _)).freeze
          obtain ⟨f1, r1⟩ := S3.rp
          obtain ⟨f2, r2⟩ := S3.drop.rp
          have f0 := r1.isFrz (isFrz_frz y)
          subst f0
          have f0 := r2.isFrz (isFrz_frz x)
          subst f0
          obtain ⟨q, vq, oq, rq⟩ := zs_of S3.si.zh r1 e3
          obtain ⟨p, vp, op, rp⟩ := zs_of S3.si.zh r2 e2
          exact ⟨v, u, p, q, rfl, vp, vq, zs_mono S3.si.zh op, zs_mono S3.si.zh oq, fun p' q' ep eq fp fq => P _ H1 Z3 ((z1.trans z2).trans z3) h1 S3.drop.drop (itr_zipX ep eq ((fp _).mpr op) rp ((fq _).mpr oq) rq)⟩
    · exact P.elim
theorem wp_iZpA {Q : List D × Env → Prop} {E : XQ Env} (t : Tag Q) (u : Tag E) (ρ : Env) (g : Env → R Env (List Ag × Env)) : Wp (iZpA g ρ) Q E t u = Wp (g ρ) (fun q => On2 q.1 (fun a b => Op (items (frz a)) (fun ds => Op (items (frz b)) (fun es => Q (zipL ds es, q.2)) .mk) .mk) .mk) E .mk .mk := by
  show Wp ((g ρ).bind _) Q E t u = _
  rw [wp_bind]; refine wp_cg fun q => ?_; obtain ⟨as, ρ2⟩ := q
  match as with
  | [.v a, .v b] =>
    show Wp ((oR (items (frz a))).bind _) Q E .mk .mk = Op _ _ .mk
    rw [wp_bind, wp_oR]; refine op_cg fun ds => ?_; rw [wp_bind, wp_oR]; rfl
  | [] => rfl
  | [.v _] => rfl
  | [.m _] => rfl
  | .m _ :: _ :: _ => rfl
  | .v _ :: .m _ :: _ => rfl
  | .v _ :: .v _ :: _ :: _ => rfl
/-! ### max and min of a list of numbers -/
def minI : List Int → Option Int
  | [] => none
  | a :: l => some (l.foldl min a)
def maxI : List Int → Option Int
  | [] => none
  | a :: l => some (l.foldl max a)
theorem foldl_min (l : List Int) : ∀ a, (l.foldl min a ∈ a :: l) ∧ ∀ y ∈ a :: l, l.foldl min a ≤ y := by
  induction l with
  | nil => intro a; simp
  | cons b l ih =>
    intro a
    obtain ⟨h1, h2⟩ := ih (min a b)
    refine ⟨?_, fun y hy => ?_⟩
    · show l.foldl min (min a b) ∈ _
      rcases List.mem_cons.mp h1 with h | h
      · rw [h]
        rcases Int.le_total a b with z | z
        · rw [Int.min_eq_left z]; simp
        · rw [Int.min_eq_right z]; simp
      · exact List.mem_cons_of_mem _ (List.mem_cons_of_mem _ h)
    · show l.foldl min (min a b) ≤ y
      have h0 := h2 (min a b) List.mem_cons_self
      rcases List.mem_cons.mp hy with h | h
      · rw [h]; exact Int.le_trans h0 (Int.min_le_left ..)
      · rcases List.mem_cons.mp h with h | h
        · rw [h]; exact Int.le_trans h0 (Int.min_le_right ..)
        · exact h2 y (List.mem_cons_of_mem _ h)
theorem foldl_max (l : List Int) : ∀ a, (l.foldl max a ∈ a :: l) ∧ ∀ y ∈ a :: l, y ≤ l.foldl max a := by
  induction l with
  | nil => intro a; simp
  | cons b l ih =>
    intro a
    obtain ⟨h1, h2⟩ := ih (max a b)
    refine ⟨?_, fun y hy => ?_⟩
    · show l.foldl max (max a b) ∈ _
      rcases List.mem_cons.mp h1 with h | h
      · rw [h]
        rcases Int.le_total a b with z | z
        · rw [Int.max_eq_right z]; simp
        · rw [Int.max_eq_left z]; simp
      · exact List.mem_cons_of_mem _ (List.mem_cons_of_mem _ h)
    · show y ≤ l.foldl max (max a b)
      have h0 := h2 (max a b) List.mem_cons_self
      rcases List.mem_cons.mp hy with h | h
      · rw [h]; exact Int.le_trans (Int.le_max_left ..) h0
      · rcases List.mem_cons.mp h with h | h
        · rw [h]; exact Int.le_trans (Int.le_max_right ..) h0
        · exact h2 y (List.mem_cons_of_mem _ h)
def minF1 : F1
  | .nd _ .lst ds => (asInts ds).bind fun is => (minI is).map .int
  | _ => none
def maxF1 : F1
  | .nd _ .lst ds => (asInts ds).bind fun is => (maxI is).map .int
  | _ => none
theorem caF_min1 : CaF X G (rMin X.K) minF1 := by
  intro Z H x v fx d Q zh rx e q
  unfold minF1 at e
  split at e
  · rename_i m ds
    obtain ⟨a, vs, f, rfl, s, r⟩ := rx.lst_any zh
    cases e2 : asInts ds with
    | none => rw [e2] at e; cases e
    | some is =>
      rw [e2] at e
      cases is with
      | nil => cases e
      | cons i is =>
        cases e
        refine ⟨a, i :: is, rfl, by rw [← asInts_rp e2 r]; exact SqL.of s, Nat.succ_pos _, fun m hm hl => ?_⟩
        have ⟨h1, h2⟩ := foldl_min is i
        have : m = is.foldl min i := Int.le_antisymm (hl _ h1) (h2 _ hm)
        rw [this]
        exact q_int q
  · cases e
theorem caF_max1 : CaF X G (rMax X.K) maxF1 := by
  intro Z H x v fx d Q zh rx e q
  unfold maxF1 at e
  split at e
  · rename_i m ds
    obtain ⟨a, vs, f, rfl, s, r⟩ := rx.lst_any zh
    cases e2 : asInts ds with
    | none => rw [e2] at e; cases e
    | some is =>
      rw [e2] at e
      cases is with
      | nil => cases e
      | cons i is =>
        cases e
        refine ⟨a, i :: is, rfl, by rw [← asInts_rp e2 r]; exact SqL.of s, Nat.succ_pos _, fun m hm hl => ?_⟩
        have ⟨h1, h2⟩ := foldl_max is i
        have : m = is.foldl max i := Int.le_antisymm (h2 _ hm) (hl _ h1)
        rw [this]
        exact q_int q
  · cases e
end
end Tw

set_option maxRecDepth 100000
namespace Tw
open PySem PySem.Spec PyProof.Rows L2
/-! ### a value reckoned while what stands is lent as frozen -/
mutual
def noFr : D → Bool
  | .tup ds => noFrs ds
  | .nd m _ ds => m && noFrs ds
  | _ => true
def noFrs : List D → Bool
  | [] => true
  | d :: ds => noFr d && noFrs ds
end
/-- the wanted variables frozen, the others left out -/
def viewE : List Bool → Env → Env
  | true :: m, some d :: ρ => some (frz d) :: viewE m ρ
  | _ :: m, _ :: ρ => none :: viewE m ρ
  | [], _ :: ρ => none :: viewE [] ρ
  | _, [] => []
def dPeek (m : List Bool) (f : Env → R Env (D × Env)) : Env → R Env (D × Env) := fun ρ => match f (viewE m ρ) with
  | .ok (r, _) => if noFr r = true then .ok (r, ρ) else .stuck
  | .exc c fs _ => if noFrs fs = true then .exc c fs ρ else .stuck
  | .stuck => .stuck
def cellO : HO → Prop
  | .lst _ => True
  | .dK _ => True
  | .ins _ _ _ => True
  | .own _ => True
  | _ => False
section
variable {K : Ct} {Z Z' H H' : Hp} {T : List It} {σ : Sg} {ρ : Env}
theorem Cell.cells {k : Kd} {a : Addr} {vs : List V} {own : List Addr} (c : Cell K H k a vs own) : ∀ b ∈ own, ∃ o, H b = some o ∧ cellO o := by
  cases k with
  | ro => exact c.elim
  | hole => exact c.elim
  | lst => obtain ⟨e, rfl⟩ := c; intro b hb; simp at hb; subst hb; exact ⟨_, e, trivial⟩
  | dct ks => obtain ⟨l, e, rfl⟩ := c; intro b hb; simp at hb; subst hb; exact ⟨_, e, trivial⟩
  | obj C ns => obtain ⟨l, dx, e, e2, n, rfl⟩ := c; intro b hb; simp at hb; rcases hb with rfl | rfl; exact ⟨_, e, trivial⟩; exact ⟨_, e2, trivial⟩
mutual
theorem Rp.cells : ∀ {d : D} {v : V} {fp : List Addr}, Rp K Z H d v fp → ∀ b ∈ fp, ∃ o, H b = some o ∧ cellO o
  | .non, _, _, h => by rw [h.2]; intro b hb; cases hb
  | .bl _, _, _, h => by rw [h.2]; intro b hb; cases hb
  | .int _, _, _, h => by rw [h.2]; intro b hb; cases hb
  | .str _, _, _, h => by rw [h.2]; intro b hb; cases hb
  | .glb _, _, _, h => by rw [h.2]; intro b hb; cases hb
  | .tup ds, _, _, h => by obtain ⟨a, vs, e, s, r⟩ := h; exact Rps.cells r
  | .nd false k ds, _, _, h => by obtain ⟨a, vs, e, s, r, rfl⟩ := h; intro b hb; cases hb
  | .nd true k ds, _, _, h => by
    obtain ⟨a, vs, own, fp', e, s, r, rfl⟩ := h
    intro b hb
    rcases List.mem_append.mp hb with hb | hb
    · exact s.cells b hb
    · exact Rps.cells r b hb
theorem Rps.cells : ∀ {ds : List D} {vs : List V} {fp : List Addr}, Rps K Z H ds vs fp → ∀ b ∈ fp, ∃ o, H b = some o ∧ cellO o
  | [], _, _, h => by rw [h.2]; intro b hb; cases hb
  | d :: ds, _, _, h => by
    obtain ⟨v, vs', f1, f2, e, rfl, r, r2⟩ := h
    intro b hb
    rcases List.mem_append.mp hb with hb | hb
    · exact Rp.cells r b hb
    · exact Rps.cells r2 b hb
end
def less (Z : Hp) (F : List Addr) : Hp := fun a => if a ∈ F then none else Z a
theorem less_of {F : List Addr} {a : Addr} {o : HO} (e : less Z F a = some o) : a ∉ F ∧ Z a = some o := by
  unfold less at e
  by_cases h : a ∈ F
  · rw [if_pos h] at e; cases e
  · rw [if_neg h] at e; exact ⟨h, e⟩
theorem less_to {F : List Addr} {a : Addr} {o : HO} (hF : ∀ b ∈ F, ∃ u, Z b = some u ∧ cellO u) (e : Z a = some o) (n : ¬ cellO o) : less Z F a = some o := by
  unfold less
  rw [if_neg fun h => ?_]
  · exact e
  · obtain ⟨u, e2, c⟩ := hF a h
    rw [e] at e2; cases e2
    exact n c
theorem sqT_less {F : List Addr} (hF : ∀ b ∈ F, ∃ u, Z b = some u ∧ cellO u) {a : Addr} {vs : List V} (h : SqT K.K Z a vs) : SqT K.K (less Z F) a vs := by
  rcases h with (h | ⟨o, h⟩) | h
  · exact .inl (.inl (less_to hF h fun x => x))
  · exact .inl (.inr ⟨o, less_to hF h fun x => x⟩)
  · exact .inr h
mutual
theorem Rp.less {F : List Addr} (hF : ∀ b ∈ F, ∃ u, Z b = some u ∧ cellO u) : ∀ {d : D} {v : V} {fp : List Addr}, Rp K Z H d v fp → noFr d = true → Rp K (Tw.less Z F) H d v fp
  | .non, _, _, h, _ => h
  | .bl _, _, _, h, _ => h
  | .int _, _, _, h, _ => h
  | .str _, _, _, h, _ => h
  | .glb _, _, _, h, _ => h
  | .tup ds, _, _, h, k => by obtain ⟨a, vs, e, s, r⟩ := h; exact ⟨a, vs, e, sqT_less hF s, Rps.less hF r k⟩
  | .nd false c ds, _, _, h, k => by
    have : (false && noFrs ds) = true := k
    simp at this
  | .nd true c ds, _, _, h, k => by
    obtain ⟨a, vs, own, fp', e, s, r, rfl⟩ := h
    have k' : (true && noFrs ds) = true := k
    exact ⟨a, vs, own, fp', e, s, Rps.less hF r (by simpa using k'), rfl⟩
theorem Rps.less {F : List Addr} (hF : ∀ b ∈ F, ∃ u, Z b = some u ∧ cellO u) : ∀ {ds : List D} {vs : List V} {fp : List Addr}, Rps K Z H ds vs fp → noFrs ds = true → Rps K (Tw.less Z F) H ds vs fp
  | [], _, _, h, _ => h
  | d :: ds, _, _, h, k => by
    obtain ⟨v, vs', f1, f2, e, e2, r, r2⟩ := h
    have k' : (noFr d && noFrs ds) = true := k
    rw [Bool.and_eq_true] at k'
    exact ⟨v, vs', f1, f2, e, e2, Rp.less hF r k'.1, Rps.less hF r2 k'.2⟩
end
theorem viewE_len : ∀ (m : List Bool) (ρ : Env), (viewE m ρ).length = ρ.length
  | [], [] => rfl
  | [], _ :: ρ => by show (viewE [] ρ).length + 1 = _; rw [viewE_len [] ρ]; rfl
  | true :: m, [] => rfl
  | false :: m, [] => rfl
  | true :: m, none :: ρ => by show (viewE m ρ).length + 1 = _; rw [viewE_len m ρ]; rfl
  | true :: m, some d :: ρ => by show (viewE m ρ).length + 1 = _; rw [viewE_len m ρ]; rfl
  | false :: m, x :: ρ => by show (viewE m ρ).length + 1 = _; rw [viewE_len m ρ]; rfl
theorem viewE_get : ∀ (m : List Bool) (ρ : Env) (i : Nat) (d : D), (viewE m ρ)[i]? = some (some d) → ∃ d0, ρ[i]? = some (some d0)
  | [], [], i, d, h => by cases h
  | true :: m, [], i, d, h => by cases h
  | false :: m, [], i, d, h => by cases h
  | [], x :: ρ, 0, d, h => by cases h
  | [], x :: ρ, i + 1, d, h => viewE_get [] ρ i d h
  | true :: m, none :: ρ, 0, d, h => by cases h
  | true :: m, none :: ρ, i + 1, d, h => viewE_get m ρ i d h
  | true :: m, some x :: ρ, 0, d, h => ⟨x, rfl⟩
  | true :: m, some x :: ρ, i + 1, d, h => viewE_get m ρ i d h
  | false :: m, x :: ρ, 0, d, h => by cases h
  | false :: m, x :: ρ, i + 1, d, h => viewE_get m ρ i d h
theorem viewE_ok (m : List Bool) (o : EnvOk σ ρ) : EnvOk σ (viewE m ρ) :=
  ⟨(viewE_len m ρ).trans o.len, fun i d h => let ⟨d0, h0⟩ := viewE_get m ρ i d h; o.get i d0 h0⟩
/-- seen as frozen -/
theorem viewE_fp (hz : Same Z Z') : ∀ (m : List Bool) (σ : Sg) (ρ : Env) {fp : List Addr}, Fp K Z H (envL σ ρ) fp → (∀ b ∈ fp, ∀ o, H b = some o → Z' b = some o) → Fp K Z' H (envL σ (viewE m ρ)) []
  | m, [], ρ, fp, h, k => by
    show Fp K Z' H (envL [] (viewE m ρ)) []
    cases viewE m ρ <;> rfl
  | [], x :: _, [], fp, h, k => by cases x <;> rfl
  | true :: m, x :: _, [], fp, h, k => by cases x <;> rfl
  | false :: m, x :: _, [], fp, h, k => by cases x <;> rfl
  | [], x :: σ, y :: ρ, fp, h, k => by
    show Fp K Z' H (envL (x :: σ) (none :: viewE [] ρ)) []
    rw [envL_none]
    cases x with
    | none => exact viewE_fp hz [] σ ρ h k
    | some v =>
      cases y with
      | none => rw [envL_none] at h; exact viewE_fp hz [] σ ρ h k
      | some d =>
        obtain ⟨f1, f2, rfl, r, r2⟩ := h
        exact viewE_fp hz [] σ ρ r2 fun b hb => k b (List.mem_append_right _ hb)
  | false :: m, x :: σ, y :: ρ, fp, h, k => by
    show Fp K Z' H (envL (x :: σ) (none :: viewE m ρ)) []
    rw [envL_none]
    cases x with
    | none => exact viewE_fp hz m σ ρ h k
    | some v =>
      cases y with
      | none => rw [envL_none] at h; exact viewE_fp hz m σ ρ h k
      | some d =>
        obtain ⟨f1, f2, rfl, r, r2⟩ := h
        exact viewE_fp hz m σ ρ r2 fun b hb => k b (List.mem_append_right _ hb)
  | true :: m, x :: σ, none :: ρ, fp, h, k => by
    show Fp K Z' H (envL (x :: σ) (none :: viewE m ρ)) []
    rw [envL_none] at h ⊢
    exact viewE_fp hz m σ ρ h k
  | true :: m, none :: σ, some d :: ρ, fp, h, k => viewE_fp hz m σ ρ h k
  | true :: m, some v :: σ, some d :: ρ, fp, h, k => by
    obtain ⟨f1, f2, rfl, r, r2⟩ := h
    exact ⟨[], [], rfl, r.frz hz fun b hb => k b (List.mem_append_left _ hb), viewE_fp hz m σ ρ r2 fun b hb => k b (List.mem_append_right _ hb)⟩
theorem raws_there {l : List Addr} (h : ∀ a ∈ l, ∃ o, H a = some o) {fp : List Addr} (r : Fp K Z H' (raws H l) fp) : (∀ a ∈ l, a ∈ fp) ∧ ∀ a ∈ l, ∀ o, H a = some o → H' a = some o :=
  ⟨fun a ha => let ⟨o, e⟩ := h a ha; (raws_of r a ha o e).1, fun a ha o e => (raws_of r a ha o e).2⟩
theorem tabs_less {Z2 : Hp} {F : List Addr} (hF : ∀ b ∈ F, ∃ u, Z2 b = some u ∧ cellO u) {fp : List Addr} (h : Fp K Z2 H' (tabs K) fp) : Fp K (Tw.less Z2 F) H' (tabs K) fp := by
  unfold tabs at *
  by_cases h0 : K.G 0 = 0
  · rw [if_pos h0] at *; exact h
  · rw [if_neg h0] at *
    obtain ⟨f1, f2, e, ⟨⟨ps, a, b, c⟩, e1⟩, h2⟩ := h
    exact ⟨f1, f2, e, ⟨⟨ps, a, b, fun pos cv hc => let ⟨x, x1, x2⟩ := c pos cv hc; ⟨x, x1, less_to hF x2 fun z => z⟩⟩, e1⟩, h2⟩
/-- the view, and the way back -/
theorem Sa.lend (m : List Bool) (S : Sa K Z H σ ρ T) : ∃ (Z1 : Hp) (fT : List Addr), Same Z Z1 ∧ Sa K Z1 H σ (viewE m ρ) (raws H fT) ∧
    ∀ Z2 H' ρ' (L : List It), Same Z1 Z2 → Sa K Z2 H' σ ρ' (L ++ raws H fT) → (∀ F : List Addr, (∀ b ∈ F, ∃ u, Z2 b = some u ∧ cellO u) → ∀ fp, Fp K Z2 H' L fp → Fp K (less Z2 F) H' L fp) →
      ∃ Z3, Same Z Z3 ∧ Sa K Z3 H' σ ρ (L ++ T) ∧ (∀ a o, Z2 a = some o → ¬ cellO o → Z3 a = some o) ∧ ∀ d v, Rp K Z2 Z2 d v [] → noFr d = true → Rp K Z3 Z3 d v [] := by
  obtain ⟨ok, zh, fp, h, nd, q⟩ := S
  rw [List.append_assoc] at h
  obtain ⟨fR, fT', rfl, hR, hT'⟩ := Fp.unapp h
  obtain ⟨fT, fB, rfl, hT, hB⟩ := Fp.unapp hT'
  obtain ⟨n1, n2, n3⟩ := List.nodup_append.mp nd
  let Z1 : Hp := fun b => if b ∈ fR then H b else Z b
  have hz : Same Z Z1 := fun b o e => by
    show (if b ∈ fR then H b else Z b) = some o
    rw [if_neg fun hb => by rw [q b (List.mem_append_left _ hb)] at e; cases e]
    exact e
  have hz1 : Same Z1 H := fun b o e => by
    by_cases hb : b ∈ fR
    · simpa [Z1, hb] using e
    · exact zh b o (by simpa [Z1, hb] using e)
  have inR : ∀ b ∈ fR, ∀ o, H b = some o → Z1 b = some o := fun b hb o e => by
    show (if b ∈ fR then H b else Z b) = some o
    rw [if_pos hb]; exact e
  have thT : ∀ a ∈ fT, ∃ o, H a = some o := fun a ha => hT.there a ha
  refine ⟨Z1, fT, hz, ⟨viewE_ok m ok, hz1, [] ++ (fT ++ fB), (by rw [List.append_assoc]; exact Fp.app (viewE_fp hz m σ ρ hR inR) (Fp.app (raws_fp thT) (hB.keep hz fun _ _ _ e => e))), n2, fun a ha => ?_⟩, fun Z2 H' ρ' L z12 S2 kL => ?_⟩
  · show (if a ∈ fR then H a else Z a) = Option.none
    rw [if_neg fun hb => n3 a hb a ha rfl]
    exact q a (List.mem_append_right _ ha)
  obtain ⟨ok2, zh2, fp2, h2, nd2, q2⟩ := S2
  rw [List.append_assoc, List.append_assoc] at h2
  obtain ⟨gR, g1, rfl, hE2, h3⟩ := Fp.unapp h2
  obtain ⟨gL, gT', rfl, hL, hr'⟩ := Fp.unapp h3
  obtain ⟨gT, gB, rfl, hr, hB2⟩ := Fp.unapp hr'
  obtain ⟨m1, m2, m3⟩ := List.nodup_append.mp nd2
  obtain ⟨o1, o2, o3⟩ := List.nodup_append.mp m2
  obtain ⟨p1, p2, p3⟩ := List.nodup_append.mp o2
  obtain ⟨fT1, _, _⟩ := List.nodup_append.mp n2
  obtain ⟨sub, samT⟩ := raws_there thT hr
  have samR : ∀ b ∈ fR, ∀ o, H b = some o → H' b = some o := fun b hb o e => zh2 b o (z12 b o (inR b hb o e))
  have cR : ∀ b ∈ fR, ∃ u, Z2 b = some u ∧ cellO u := fun b hb => by
    have : ∀ (σ : Sg) (ρ : Env) {fp : List Addr}, Fp K Z H (envL σ ρ) fp → ∀ b ∈ fp, ∃ o, H b = some o ∧ cellO o := by
      intro σ
      induction σ with
      | nil => intro ρ fp h; rw [show fp = [] by cases ρ <;> exact h]; intro b hb; cases hb
      | cons x σ ih =>
        intro ρ fp h
        cases ρ with
        | nil => rw [show fp = [] by cases x <;> exact h]; intro b hb; cases hb
        | cons y ρ =>
          cases y with
          | none => rw [envL_none] at h; exact ih ρ h
          | some d =>
            cases x with
            | none => exact ih ρ h
            | some v =>
              obtain ⟨f1, f2, rfl, r, r2⟩ := h
              intro b hb
              rcases List.mem_append.mp hb with hb | hb
              · exact r.cells b hb
              · exact ih ρ r2 b hb
    obtain ⟨o, e, c⟩ := this σ ρ hR b hb
    exact ⟨o, z12 b o (inR b hb o e), c⟩
  have hz3 : Same Z (less Z2 fR) := fun b o e => by
    unfold less
    rw [if_neg fun hb => by rw [q b (List.mem_append_left _ hb)] at e; cases e]
    exact z12 b o (hz b o e)
  refine ⟨less Z2 fR, hz3, ⟨ok, fun b o e => zh2 b o (less_of e).2, fR ++ (gL ++ (fT ++ gB)), (by rw [List.append_assoc, List.append_assoc]; exact Fp.app (hR.keep hz3 samR) (Fp.app (kL fR cR gL hL) (Fp.app (hT.keep hz3 samT) (tabs_less cR hB2)))), ?_, fun a ha => ?_⟩, fun a o e n => less_to cR e n, fun d v r hn => (r.less cR hn).keep (Same.refl _) fun b hb => by cases hb⟩
  · refine List.nodup_append.mpr ⟨n1, List.nodup_append.mpr ⟨o1, List.nodup_append.mpr ⟨fT1, p2, fun a ha b hb => p3 a (sub a ha) b hb⟩, fun a ha b hb => ?_⟩, fun a ha b hb => ?_⟩
    · rcases List.mem_append.mp hb with hb | hb
      · exact o3 a ha b (List.mem_append_left _ (sub b hb))
      · exact o3 a ha b (List.mem_append_right _ hb)
    · have out : q2 = q2 → ∀ b ∈ gL ++ (gT ++ gB), a ≠ b := fun _ b hb e => by
        subst e
        obtain ⟨u, e1, _⟩ := cR a ha
        rw [q2 a (List.mem_append_right _ hb)] at e1
        cases e1
      rcases List.mem_append.mp hb with hb | hb
      · exact out rfl b (List.mem_append_left _ hb)
      · rcases List.mem_append.mp hb with hb | hb
        · exact n3 a ha b (List.mem_append_left _ hb)
        · exact out rfl b (List.mem_append_right _ (List.mem_append_right _ hb))
  · unfold less
    by_cases hb : a ∈ fR
    · rw [if_pos hb]
    · rw [if_neg hb]
      rcases List.mem_append.mp ha with ha | ha
      · exact (hb ha).elim
      · rcases List.mem_append.mp ha with ha | ha
        · exact q2 a (List.mem_append_right _ (List.mem_append_left _ ha))
        · rcases List.mem_append.mp ha with ha | ha
          · exact q2 a (List.mem_append_right _ (List.mem_append_right _ (List.mem_append_left _ (sub a ha))))
          · exact q2 a (List.mem_append_right _ (List.mem_append_right _ (List.mem_append_right _ ha)))
end
section
variable {X : Cx} {G : Nat → Addr} {W : WX} {e : Expr}
theorem ev_peek {f : Env → R Env (D × Env)} (m : List Bool) (h : Ev X G W true e f) : Ev X G W true e (dPeek m f) := by
  refine ⟨fun _ ρ d ρ' q => ?_, fun σ H Z ρ T Q S P => ?_⟩
  · unfold dPeek at q
    split at q
    · split at q
      · cases q; rfl
      · cases q
    · split at q <;> cases q
    · cases q
  · obtain ⟨Z1, fT, z1, S1, back⟩ := S.lend m
    refine h.run σ H Z1 (viewE m ρ) (raws H fT) Q S1 ?_
    unfold dPeek at P
    cases e1 : f (viewE m ρ) with
    | stuck => rw [e1] at P; exact P.elim
    | ok p =>
      obtain ⟨r, ρ'⟩ := p
      rw [e1] at P
      simp only at P
      split at P
      · rename_i hn
        intro v H' Z' z hs S2
        obtain ⟨Z3, z3, S3, _⟩ := back Z' H' ρ' [.tr r v] z S2 fun F hF fp h => by
          obtain ⟨f1, f2, rfl, r, r2⟩ := h
          exact ⟨f1, f2, rfl, r.less hF hn, r2⟩
        exact P v H' Z3 z3 hs S3
      · exact P.elim
    | exc c fs ρ' =>
      rw [e1] at P
      simp only at P
      split at P
      · rename_i hn
        intro dx H' Z' z S2 x
        obtain ⟨Z3, z3, S3, up, up2⟩ := back Z' H' ρ' [] z S2 fun F hF fp h => h
        refine P dx H' Z3 z3 S3 ?_
        match fs, x, hn with
        | [], _, _ => trivial
        | [.str f, d], ⟨a, v, e2, e3, r⟩, hn =>
          have hn : (true && (noFr d && true)) = true := hn
          rw [Bool.and_true, Bool.true_and] at hn
          exact ⟨a, v, e2, up a _ e3 fun x => x, up2 d v r hn⟩
      · exact P.elim
theorem wp_dPeek {Q : D × Env → Prop} {E : XQ Env} (t : Tag Q) (u : Tag E) (m : List Bool) (f : Env → R Env (D × Env)) (ρ : Env) :
    Wp (dPeek m f ρ) Q E t u = Wp (f (viewE m ρ)) (fun p => Gd (noFr p.1 = true) (Q (p.1, ρ)) .mk) (fun c fs _ => Gd (noFrs fs = true) (E c fs ρ) .mk) .mk .mk := by
  unfold dPeek
  cases f (viewE m ρ) with
  | stuck => rfl
  | ok p =>
    obtain ⟨r, ρ'⟩ := p
    show Wp (if noFr r = true then .ok (r, ρ) else .stuck) Q E t u = Gd _ _ .mk
    by_cases h : noFr r = true
    · rw [if_pos h, gd_of h]; rfl
    · rw [if_neg h]; exact propext ⟨fun z => z.elim, fun z => h z.1⟩
  | exc c fs ρ' =>
    show Wp (if noFrs fs = true then R.exc c fs ρ else .stuck) Q E t u = Gd _ _ .mk
    by_cases h : noFrs fs = true
    · rw [if_pos h, gd_of h]; rfl
    · rw [if_neg h]; exact propext ⟨fun z => z.elim, fun z => h z.1⟩
theorem viewE_t (m : List Bool) (d : D) (ρ : Env) : viewE (true :: m) (some d :: ρ) = some (frz d) :: viewE m ρ := rfl
theorem viewE_n (m : List Bool) (ρ : Env) : viewE (true :: m) (none :: ρ) = none :: viewE m ρ := rfl
theorem viewE_f (m : List Bool) (x : Option D) (ρ : Env) : viewE (false :: m) (x :: ρ) = none :: viewE m ρ := rfl
theorem viewE_0 (x : Option D) (ρ : Env) : viewE [] (x :: ρ) = none :: viewE [] ρ := rfl
theorem viewE_00 (m : List Bool) : viewE m [] = [] := by
  cases m with
  | nil => rfl
  | cons b m => cases b <;> rfl
end
end Tw

set_option maxRecDepth 100000
namespace Tw
open PySem PySem.Spec PyProof.Rows L2
/-! ### a statement run while some variables are lent as frozen -/
def keepE : List Bool → Env → Env
  | true :: m, x :: ρ => x :: keepE m ρ
  | false :: m, _ :: ρ => none :: keepE m ρ
  | [], _ :: ρ => none :: keepE [] ρ
  | _, [] => []
def dropE : List Bool → Env → Env
  | true :: m, _ :: ρ => none :: dropE m ρ
  | false :: m, x :: ρ => x :: dropE m ρ
  | [], x :: ρ => x :: dropE [] ρ
  | _, [] => []
/-- b's where the mask says so, else a's -/
def mixE : List Bool → Env → Env → Env
  | true :: m, _ :: a, y :: b => y :: mixE m a b
  | false :: m, x :: a, _ :: b => x :: mixE m a b
  | [], x :: a, _ :: b => x :: mixE [] a b
  | _, _, _ => []
def cleanO : Option D → Option D
  | some d => if noFr d = true then some d else none
  | none => none
def cleanE (ρ : Env) : Env := ρ.map cleanO
def sLend (lv ln : List Bool) (g : Env → R Env Out) : Env → R Env Out := fun ρ => match g (mixE lv (viewE ln ρ) ρ) with
  | .ok (.nx ρ') => .ok (.nx (mixE lv ρ (cleanE ρ')))
  | .ok (.bk ρ') => .ok (.bk (mixE lv ρ (cleanE ρ')))
  | .ok (.ct ρ') => .ok (.ct (mixE lv ρ (cleanE ρ')))
  | .ok (.rt d ρ') => if noFr d = true then .ok (.rt d (mixE lv ρ (cleanE ρ'))) else .stuck
  | .exc c fs ρ' => if noFrs fs = true then .exc c fs (mixE lv ρ (cleanE ρ')) else .stuck
  | .stuck => .stuck
section
variable {K : Ct} {Z Z' H H' : Hp} {T : List It} {σ : Sg} {ρ : Env}
theorem mixE_self : ∀ (m : List Bool) (ρ : Env), mixE m ρ ρ = ρ
  | [], [] => rfl
  | true :: m, [] => rfl
  | false :: m, [] => rfl
  | [], x :: ρ => by show x :: mixE [] ρ ρ = _; rw [mixE_self [] ρ]
  | true :: m, x :: ρ => by show x :: mixE m ρ ρ = _; rw [mixE_self m ρ]
  | false :: m, x :: ρ => by show x :: mixE m ρ ρ = _; rw [mixE_self m ρ]
theorem mixE_len : ∀ (m : List Bool) (a b : Env), a.length = b.length → (mixE m a b).length = a.length
  | [], [], [], _ => rfl
  | true :: m, [], [], _ => rfl
  | false :: m, [], [], _ => rfl
  | [], x :: a, y :: b, h => by show (mixE [] a b).length + 1 = _; rw [mixE_len [] a b (by simpa using h)]; rfl
  | true :: m, x :: a, y :: b, h => by show (mixE m a b).length + 1 = _; rw [mixE_len m a b (by simpa using h)]; rfl
  | false :: m, x :: a, y :: b, h => by show (mixE m a b).length + 1 = _; rw [mixE_len m a b (by simpa using h)]; rfl
  | _, [], _ :: _, h => by cases h
  | _, _ :: _, [], h => by cases h
theorem mixE_get : ∀ (m : List Bool) (a b : Env) (i : Nat) (d : D), (mixE m a b)[i]? = some (some d) → (a[i]? = some (some d) ∧ m[i]? ≠ some true) ∨ (b[i]? = some (some d) ∧ m[i]? = some true)
  | [], [], _, i, d, h => by cases h
  | true :: m, [], _, i, d, h => by cases h
  | false :: m, [], _, i, d, h => by cases h
  | [], _ :: _, [], i, d, h => by cases h
  | true :: m, _ :: _, [], i, d, h => by cases h
  | false :: m, _ :: _, [], i, d, h => by cases h
  | [], x :: a, y :: b, 0, d, h => .inl ⟨h, by simp⟩
  | true :: m, x :: a, y :: b, 0, d, h => .inr ⟨h, rfl⟩
  | false :: m, x :: a, y :: b, 0, d, h => .inl ⟨h, by simp⟩
  | [], x :: a, y :: b, i + 1, d, h => by
    rcases mixE_get [] a b i d h with ⟨h1, h2⟩ | ⟨h1, h2⟩
    · exact .inl ⟨h1, by simp⟩
    · cases h2
  | true :: m, x :: a, y :: b, i + 1, d, h => mixE_get m a b i d h
  | false :: m, x :: a, y :: b, i + 1, d, h => mixE_get m a b i d h
theorem cleanO_some {x : Option D} {d : D} (h : cleanO x = some d) : x = some d ∧ noFr d = true := by
  cases x with
  | none => cases h
  | some y =>
    have h : (if noFr y = true then some y else none) = some d := h
    by_cases k : noFr y = true
    · rw [if_pos k] at h; cases h; exact ⟨rfl, k⟩
    · rw [if_neg k] at h; cases h
theorem mix_perm : ∀ (m : List Bool) (σ : Sg) (a b : Env), a.length = σ.length → b.length = σ.length → (envL σ (mixE m a b)).Perm (envL σ (dropE m a) ++ envL σ (keepE m b))
  | m, [], a, b, _, _ => by
    have e : ∀ ρ, envL [] ρ = [] := fun ρ => by cases ρ <;> rfl
    rw [e, e, e]; exact .refl _
  | _, _ :: _, [], _, h, _ => by cases h
  | _, _ :: _, _ :: _, [], _, h => by cases h
  | true :: m, s :: σ, x :: a, y :: b, h, h' => by
    have ih := mix_perm m σ a b (by simpa using h) (by simpa using h')
    show (envL (s :: σ) (y :: mixE m a b)).Perm (envL (s :: σ) (none :: dropE m a) ++ envL (s :: σ) (y :: keepE m b))
    rw [envL_none]
    cases s with
    | none => exact ih
    | some v =>
      cases y with
      | none => rw [envL_none, envL_none]; exact ih
      | some d =>
        show (It.tr d v :: envL σ (mixE m a b)).Perm (envL σ (dropE m a) ++ It.tr d v :: envL σ (keepE m b))
        exact (ih.cons _).trans List.perm_middle.symm
  | false :: m, s :: σ, x :: a, y :: b, h, h' => by
    have ih := mix_perm m σ a b (by simpa using h) (by simpa using h')
    show (envL (s :: σ) (x :: mixE m a b)).Perm (envL (s :: σ) (x :: dropE m a) ++ envL (s :: σ) (none :: keepE m b))
    rw [envL_none]
    cases s with
    | none => exact ih
    | some v =>
      cases x with
      | none => rw [envL_none, envL_none]; exact ih
      | some d => exact ih.cons _
  | [], s :: σ, x :: a, y :: b, h, h' => by
    have ih := mix_perm [] σ a b (by simpa using h) (by simpa using h')
    show (envL (s :: σ) (x :: mixE [] a b)).Perm (envL (s :: σ) (x :: dropE [] a) ++ envL (s :: σ) (none :: keepE [] b))
    rw [envL_none]
    cases s with
    | none => exact ih
    | some v =>
      cases x with
      | none => rw [envL_none, envL_none]; exact ih
      | some d => exact ih.cons _
theorem drop_view : ∀ (m n : List Bool) (ρ : Env), dropE m (viewE n ρ) = viewE n (dropE m ρ)
  | m, n, [] => by
    rw [viewE_00]
    have : dropE m [] = [] := by cases m with | nil => rfl | cons b m => cases b <;> rfl
    rw [this, viewE_00]
  | [], [], x :: ρ => by show none :: dropE [] (viewE [] ρ) = none :: viewE [] (dropE [] ρ); rw [drop_view]
  | [], true :: n, none :: ρ => by show none :: dropE [] (viewE n ρ) = none :: viewE n (dropE [] ρ); rw [drop_view]
  | [], true :: n, some d :: ρ => by show some (frz d) :: dropE [] (viewE n ρ) = some (frz d) :: viewE n (dropE [] ρ); rw [drop_view]
  | [], false :: n, x :: ρ => by show none :: dropE [] (viewE n ρ) = none :: viewE n (dropE [] ρ); rw [drop_view]
  | true :: m, [], x :: ρ => by show none :: dropE m (viewE [] ρ) = none :: viewE [] (dropE m ρ); rw [drop_view]
  | true :: m, true :: n, none :: ρ => by show none :: dropE m (viewE n ρ) = none :: viewE n (dropE m ρ); rw [drop_view]
  | true :: m, true :: n, some d :: ρ => by show none :: dropE m (viewE n ρ) = none :: viewE n (dropE m ρ); rw [drop_view]
  | true :: m, false :: n, x :: ρ => by show none :: dropE m (viewE n ρ) = none :: viewE n (dropE m ρ); rw [drop_view]
  | false :: m, [], x :: ρ => by show none :: dropE m (viewE [] ρ) = none :: viewE [] (dropE m ρ); rw [drop_view]
  | false :: m, true :: n, none :: ρ => by show none :: dropE m (viewE n ρ) = none :: viewE n (dropE m ρ); rw [drop_view]
  | false :: m, true :: n, some d :: ρ => by show some (frz d) :: dropE m (viewE n ρ) = some (frz d) :: viewE n (dropE m ρ); rw [drop_view]
  | false :: m, false :: n, x :: ρ => by show none :: dropE m (viewE n ρ) = none :: viewE n (dropE m ρ); rw [drop_view]
theorem drop_len : ∀ (m : List Bool) (ρ : Env), (dropE m ρ).length = ρ.length
  | [], [] => rfl
  | true :: m, [] => rfl
  | false :: m, [] => rfl
  | [], x :: ρ => congrArg (· + 1) (drop_len [] ρ)
  | true :: m, x :: ρ => congrArg (· + 1) (drop_len m ρ)
  | false :: m, x :: ρ => congrArg (· + 1) (drop_len m ρ)
theorem drop_get : ∀ (m : List Bool) (ρ : Env) (i : Nat) (d : D), (dropE m ρ)[i]? = some (some d) → ρ[i]? = some (some d) ∧ m[i]? ≠ some true
  | [], [], i, d, h => by cases h
  | true :: m, [], i, d, h => by cases h
  | false :: m, [], i, d, h => by cases h
  | [], x :: ρ, 0, d, h => ⟨h, by simp⟩
  | true :: m, x :: ρ, 0, d, h => by cases h
  | false :: m, x :: ρ, 0, d, h => ⟨h, by simp⟩
  | [], x :: ρ, i + 1, d, h => ⟨(drop_get [] ρ i d h).1, by simp⟩
  | true :: m, x :: ρ, i + 1, d, h => drop_get m ρ i d h
  | false :: m, x :: ρ, i + 1, d, h => drop_get m ρ i d h
theorem envL_agree : ∀ (σ σ' : Sg) (ρ : Env), σ'.length = σ.length → (∀ (i : Nat) (d : D), ρ[i]? = some (some d) → σ'[i]? = σ[i]?) → envL σ' ρ = envL σ ρ
  | [], [], ρ, _, _ => rfl
  | [], _ :: _, _, h, _ => by cases h
  | _ :: _, [], _, h, _ => by cases h
  | s :: σ, s' :: σ', [], _, _ => by cases s <;> cases s' <;> rfl
  | s :: σ, s' :: σ', none :: ρ, h, k => by
    rw [envL_none, envL_none]
    exact envL_agree σ σ' ρ (by simpa using h) fun i d e => k (i + 1) d e
  | s :: σ, s' :: σ', some d :: ρ, h, k => by
    have e := k 0 d rfl
    have e : s' = s := by simpa using e
    subst e
    have ih := envL_agree σ σ' ρ (by simpa using h) fun i d e => k (i + 1) d e
    cases s' with
    | none => exact ih
    | some v => show It.tr d v :: _ = It.tr d v :: _; rw [ih]
/-- what is clean of the live ones -/
theorem clean_fp {F : List Addr} (hF : ∀ b ∈ F, ∃ u, Z b = some u ∧ cellO u) : ∀ (m : List Bool) (σ : Sg) (ρ : Env) {fp : List Addr}, Fp K Z H (envL σ ρ) fp → ∃ fp', fp'.Sublist fp ∧ Fp K (less Z F) H (envL σ (keepE m (cleanE ρ))) fp'
  | m, [], ρ, fp, h => ⟨[], List.nil_sublist _, by cases (keepE m (cleanE ρ)) <;> rfl⟩
  | m, s :: σ, [], fp, h => ⟨[], List.nil_sublist _, by
      have : keepE m (cleanE []) = [] := by cases m with | nil => rfl | cons b m => cases b <;> rfl
      rw [this]; cases s <;> rfl⟩
  | [], s :: σ, y :: ρ, fp, h => by
    have : ∃ g, g.Sublist fp ∧ Fp K Z H (envL σ ρ) g := by
      cases s with
      | none => exact ⟨fp, .refl _, h⟩
      | some v =>
        cases y with
        | none => rw [envL_none] at h; exact ⟨fp, .refl _, h⟩
        | some d => obtain ⟨f1, f2, rfl, r, r2⟩ := h; exact ⟨f2, List.sublist_append_right _ _, r2⟩
    obtain ⟨g, sg, hg⟩ := this
    obtain ⟨g', s', h'⟩ := clean_fp hF [] σ ρ hg
    refine ⟨g', s'.trans sg, ?_⟩
    show Fp K _ H (envL (s :: σ) (none :: keepE [] (cleanE ρ))) g'
    rw [envL_none]; exact h'
  | false :: m, s :: σ, y :: ρ, fp, h => by
    have : ∃ g, g.Sublist fp ∧ Fp K Z H (envL σ ρ) g := by
      cases s with
      | none => exact ⟨fp, .refl _, h⟩
      | some v =>
        cases y with
        | none => rw [envL_none] at h; exact ⟨fp, .refl _, h⟩
        | some d => obtain ⟨f1, f2, rfl, r, r2⟩ := h; exact ⟨f2, List.sublist_append_right _ _, r2⟩
    obtain ⟨g, sg, hg⟩ := this
    obtain ⟨g', s', h'⟩ := clean_fp hF m σ ρ hg
    refine ⟨g', s'.trans sg, ?_⟩
    show Fp K _ H (envL (s :: σ) (none :: keepE m (cleanE ρ))) g'
    rw [envL_none]; exact h'
  | true :: m, none :: σ, y :: ρ, fp, h => by
    obtain ⟨g', s', h'⟩ := clean_fp hF m σ ρ (fp := fp) h
    exact ⟨g', s', h'⟩
  | true :: m, some v :: σ, none :: ρ, fp, h => by
    rw [envL_none] at h
    obtain ⟨g', s', h'⟩ := clean_fp hF m σ ρ h
    refine ⟨g', s', ?_⟩
    show Fp K _ H (envL (some v :: σ) (none :: keepE m (cleanE ρ))) g'
    rw [envL_none]; exact h'
  | true :: m, some v :: σ, some d :: ρ, fp, h => by
    obtain ⟨f1, f2, rfl, r, r2⟩ := h
    obtain ⟨g', s', h'⟩ := clean_fp hF m σ ρ r2
    by_cases k : noFr d = true
    · refine ⟨f1 ++ g', s'.append_left _, ?_⟩
      show Fp K _ H (envL (some v :: σ) ((if noFr d = true then some d else none) :: keepE m (cleanE ρ))) _
      rw [if_pos k]
      exact ⟨f1, g', rfl, r.less hF k, h'⟩
    · refine ⟨g', s'.trans (List.sublist_append_right _ _), ?_⟩
      show Fp K _ H (envL (some v :: σ) ((if noFr d = true then some d else none) :: keepE m (cleanE ρ))) _
      rw [if_neg k, envL_none]; exact h'
theorem envL_cells : ∀ (σ : Sg) (ρ : Env) {fp : List Addr}, Fp K Z H (envL σ ρ) fp → ∀ b ∈ fp, ∃ o, H b = some o ∧ cellO o := by
  intro σ
  induction σ with
  | nil => intro ρ fp h; rw [show fp = [] by cases ρ <;> exact h]; intro b hb; cases hb
  | cons x σ ih =>
    intro ρ fp h
    cases ρ with
    | nil => rw [show fp = [] by cases x <;> exact h]; intro b hb; cases hb
    | cons y ρ =>
      cases y with
      | none => rw [envL_none] at h; exact ih ρ h
      | some d =>
        cases x with
        | none => exact ih ρ h
        | some v =>
          obtain ⟨f1, f2, rfl, r, r2⟩ := h
          intro b hb
          rcases List.mem_append.mp hb with hb | hb
          · exact r.cells b hb
          · exact ih ρ r2 b hb
theorem Sa.lendS (lv ln : List Bool) (S : Sa K Z H σ ρ T) : ∃ (Z1 : Hp) (fT : List Addr), Same Z Z1 ∧ Sa K Z1 H σ (mixE lv (viewE ln ρ) ρ) (raws H fT) ∧
    ∀ Z2 H' σ' ρ' (L : List It), Same Z1 Z2 → σ'.length = σ.length → (∀ i, i < σ.length → lv[i]? ≠ some true → σ'[i]? = σ[i]?) → Sa K Z2 H' σ' ρ' (L ++ raws H fT) → (∀ F : List Addr, (∀ b ∈ F, ∃ u, Z2 b = some u ∧ cellO u) → ∀ fp, Fp K Z2 H' L fp → Fp K (less Z2 F) H' L fp) →
      ∃ Z3, Same Z Z3 ∧ Sa K Z3 H' σ' (mixE lv ρ (cleanE ρ')) (L ++ T) ∧ (∀ a o, Z2 a = some o → ¬ cellO o → Z3 a = some o) ∧ ∀ d v, Rp K Z2 Z2 d v [] → noFr d = true → Rp K Z3 Z3 d v [] := by
  obtain ⟨ok, zh, fp, h, nd, q⟩ := S
  rw [List.append_assoc] at h
  obtain ⟨fE, fT', rfl, hE, hT'⟩ := Fp.unapp h
  obtain ⟨fT, fK, rfl, hT, hK⟩ := Fp.unapp hT'
  obtain ⟨n1, n2, n3⟩ := List.nodup_append.mp nd
  have pm := mix_perm lv σ ρ ρ ok.len ok.len
  rw [mixE_self] at pm
  obtain ⟨fE', pE, hE'⟩ := hE.perm pm
  obtain ⟨fR, fV, rfl, hR, hV⟩ := Fp.unapp hE'
  have nE := pE.nodup_iff.mp n1
  obtain ⟨e1, e2, e3⟩ := List.nodup_append.mp nE
  have inE : ∀ a ∈ fR ++ fV, a ∈ fE := fun a ha => pE.mem_iff.mpr ha
  have qR : ∀ a ∈ fR, Z a = Option.none := fun a ha => q a (List.mem_append_left _ (inE a (List.mem_append_left _ ha)))
  have qV : ∀ a ∈ fV, Z a = Option.none := fun a ha => q a (List.mem_append_left _ (inE a (List.mem_append_right _ ha)))
  have dRT : ∀ a ∈ fR, ∀ b ∈ fT ++ fK, a ≠ b := fun a ha b hb => n3 a (inE a (List.mem_append_left _ ha)) b hb
  have dVT : ∀ a ∈ fV, ∀ b ∈ fT ++ fK, a ≠ b := fun a ha b hb => n3 a (inE a (List.mem_append_right _ ha)) b hb
  let Z1 : Hp := fun b => if b ∈ fR then H b else Z b
  have hz : Same Z Z1 := fun b o e => by
    show (if b ∈ fR then H b else Z b) = some o
    rw [if_neg fun hb => by rw [qR b hb] at e; cases e]
    exact e
  have hz1 : Same Z1 H := fun b o e => by
    by_cases hb : b ∈ fR
    · simpa [Z1, hb] using e
    · exact zh b o (by simpa [Z1, hb] using e)
  have inR : ∀ b ∈ fR, ∀ o, H b = some o → Z1 b = some o := fun b hb o e => by
    show (if b ∈ fR then H b else Z b) = some o
    rw [if_pos hb]; exact e
  have thT : ∀ a ∈ fT, ∃ o, H a = some o := fun a ha => hT.there a ha
  have vl := viewE_len ln ρ
  have pv := mix_perm lv σ (viewE ln ρ) ρ (vl.trans ok.len) ok.len
  have hview : Fp K Z1 H (envL σ (dropE lv (viewE ln ρ)) ++ envL σ (keepE lv ρ)) ([] ++ fV) := by
    rw [drop_view]
    exact Fp.app (viewE_fp hz ln σ _ hR inR) (hV.keep hz fun _ _ _ e => e)
  obtain ⟨fW, pW, hW⟩ := hview.perm pv.symm
  have pW : fV.Perm fW := pW
  refine ⟨Z1, fT, hz, ⟨⟨(mixE_len lv _ _ vl).trans (vl.trans ok.len), fun i d e => ?_⟩, hz1, fW ++ (fT ++ fK), (by rw [List.append_assoc]; exact Fp.app hW (Fp.app (raws_fp thT) (hK.keep hz fun _ _ _ e => e))), ?_, fun a ha => ?_⟩, fun Z2 H' σ' ρ' L z12 sl sg S2 kL => ?_⟩
  · rcases mixE_get lv _ _ i d e with ⟨e, _⟩ | ⟨e, _⟩
    · obtain ⟨d0, e0⟩ := viewE_get ln ρ i d e; exact ok.get i d0 e0
    · exact ok.get i d e
  · exact List.nodup_append.mpr ⟨pW.nodup_iff.mp e2, n2, fun a ha b hb => dVT a (pW.mem_iff.mpr ha) b hb⟩
  · show (if a ∈ fR then H a else Z a) = Option.none
    rcases List.mem_append.mp ha with ha | ha
    · have ha := pW.mem_iff.mpr ha
      rw [if_neg fun hb => e3 a hb a ha rfl]
      exact qV a ha
    · rw [if_neg fun hb => dRT a hb a ha rfl]
      exact q a (List.mem_append_right _ ha)
  obtain ⟨ok2, zh2, fp2, h2, nd2, q2⟩ := S2
  rw [List.append_assoc, List.append_assoc] at h2
  obtain ⟨gE, g1, rfl, hE2, h3⟩ := Fp.unapp h2
  obtain ⟨gL, gT', rfl, hL, hr'⟩ := Fp.unapp h3
  obtain ⟨gT, gK, rfl, hr, hK2⟩ := Fp.unapp hr'
  obtain ⟨m1, m2, m3⟩ := List.nodup_append.mp nd2
  obtain ⟨o1, o2, o3⟩ := List.nodup_append.mp m2
  obtain ⟨p1, p2, p3⟩ := List.nodup_append.mp o2
  obtain ⟨fT1, _, _⟩ := List.nodup_append.mp n2
  obtain ⟨sub, samT⟩ := raws_there thT hr
  have samR : ∀ b ∈ fR, ∀ o, H b = some o → H' b = some o := fun b hb o e => zh2 b o (z12 b o (inR b hb o e))
  have cR : ∀ b ∈ fR, ∃ u, Z2 b = some u ∧ cellO u := fun b hb => by
    obtain ⟨o, e, c⟩ := envL_cells σ _ hR b hb
    exact ⟨o, z12 b o (inR b hb o e), c⟩
  have hz3 : Same Z (less Z2 fR) := fun b o e => by
    unfold less
    rw [if_neg fun hb => by rw [qR b hb] at e; cases e]
    exact z12 b o (hz b o e)
  obtain ⟨gC, sC, hC⟩ := clean_fp cR lv σ' ρ' hE2
  have agree : envL σ' (dropE lv ρ) = envL σ (dropE lv ρ) := envL_agree σ σ' _ sl fun i d e => by
    obtain ⟨e, n⟩ := drop_get lv ρ i d e
    have : i < ρ.length := (List.getElem?_eq_some_iff.mp e).1
    exact sg i (by rw [← ok.len]; exact this) n
  have cl : (cleanE ρ').length = σ'.length := by unfold cleanE; rw [List.length_map]; exact ok2.len
  have pb := mix_perm lv σ' ρ (cleanE ρ') (by rw [sl]; exact ok.len) cl
  have hback : Fp K (less Z2 fR) H' (envL σ' (dropE lv ρ) ++ envL σ' (keepE lv (cleanE ρ'))) (fR ++ gC) := by
    rw [agree]
    exact Fp.app (hR.keep hz3 samR) hC
  obtain ⟨fB, pB, hB⟩ := hback.perm pb.symm
  have gCE : ∀ a ∈ gC, a ∈ gE := fun a ha => sC.subset ha
  have nR : ∀ a ∈ gE ++ (gL ++ (gT ++ gK)), a ∉ fR := fun a ha hb => by
    obtain ⟨u, e1, _⟩ := cR a hb
    rw [q2 a ha] at e1; cases e1
  have nB : (fR ++ gC).Nodup := List.nodup_append.mpr ⟨e1, m1.sublist sC, fun a ha b hb e => nR b (List.mem_append_left _ (gCE b hb)) (e ▸ ha)⟩
  refine ⟨less Z2 fR, hz3, ⟨⟨by rw [mixE_len lv _ _ (by rw [cl, sl]; exact ok.len), sl]; exact ok.len, fun i d e => ?_⟩, fun b o e => zh2 b o (less_of e).2, fB ++ (gL ++ (fT ++ gK)), (by rw [List.append_assoc, List.append_assoc]; exact Fp.app hB (Fp.app (kL fR cR gL hL) (Fp.app (hT.keep hz3 samT) (tabs_less cR hK2)))), ?_, fun a ha => ?_⟩, fun a o e n => less_to cR e n, fun d v r hn => (r.less cR hn).keep (Same.refl _) fun b hb => by cases hb⟩
  · rcases mixE_get lv _ _ i d e with ⟨e, n⟩ | ⟨e, _⟩
    · obtain ⟨v, hv⟩ := ok.get i d e
      have : i < ρ.length := (List.getElem?_eq_some_iff.mp e).1
      exact ⟨v, by rw [sg i (by rw [← ok.len]; exact this) n]; exact hv⟩
    · unfold cleanE at e
      rw [List.getElem?_map] at e
      cases e4 : ρ'[i]? with
      | none => rw [e4] at e; cases e
      | some x =>
        rw [e4] at e
        obtain ⟨rfl, _⟩ := cleanO_some (Option.some.inj e)
        exact ok2.get i d e4
  · refine List.nodup_append.mpr ⟨pB.nodup_iff.mp nB, List.nodup_append.mpr ⟨o1, List.nodup_append.mpr ⟨fT1, p2, fun a ha b hb => p3 a (sub a ha) b hb⟩, fun a ha b hb => ?_⟩, fun a ha b hb e => ?_⟩
    · rcases List.mem_append.mp hb with hb | hb
      · exact o3 a ha b (List.mem_append_left _ (sub b hb))
      · exact o3 a ha b (List.mem_append_right _ hb)
    subst e
    rcases List.mem_append.mp (pB.mem_iff.mpr ha) with ha | ha
    · rcases List.mem_append.mp hb with hb | hb
      · exact nR a (List.mem_append_right _ (List.mem_append_left _ hb)) ha
      · rcases List.mem_append.mp hb with hb | hb
        · exact dRT a ha a (List.mem_append_left _ hb) rfl
        · exact nR a (List.mem_append_right _ (List.mem_append_right _ (List.mem_append_right _ hb))) ha
    · rcases List.mem_append.mp hb with hb | hb
      · exact m3 a (gCE a ha) a (List.mem_append_left _ hb) rfl
      · rcases List.mem_append.mp hb with hb | hb
        · exact m3 a (gCE a ha) a (List.mem_append_right _ (List.mem_append_left _ (sub a hb))) rfl
        · exact m3 a (gCE a ha) a (List.mem_append_right _ (List.mem_append_right _ hb)) rfl
  · unfold less
    by_cases hb : a ∈ fR
    · rw [if_pos hb]
    · rw [if_neg hb]
      rcases List.mem_append.mp ha with ha | ha
      · rcases List.mem_append.mp (pB.mem_iff.mpr ha) with ha | ha
        · exact (hb ha).elim
        · exact q2 a (List.mem_append_left _ (gCE a ha))
      · rcases List.mem_append.mp ha with ha | ha
        · exact q2 a (List.mem_append_right _ (List.mem_append_left _ ha))
        · rcases List.mem_append.mp ha with ha | ha
          · exact q2 a (List.mem_append_right _ (List.mem_append_right _ (List.mem_append_left _ (sub a ha))))
          · exact q2 a (List.mem_append_right _ (List.mem_append_right _ (List.mem_append_right _ ha)))
end
section
variable {X : Cx} {G : Nat → Addr} {W : WX} {fx fx2 : List Nat} {st : Stmt}
/-- the slots below n that a mask leaves out -/
def offs (n : Nat) (lv : List Bool) : List Nat := (List.range n).filter fun i => !(lv.getD i false)
def sLendN (n : Nat) (lv ln : List Bool) (g : Env → R Env Out) : Env → R Env Out := fun ρ => if ρ.length = n then sLend lv ln g ρ else .stuck
theorem sx_lend {g : Env → R Env Out} (n : Nat) (lv ln : List Bool) (h : Sx X G W fx2 st g) (hs : fx.all (fun i => fx2.contains i) = true) (ho : (offs n lv).all (fun i => fx2.contains i) = true) :
    Sx X G W fx st (sLendN n lv ln g) := by
  refine ⟨fun σ H Z ρ T D S P => ?_⟩
  unfold sLendN at P
  by_cases hn : ρ.length = n
  · rw [if_pos hn] at P
    obtain ⟨Z1, fT, z1, S1, back⟩ := S.lendS lv ln
    refine h.run σ H Z1 _ (raws H fT) D S1 ?_
    have f1 : ∀ {σ' : Sg}, Fx fx2 σ σ' → Fx fx σ σ' := fun f => ⟨f.1, fun i hi => f.2 i (by simpa using List.all_eq_true.mp hs i hi)⟩
    have f2 : ∀ {σ' : Sg}, Fx fx2 σ σ' → ∀ i, i < σ.length → lv[i]? ≠ some true → σ'[i]? = σ[i]? := fun f i hi hv => f.2 i (by
      have := List.all_eq_true.mp ho i (List.mem_filter.mpr ⟨List.mem_range.mpr (by rw [← hn, S.ok.len]; exact hi), by
        cases e : lv[i]? with
        | none => simp [List.getD, e]
        | some b => cases b <;> simp_all [List.getD]⟩)
      simpa using this)
    unfold sLend at P
    cases e1 : g (mixE lv (viewE ln ρ) ρ) with
    | stuck => rw [e1] at P; exact P.elim
    | exc c fs ρ' =>
      rw [e1] at P
      simp only at P
      split at P
      · rename_i hn
        intro dx σ' H' Z' z f S2 x
        obtain ⟨Z3, z3, S3, up, up2⟩ := back Z' H' σ' ρ' [] z f.1 (f2 f) S2 fun F hF fp h => h
        refine P dx σ' H' Z3 z3 (f1 f) S3 ?_
        match fs, x, hn with
        | [], _, _ => trivial
        | [.str f, d], ⟨a, v, e2, e3, r⟩, hn =>
          have hn : (true && (noFr d && true)) = true := hn
          rw [Bool.and_true, Bool.true_and] at hn
          exact ⟨a, v, e2, up a _ e3 fun x => x, up2 d v r hn⟩
      · exact P.elim
    | ok o =>
      rw [e1] at P
      cases o with
      | nx ρ' => exact fun σ' H' Z' z f S2 => let ⟨Z3, z3, S3, _⟩ := back Z' H' σ' ρ' [] z f.1 (f2 f) S2 fun F hF fp h => h; P σ' H' Z3 z3 (f1 f) S3
      | bk ρ' => exact fun σ' H' Z' z f S2 => let ⟨Z3, z3, S3, _⟩ := back Z' H' σ' ρ' [] z f.1 (f2 f) S2 fun F hF fp h => h; P σ' H' Z3 z3 (f1 f) S3
      | ct ρ' => exact fun σ' H' Z' z f S2 => let ⟨Z3, z3, S3, _⟩ := back Z' H' σ' ρ' [] z f.1 (f2 f) S2 fun F hF fp h => h; P σ' H' Z3 z3 (f1 f) S3
      | rt d ρ' =>
        simp only at P
        split at P
        · rename_i hn
          intro v σ' H' Z' z f S2
          obtain ⟨Z3, z3, S3, _⟩ := back Z' H' σ' ρ' [.tr d v] z f.1 (f2 f) S2 fun F hF fp h => by
            obtain ⟨f1, f2, rfl, r, r2⟩ := h
            exact ⟨f1, f2, rfl, r.less hF hn, r2⟩
          exact P v σ' H' Z3 z3 (f1 f) S3
        · exact P.elim
  · rw [if_neg hn] at P; exact P.elim
theorem wp_sLend {Q : Out → Prop} {E : XQ Env} (t : Tag Q) (u : Tag E) (n : Nat) (lv ln : List Bool) (g : Env → R Env Out) (ρ : Env) :
    Wp (sLendN n lv ln g ρ) Q E t u = Gd (ρ.length = n) (Wp (g (mixE lv (viewE ln ρ) ρ)) (Thn (fun ρ' => Q (.nx (mixE lv ρ (cleanE ρ')))) (fun ρ' => Q (.bk (mixE lv ρ (cleanE ρ')))) (fun ρ' => Q (.ct (mixE lv ρ (cleanE ρ')))) (fun d ρ' => Gd (noFr d = true) (Q (.rt d (mixE lv ρ (cleanE ρ')))) .mk))
      (fun c fs ρ' => Gd (noFrs fs = true) (E c fs (mixE lv ρ (cleanE ρ'))) .mk) .mk .mk) .mk := by
  unfold sLendN
  by_cases hn : ρ.length = n
  · rw [if_pos hn, gd_of hn]
    unfold sLend
    cases g (mixE lv (viewE ln ρ) ρ) with
    | stuck => rfl
    | exc c fs ρ' =>
      show Wp (if noFrs fs = true then R.exc c fs _ else .stuck) Q E t u = Gd _ _ .mk
      by_cases h : noFrs fs = true
      · rw [if_pos h, gd_of h]; rfl
      · rw [if_neg h]; exact propext ⟨fun z => z.elim, fun z => h z.1⟩
    | ok o =>
      cases o with
      | nx ρ' => rfl
      | bk ρ' => rfl
      | ct ρ' => rfl
      | rt d ρ' =>
        show Wp (if noFr d = true then R.ok (.rt d _) else .stuck) Q E t u = Gd _ _ .mk
        by_cases h : noFr d = true
        · rw [if_pos h, gd_of h]; rfl
        · rw [if_neg h]; exact propext ⟨fun z => z.elim, fun z => h z.1⟩
  · rw [if_neg hn]; exact propext ⟨fun z => z.elim, fun z => hn z.1⟩
theorem mixE_t (m : List Bool) (x y : Option D) (a b : Env) : mixE (true :: m) (x :: a) (y :: b) = y :: mixE m a b := rfl
theorem mixE_f (m : List Bool) (x y : Option D) (a b : Env) : mixE (false :: m) (x :: a) (y :: b) = x :: mixE m a b := rfl
theorem mixE_0 (x y : Option D) (a b : Env) : mixE [] (x :: a) (y :: b) = x :: mixE [] a b := rfl
theorem mixE_00 (m : List Bool) : mixE m [] [] = [] := by
  cases m with
  | nil => rfl
  | cons b m => cases b <;> rfl
theorem cleanE_n (ρ : Env) : cleanE (none :: ρ) = none :: cleanE ρ := rfl
theorem cleanE_s (d : D) (ρ : Env) : cleanE (some d :: ρ) = cleanO (some d) :: cleanE ρ := rfl
theorem cleanE_0 : cleanE [] = [] := rfl
theorem cleanO_0 : cleanO none = none := rfl
theorem cleanO_t {d : D} (h : noFr d = true) : cleanO (some d) = some d := by show (if noFr d = true then _ else _) = _; rw [if_pos h]
theorem cleanO_f {d : D} (h : noFr d = false) : cleanO (some d) = none := by show (if noFr d = true then _ else _) = _; rw [h]; rfl
theorem noFr_int (i : Int) : noFr (.int i) = true := rfl
theorem noFr_str (l : List Nat) : noFr (.str l) = true := rfl
theorem noFr_bl (b : Bool) : noFr (.bl b) = true := rfl
theorem noFr_non : noFr .non = true := rfl
theorem noFr_tup (ds : List D) : noFr (.tup ds) = noFrs ds := rfl
theorem noFr_nd (ds : List D) (k : Kd) : noFr (.nd true k ds) = noFrs ds := by show (true && noFrs ds) = _; rw [Bool.true_and]
theorem noFr_nf (ds : List D) (k : Kd) : noFr (.nd false k ds) = false := by show (false && noFrs ds) = _; rw [Bool.false_and]
theorem noFrs_nil : noFrs [] = true := rfl
theorem noFrs_cons (d : D) (ds : List D) : noFrs (d :: ds) = (noFr d && noFrs ds) := rfl
end
end Tw

set_option maxRecDepth 100000
namespace Tw
open PySem PySem.Spec PyProof.Rows L2
/-! ### a variable frozen ahead of a statement -/
def fzO : Option D → Option D
  | some d => some (frz d)
  | none => none
def sFzV (i : Nat) (g : Env → R Env Out) : Env → R Env Out := fun ρ => g (ρ.set i (fzO (gVar i ρ)))
section
variable {X : Cx} {G : Nat → Addr} {W : WX} {fx : List Nat} {st : Stmt}
theorem sx_fzV {g : Env → R Env Out} (i : Nat) (h : Sx X G W fx st g) : Sx X G W fx st (sFzV i g) := by
  refine ⟨fun σ H Z ρ T D S P => ?_⟩
  unfold sFzV at P
  cases e : gVar i ρ with
  | none =>
    rw [e] at P
    have : ρ.set i (fzO none) = ρ := by
      show ρ.set i none = ρ
      unfold gVar at e
      by_cases hi : i < ρ.length
      · cases e2 : ρ[i]? with
        | none => rw [List.getElem?_eq_none_iff] at e2; omega
        | some x =>
          rw [e2] at e
          cases x with
          | none => exact set_self e2
          | some d => cases e
      · exact List.set_eq_of_length_le (by omega)
    rw [this] at P
    exact h.run σ H Z ρ T D S P
  | some d =>
    rw [e] at P
    have e2 : ρ[i]? = some (some d) := by
      unfold gVar at e
      cases e2 : ρ[i]? with
      | none => rw [e2] at e; cases e
      | some x =>
        rw [e2] at e
        cases x with
        | none => cases e
        | some d' => cases e; rfl
    have S' : Sa ⟨X.K, G⟩ Z H σ (ρ.set i (some d)) T := by rw [set_self e2]; exact S
    obtain ⟨Z', z, S2⟩ := S'.frzAt
    exact h.run σ H Z' _ T D S2 (P.of z .refl)
theorem wp_sFzV {Q : Out → Prop} {E : XQ Env} (t : Tag Q) (u : Tag E) (i : Nat) (g : Env → R Env Out) (ρ : Env) : Wp (sFzV i g ρ) Q E t u = Nm (ρ.set i (fzO (gVar i ρ))) (fun ρ' => Wp (g ρ') Q E .mk .mk) .mk := propext ⟨fun h => h, fun h => h⟩
theorem fzO_s (d : D) : fzO (some d) = some (frz d) := rfl
theorem fzO_n : fzO none = none := rfl
end
end Tw

set_option maxRecDepth 100000
namespace Tw
open PySem PySem.Spec PyProof.Rows L2
/-! ### loops that eat what they walk, and loops that change the parts where they stand -/
section
variable {K : Ct} {Z Z' H H' : Hp} {σ : Sg} {ρ : Env}
theorem Sa.dropL : ∀ {L T : List It}, Sa K Z H σ ρ (L ++ T) → Sa K Z H σ ρ T
  | [], _, s => s
  | _ :: _, _, s => Sa.dropL (Sa.drop s)
theorem Sa.dropM {x : It} {L T : List It} (s : Sa K Z H σ ρ (x :: (L ++ T))) : Sa K Z H σ ρ (x :: T) := by
  have : (x :: (L ++ T)).Perm (L ++ (x :: T)) := List.perm_middle.symm
  exact Sa.dropL (s.perm this)
theorem SPost.more {fx : List Nat} {T : List It} {W : WX} {D D' : Ends} {L : List It} {r : R Env Out} (P : SPost K fx Z σ T W D r)
    (hn : ∀ ρ', r = .ok (.nx ρ') → ∀ σ' H' Z', Same Z Z' → Fx fx σ σ' → Sa K Z' H' σ' ρ' (L ++ T) → D'.nx σ' H')
    (hc : ∀ ρ', r = .ok (.ct ρ') → ∀ σ' H' Z', Same Z Z' → Fx fx σ σ' → Sa K Z' H' σ' ρ' (L ++ T) → D'.ct σ' H')
    (hb : ∀ ρ', r = .ok (.bk ρ') → ∀ σ' H' Z', Same Z Z' → Fx fx σ σ' → Sa K Z' H' σ' ρ' T → D'.bk σ' H')
    (hr : ∀ v H', D.rt v H' → D'.rt v H') : SPost K fx Z σ (L ++ T) W D' r := by
  cases r with
  | stuck => exact P
  | exc c fs ρ' => exact fun dx σ' H' Z' z f S x => P dx σ' H' Z' z f S.dropL x
  | ok o =>
    cases o with
    | nx ρ' => exact hn ρ' rfl
    | ct ρ' => exact hc ρ' rfl
    | bk ρ' => exact fun σ' H' Z' z f S => hb ρ' rfl σ' H' Z' z f S.dropL
    | rt d ρ' => exact fun v σ' H' Z' z f S => hr v H' (P v σ' H' Z' z f S.dropM)
theorem Sa.opn {k : Kd} {ds : List D} {v : V} {T : List It} (s : Sa K Z H σ ρ (.tr (.nd true k ds) v :: T)) : ∃ a vs, v = .ref a ∧ ds.length = vs.length ∧ Sa K Z H σ ρ (.cl k a vs :: (trs ds vs ++ T)) := by
  obtain ⟨a, vs, e, l, q⟩ := s.front.opn
  refine ⟨a, vs, e, l, s.ok, q.perm ?_⟩
  show (It.cl k a vs :: (trs ds vs ++ (envL σ ρ ++ T))).Perm (envL σ ρ ++ (It.cl k a vs :: (trs ds vs ++ T)))
  refine List.Perm.trans ?_ List.perm_middle.symm
  refine List.Perm.cons _ ?_
  rw [← List.append_assoc, ← List.append_assoc]
  exact List.perm_append_comm.append_right _
theorem Sa.cls {k : Kd} {ds : List D} {a : Addr} {vs : List V} {T : List It} (l : ds.length = vs.length) (s : Sa K Z H σ ρ (.cl k a vs :: (trs ds vs ++ T))) : Sa K Z H σ ρ (.tr (.nd true k ds) (.ref a) :: T) := by
  refine Sa.of_front s.ok (SI.cls l (s.front.perm (List.Perm.cons _ ?_)))
  rw [← List.append_assoc, ← List.append_assoc]
  exact List.perm_append_comm.append_right _
theorem Sa.opnT {ds : List D} {v : V} {T : List It} (s : Sa K Z H σ ρ (.tr (.tup ds) v :: T)) : ∃ a vs, v = .ref a ∧ SqT K.K Z a vs ∧ ds.length = vs.length ∧ Sa K Z H σ ρ (trs ds vs ++ T) := by
  obtain ⟨a, vs, e, q, l, q2⟩ := s.front.untup
  refine ⟨a, vs, e, q, l, s.ok, q2.perm ?_⟩
  rw [← List.append_assoc, ← List.append_assoc]
  exact List.perm_append_comm.append_right _
theorem Sa.clsT {ds : List D} {a : Addr} {vs : List V} {T : List It} (q : SqT K.K Z a vs) (l : ds.length = vs.length) (s : Sa K Z H σ ρ (trs ds vs ++ T)) : Sa K Z H σ ρ (.tr (.tup ds) (.ref a) :: T) := by
  refine Sa.of_front s.ok (SI.totup q l (s.si.perm ?_))
  rw [← List.append_assoc, ← List.append_assoc]
  exact List.perm_append_comm.append_right _
theorem trs_drop : ∀ {ds : List D} {vs : List V} {i : Nat} (h : i < ds.length) (h' : i < vs.length), trs (ds.drop i) (vs.drop i) = .tr ds[i] vs[i] :: trs (ds.drop (i + 1)) (vs.drop (i + 1))
  | d :: ds, v :: vs, 0, _, _ => rfl
  | d :: ds, v :: vs, i + 1, h, h' => trs_drop (ds := ds) (vs := vs) (i := i) (by simpa using h) (by simpa using h')
theorem trs_snoc : ∀ {ds : List D} {vs : List V} {d : D} {v : V}, ds.length = vs.length → trs (ds ++ [d]) (vs ++ [v]) = trs ds vs ++ [.tr d v]
  | [], [], _, _, _ => rfl
  | d :: ds, v :: vs, e, u, h => congrArg (It.tr d v :: ·) (trs_snoc (ds := ds) (vs := vs) (by simpa using h))
end
def sForC (f : Env → R Env (D × Env)) (w : D → Env → Option Env) (g : Env → R Env Out) : Env → R Env Out := fun ρ => (f ρ).bind fun p => match p.1 with
  | .nd true .lst ds => forL w g ds p.2
  | _ => .stuck
section
variable {X : Cx} {G : Nat → Addr} {W : WX} {fx : List Nat} {tg iter : Expr} {pos : Pos}
theorem sx_forC (O : XOk X W) {body : List Stmt} {b1 : Bool} {f : Env → R Env (D × Env)} {w : D → Env → Option Env} {g : Env → R Env Out} (hi : Ev X G W b1 iter f) (hg : Tg X G fx tg w) (hb : Bx X G W fx body g)
    (hs : ∀ x, foldedSetIterable iter X.env x = pure x := by intro _; rfl) : Sx X G W fx (.For tg iter body [] pos) (sForC f w g) := by
  refine ⟨fun σ H Z ρ T D S P => toS (ps_for O.po O.calm (pi_list peR) (pgT hg) pbR hs) (hi.run σ H Z ρ T _ S ?_)⟩
  unfold sForC at P
  cases e1 : f ρ with
  | stuck => rw [e1] at P; exact P
  | exc c fs ρ' => rw [e1] at P; exact YPost.x P
  | ok p =>
    obtain ⟨d, ρ1⟩ := p
    rw [e1] at P
    simp only [R.ok_bind] at P
    split at P
    · rename_i ds
      intro v H1 Z1 z1 _ S0
      obtain ⟨a, vs, rfl, lv, S1⟩ := S0.opn
      have seq : ∀ {Z' H' σ' ρ' L}, Sa ⟨X.K, G⟩ Z' H' σ' ρ' (.cl .lst a vs :: L) → SqL X.K H' a vs := fun S => by
        obtain ⟨own, c⟩ := S.front.cell
        exact SqL.of c.1
      refine ⟨a, rfl, ⟨vs, seq S1⟩, fun i m σ' H' => m = ds.length - i ∧ i ≤ ds.length ∧ ∃ Z' ρ', Same Z1 Z' ∧ Fx fx σ σ' ∧ Sa ⟨X.K, G⟩ Z' H' σ' ρ' (.cl .lst a vs :: (trs (ds.drop i) (vs.drop i) ++ T)) ∧ SPost ⟨X.K, G⟩ fx Z' σ' T W D (forL w g (ds.drop i) ρ'),
        ⟨ds.length, rfl, Nat.zero_le _, Z1, ρ1, Same.refl _, .refl, S1, P.of z1 .refl⟩, ?_⟩
      rintro i m σ' H' ⟨rfl, hi', Z', ρ', z', f', S', P'⟩
      by_cases hlt : i < ds.length
      · have hlt2 : i < vs.length := by omega
        have ed : ds.drop i = ds[i] :: ds.drop (i + 1) := List.drop_eq_getElem_cons hlt
        rw [trs_drop hlt hlt2] at S'
        rw [ed] at P'
        refine .inr ⟨⟨vs, vs[i], seq S', List.getElem?_eq_getElem hlt2⟩, fun σ2 H2 => ∃ Z2 ρ2, Same Z' Z2 ∧ Fx fx σ' σ2 ∧ Sa ⟨X.K, G⟩ Z2 H2 σ2 ρ2 (.cl .lst a vs :: (trs (ds.drop (i + 1)) (vs.drop (i + 1)) ++ T)) ∧ SPost ⟨X.K, G⟩ fx Z2 σ2 T W D (forL w g (ds.drop (i + 1)) ρ2), ?_, ?_⟩
        · rintro σ2 H2 ⟨Z2, ρ2, z2, f2, S2, P2⟩
          exact ⟨ds.length - (i + 1), by omega, rfl, hlt, Z2, ρ2, z'.trans z2, f'.trans f2, S2, P2⟩
        · rintro x H2 ⟨rfl, hy⟩
          have ex := hy vs (seq S')
          rw [List.getElem?_eq_getElem hlt2] at ex
          cases ex
          unfold forL at P'
          cases e2 : w ds[i] ρ' with
          | none => rw [e2] at P'; exact P'.elim
          | some ρ2 =>
            rw [e2] at P'
            simp only [oR_some, R.ok_bind] at P'
            refine ⟨Z', ρ', (.cl .lst a vs :: trs (ds.drop (i + 1)) (vs.drop (i + 1))) ++ T, ds[i], ρ2, S'.perm (List.Perm.swap _ _ _), e2, fun σ3 f3 S3 => ?_⟩
            refine hb.run σ3 H2 Z' ρ2 _ _ S3 ?_
            have P3 := P'.of (Same.refl _) f3
            cases e3 : g ρ2 with
            | stuck => rw [e3] at P3; exact P3
            | exc c fs ρ' => rw [e3] at P3; exact fun dx σ' H' Z' z f S x => P3 dx σ' H' Z' z f S.dropL x
            | ok o =>
              rw [e3] at P3
              simp only [R.ok_bind] at P3
              cases o with
              | nx ρ4 => exact fun σ4 H4 Z4 z4 f4 S4 => ⟨Z4, ρ4, z4, f3.trans f4, S4, P3.of z4 f4⟩
              | ct ρ4 => exact fun σ4 H4 Z4 z4 f4 S4 => ⟨Z4, ρ4, z4, f3.trans f4, S4, P3.of z4 f4⟩
              | bk ρ4 => exact fun σ4 H4 Z4 z4 f4 S4 => P3 σ4 H4 Z4 z4 f4 S4.dropL
              | rt d ρ4 => exact fun v σ4 H4 Z4 z4 f4 S4 => P3 v σ4 H4 Z4 z4 f4 S4.dropM
      · have e : i = ds.length := by omega
        subst e
        rw [List.drop_length] at P'
        exact .inl ⟨⟨vs, seq S', by omega⟩, P' σ' H' Z' (Same.refl _) .refl (Sa.dropL (L := .cl .lst a vs :: trs (ds.drop ds.length) (vs.drop ds.length)) S')⟩
    · exact P.elim
end
/-! ### a loop that changes each part where it stands -/
def mapL (ix : Nat) (g : Env → R Env Out) : List D → List D → Env → R Env (List D × Env)
  | [], acc, ρ => .ok (acc, ρ)
  | d :: ds, acc, ρ => (g (ρ.set ix (some d))).bind fun o => match o with
    | .nx ρ2 => match gVar ix ρ2 with
      | some d' => mapL ix g ds (acc ++ [d']) (ρ2.set ix none)
      | none => .stuck
    | _ => .stuck
def sForM (ix iy : Nat) (g : Env → R Env Out) : Env → R Env Out := fun ρ => match gVar iy ρ with
  | some (.nd true .lst ds) => (mapL ix g ds [] (ρ.set iy none)).bind fun p => .ok (.nx (p.2.set iy (some (.nd true .lst p.1))))
  | some (.tup ds) => (mapL ix g ds [] (ρ.set iy none)).bind fun p => .ok (.nx (p.2.set iy (some (.tup p.1))))
  | _ => .stuck
section
variable {X : Cx} {G : Nat → Addr} {W : WX} {fx : List Nat} {tg iter : Expr} {pos : Pos}
/-- the turns, whatever holds the parts -/
theorem mapL_turns {body : List Stmt} {g : Env → R Env Out} {ix iy : Nat} {a : Addr} {vs : List V} {C T : List It} {J : L2.It} {H1 Z1 : Hp} {σ : Sg} {ρ1 : Env} {ds : List D} {mk : List D → D} {E : Ends}
    (hb : Bx X G W (ix :: iy :: fx) body g) (hne : ix ≠ iy) (hx : ix ∉ fx) (hlx : ∀ σ' : Sg, σ'.length = σ.length → ix < σ'.length) (hly : σ[iy]? = some (some (.ref a))) (lv : ds.length = vs.length) (S1 : Sa ⟨X.K, G⟩ Z1 H1 σ ρ1 (C ++ (trs ds vs ++ T)))
    (hgo : ∀ i Z' H' σ' ρ' L, Same Z1 Z' → Sa ⟨X.K, G⟩ Z' H' σ' ρ' (C ++ L) → i < vs.length → J.go i H')
    (hyl : ∀ i Z' H' σ' ρ' L x H2, Same Z1 Z' → Sa ⟨X.K, G⟩ Z' H' σ' ρ' (C ++ L) → J.yld i H' x H2 → H2 = H' ∧ vs[i]? = some x)
    (hst : ∀ i Z' H' σ' ρ' L, Same Z1 Z' → Sa ⟨X.K, G⟩ Z' H' σ' ρ' (C ++ L) → vs.length ≤ i → J.stop i H')
    (hcl : ∀ ds' Z' H' σ' ρ', Same Z1 Z' → ds'.length = vs.length → Sa ⟨X.K, G⟩ Z' H' σ' ρ' (C ++ (trs ds' vs ++ T)) → Sa ⟨X.K, G⟩ Z' H' σ' ρ' (.tr (mk ds') (.ref a) :: T))
    (P : SPost ⟨X.K, G⟩ fx Z1 σ T W E ((mapL ix g ds [] ρ1).bind fun p => .ok (.nx (p.2.set iy (some (mk p.1)))))) :
    ∃ Wn : Nat → Nat → L2.St → Hp → Prop, (∃ m, Wn 0 m σ H1) ∧ ∀ i m σ' H', Wn i m σ' H' → (J.stop i H' ∧ E.nx σ' H') ∨ (J.go i H' ∧ ∃ N : L2.St → Hp → Prop, (∀ σ2 H2, N σ2 H2 → ∃ m', m' < m ∧ Wn (i + 1) m' σ2 H2) ∧
      ∀ v H2, J.yld i H' v H2 → gName ix v σ' H2 fun σ3 H3 => RunB X body σ3 H3 { E with nx := N, ct := N, bk := E.nx }) := by
  refine ⟨fun i m σ' H' => m = ds.length - i ∧ i ≤ ds.length ∧ ∃ Z' ρ' pre, pre.length = i ∧ Same Z1 Z' ∧ Fx (iy :: fx) σ σ' ∧ Sa ⟨X.K, G⟩ Z' H' σ' ρ' (C ++ (trs pre (vs.take i) ++ (trs (ds.drop i) (vs.drop i) ++ T))) ∧
      SPost ⟨X.K, G⟩ fx Z' σ' T W E ((mapL ix g (ds.drop i) pre ρ').bind fun p => .ok (.nx (p.2.set iy (some (mk p.1))))),
    ⟨ds.length, rfl, Nat.zero_le _, Z1, ρ1, [], rfl, Same.refl _, .refl, S1, P⟩, ?_⟩
  rintro i m σ' H' ⟨rfl, hi', Z', ρ', pre, lp, z', f', S', P'⟩
  by_cases hlt : i < ds.length
  · have hlt2 : i < vs.length := by omega
    have ed : ds.drop i = ds[i] :: ds.drop (i + 1) := List.drop_eq_getElem_cons hlt
    rw [ed] at P'
    refine .inr ⟨hgo i Z' H' σ' ρ' _ z' S' hlt2, fun σ2 H2 => ∃ Z2 ρ2 d', Same Z' Z2 ∧ Fx (iy :: fx) σ' σ2 ∧ Sa ⟨X.K, G⟩ Z2 H2 σ2 ρ2 (C ++ (trs (pre ++ [d']) (vs.take (i + 1)) ++ (trs (ds.drop (i + 1)) (vs.drop (i + 1)) ++ T))) ∧
      SPost ⟨X.K, G⟩ fx Z2 σ2 T W E ((mapL ix g (ds.drop (i + 1)) (pre ++ [d']) ρ2).bind fun p => .ok (.nx (p.2.set iy (some (mk p.1))))), ?_, ?_⟩
    · rintro σ2 H2 ⟨Z2, ρ2, d', z2, f2, S2, P2⟩
      exact ⟨ds.length - (i + 1), by omega, rfl, hlt, Z2, ρ2, pre ++ [d'], by rw [List.length_append, lp]; rfl, z'.trans z2, f'.trans f2, S2, P2⟩
    · intro x H2 hy
      obtain ⟨rfl, ex⟩ := hyl i Z' H' σ' ρ' _ x H2 z' S' hy
      rw [List.getElem?_eq_getElem hlt2] at ex
      cases ex
      have lx : ix < σ'.length := hlx σ' f'.1
      -- the part comes to the variable
      rw [trs_drop hlt hlt2] at S'
      have Sd : Sa ⟨X.K, G⟩ Z' H2 σ' ρ' (.tr ds[i] vs[i] :: (C ++ (trs pre (vs.take i) ++ (trs (ds.drop (i + 1)) (vs.drop (i + 1)) ++ T)))) := S'.perm (by
        refine List.Perm.trans ?_ List.perm_middle
        refine List.Perm.append_left C ?_
        exact List.perm_middle)
      have Sp := Sd.put lx
      show RunB X body (σ'.set ix (some vs[i])) H2 _
      unfold mapL at P'
      refine hb.run _ H2 Z' (ρ'.set ix (some ds[i])) (C ++ (trs pre (vs.take i) ++ (trs (ds.drop (i + 1)) (vs.drop (i + 1)) ++ T))) _ Sp ?_
      have fix : Fx (iy :: fx) σ' (σ'.set ix (some vs[i])) := .set (by simp; exact ⟨hne, hx⟩)
      have dropC : ∀ {Z2 H3 σ4 ρ4}, Sa ⟨X.K, G⟩ Z2 H3 σ4 ρ4 (C ++ (trs pre (vs.take i) ++ (trs (ds.drop (i + 1)) (vs.drop (i + 1)) ++ T))) → Sa ⟨X.K, G⟩ Z2 H3 σ4 ρ4 T := fun S => S.dropL.dropL.dropL
      have sub : ∀ {σ2 : Sg}, Fx (ix :: iy :: fx) (σ'.set ix (some vs[i])) σ2 → Fx (iy :: fx) σ' σ2 := fun f => fix.trans ⟨f.1, fun j hj => f.2 j (List.mem_cons_of_mem _ hj)⟩
      have sub2 : ∀ {σ2 : Sg}, Fx (iy :: fx) σ' σ2 → Fx fx σ' σ2 := fun f => ⟨f.1, fun j hj => f.2 j (List.mem_cons_of_mem _ hj)⟩
      cases e3 : g (ρ'.set ix (some ds[i])) with
      | stuck => rw [e3] at P'; exact P'
      | exc c fs ρ4 =>
        rw [e3] at P'
        exact fun dx σ4 H4 Z4 z4 f4 S4 x => P' dx σ4 H4 Z4 z4 (sub2 (sub f4)) (dropC S4) x
      | ok o =>
        rw [e3] at P'
        simp only [R.ok_bind] at P'
        cases o with
        | nx ρ4 =>
          intro σ4 H4 Z4 z4 f4 S4
          simp only at P'
          cases e4 : gVar ix ρ4 with
          | none => rw [e4] at P'; exact P'.elim
          | some d' =>
            rw [e4] at P'
            simp only at P'
            obtain ⟨v', hv', S5⟩ := S4.take (gVar_some e4)
            have ev : v' = vs[i] := by
              have := f4.2 ix List.mem_cons_self
              rw [hv', List.getElem?_set_self lx] at this
              exact Option.some.inj (Option.some.inj this)
            subst ev
            refine ⟨Z4, ρ4.set ix none, d', z4, sub f4, ?_, P'.of z4 (sub2 (sub f4))⟩
            have et : vs.take (i + 1) = vs.take i ++ [vs[i]] := (List.take_succ_eq_append_getElem hlt2)
            rw [et, trs_snoc (by rw [lp, List.length_take]; omega)]
            refine S5.perm ?_
            refine List.Perm.trans List.perm_middle.symm ?_
            refine List.Perm.append_left C ?_
            rw [List.append_assoc]
            exact List.perm_middle.symm
        | ct ρ4 => exact P'.elim
        | bk ρ4 => exact P'.elim
        | rt d ρ4 => exact P'.elim
  · have e : i = ds.length := by omega
    subst e
    have ev : vs.take ds.length = vs := List.take_of_length_le (by omega)
    have S2 : Sa ⟨X.K, G⟩ Z' H' σ' ρ' (C ++ (trs pre vs ++ T)) := by
      rw [List.drop_length, ev] at S'
      have : trs ([] : List D) (vs.drop ds.length) = [] := by cases vs.drop ds.length <;> rfl
      rw [this] at S'
      exact S'
    rw [List.drop_length] at P'
    refine .inl ⟨hst ds.length Z' H' σ' ρ' _ z' S2 (by omega), ?_⟩
    unfold mapL at P'
    have S3 := hcl pre Z' H' σ' ρ' z' (by rw [lp]; exact lv) S2
    have hv : σ'[iy]? = some (some (.ref a)) := by rw [f'.2 iy List.mem_cons_self]; exact hly
    have S4 := S3.put (i := iy) (List.getElem?_eq_some_iff.mp hv).1
    rw [set_self hv] at S4
    exact P' σ' H' Z' (Same.refl _) .refl S4
theorem sx_forM (O : XOk X W) {body : List Stmt} {g : Env → R Env Out} {ix iy : Nat} {x : Str} (hi : PE X iter (tVar iy)) (hN : X.N[ix]? = some x) (hg : PG X tg (gName ix)) (hne : ix ≠ iy) (hx : ix ∉ fx) (hb : Bx X G W (ix :: iy :: fx) body g)
    (hs : ∀ x, foldedSetIterable iter X.env x = pure x := by intro _; rfl) : Sx X G W fx (.For tg iter body [] pos) (sForM ix iy g) := by
  refine ⟨fun σ H Z ρ T D S P => ?_⟩
  unfold sForM at P
  cases e : gVar iy ρ with
  | none => rw [e] at P; exact P.elim
  | some d =>
    rw [e] at P
    obtain ⟨v, hv, S1⟩ := S.take (gVar_some e)
    have hlx : ∀ (pins : List (Addr × Obj)) (s : Shared), Inv X pins σ H s → ∀ σ' : Sg, σ'.length = σ.length → ix < σ'.length := fun pins s I σ' l => by
      rw [l, I.len]; exact (List.getElem?_eq_some_iff.mp hN).1
    cases d with
    | tup ds =>
      simp only at P
      intro pins s I
      obtain ⟨a, vs, rfl, q, lv, S2⟩ := S1.opnT
      refine (toS (ps_for O.po O.calm (pi_tup hi) hg pbR hs) (D := D) ⟨_, hv, a, rfl, ⟨vs, sqT_mono q S2.si.zh⟩, ?_⟩) pins s I
      exact mapL_turns (C := []) (mk := .tup) hb hne hx (hlx pins s I) hv lv S2
        (fun i Z' H' σ' ρ' L z S h => ⟨vs, vs[i], sqT_mono q (z.trans S.si.zh), List.getElem?_eq_getElem h⟩)
        (fun i Z' H' σ' ρ' L x H2 z S hy => ⟨hy.1, hy.2 vs (sqT_mono q (z.trans S.si.zh))⟩)
        (fun i Z' H' σ' ρ' L z S h => ⟨vs, sqT_mono q (z.trans S.si.zh), h⟩)
        (fun ds' Z' H' σ' ρ' z l S => Sa.clsT (sqT_mono q z) l S) P
    | nd m k ds =>
      cases m with
      | false => exact P.elim
      | true =>
        cases k with
        | lst =>
          simp only at P
          intro pins s I
          obtain ⟨a, vs, rfl, lv, S2⟩ := S1.opn
          have seq : ∀ {Z' H' σ' ρ' L}, Sa ⟨X.K, G⟩ Z' H' σ' ρ' ([.cl .lst a vs] ++ L) → SqL X.K H' a vs := fun S => by
            obtain ⟨own, c⟩ := S.front.cell
            exact SqL.of c.1
          refine (toS (ps_for O.po O.calm (pi_list hi) hg pbR hs) (D := D) ⟨_, hv, a, rfl, ⟨vs, seq S2⟩, ?_⟩) pins s I
          exact mapL_turns (C := [.cl .lst a vs]) (mk := .nd true .lst) hb hne hx (hlx pins s I) hv lv S2
            (fun i Z' H' σ' ρ' L z S h => ⟨vs, vs[i], seq S, List.getElem?_eq_getElem h⟩)
            (fun i Z' H' σ' ρ' L x H2 z S hy => ⟨hy.1, hy.2 vs (seq S)⟩)
            (fun i Z' H' σ' ρ' L z S h => ⟨vs, seq S, h⟩)
            (fun ds' Z' H' σ' ρ' z l S => Sa.cls l S) P
        | ro => exact P.elim
        | hole => exact P.elim
        | dct ks => exact P.elim
        | obj C ns => exact P.elim
    | _ => exact P.elim
end
end Tw

set_option maxRecDepth 100000
namespace Tw
open PySem PySem.Spec PyProof.Rows L2
section
variable {Q : Out → Prop} {E : XQ Env} {ρ : Env}
theorem wp_sForC (t : Tag Q) (u : Tag E) (f : Env → R Env (D × Env)) (w : D → Env → Option Env) (g : Env → R Env Out) : Wp (sForC f w g ρ) Q E t u = Wp (f ρ) (fun p => OnL (some p.1) (fun ds => Wp (forL w g ds p.2) Q E .mk .mk) .mk) E .mk .mk := by
  show Wp ((f ρ).bind _) Q E t u = _
  rw [wp_bind]; refine wp_cg fun p => ?_
  obtain ⟨d, ρ1⟩ := p
  cases d with
  | nd m k ds => cases m <;> cases k <;> rfl
  | _ => rfl
/-- each part changed, whatever to -/
theorem mapL_wp {Q : List D × Env → Prop} {ix : Nat} {g : Env → R Env Out} {t : Tag Q} {u : Tag E} : ∀ {ds acc : List D},
    (∀ d ∈ ds, Wp (g (ρ.set ix (some d))) (Thn (fun ρ2 => ∃ d', gVar ix ρ2 = some d' ∧ ρ2.set ix none = ρ) (fun _ => False) (fun _ => False) (fun _ _ => False)) Never .mk .mk) → (∀ ds', ds'.length = ds.length → Q (acc ++ ds', ρ)) → Wp (mapL ix g ds acc ρ) Q E t u
  | [], acc, _, k => by
    have := k [] rfl
    rw [List.append_nil] at this
    exact this
  | d :: ds, acc, H, k => by
    have h := H d List.mem_cons_self
    unfold mapL
    cases e : g (ρ.set ix (some d)) with
    | stuck => rw [e] at h; exact h.elim
    | exc c fs e' => rw [e] at h; exact h.elim
    | ok o =>
      rw [e] at h
      cases o with
      | nx ρ2 =>
        obtain ⟨d', e1, e2⟩ := (show ∃ d', gVar ix ρ2 = some d' ∧ ρ2.set ix none = ρ from h)
        simp only [R.ok_bind, e1, e2]
        exact mapL_wp (fun x hx => H x (List.mem_cons_of_mem _ hx)) fun ds' l => by
          have := k (d' :: ds') (by simp [l])
          rw [List.append_assoc]; exact this
      | bk ρ2 => exact h.elim
      | ct ρ2 => exact h.elim
      | rt x ρ2 => exact h.elim
theorem wp_sForM_l {ix iy : Nat} {g : Env → R Env Out} {t : Tag Q} {u : Tag E} {ds : List D} (h : gVar iy ρ = some (.nd true .lst ds)) : Wp (sForM ix iy g ρ) Q E t u = Wp (mapL ix g ds [] (ρ.set iy none)) (fun p => Q (.nx (p.2.set iy (some (.nd true .lst p.1))))) E .mk .mk := by
  unfold sForM
  rw [h]
  show Wp (R.bind _ _) Q E t u = _
  rw [wp_bind]; rfl
theorem wp_sForM_t {ix iy : Nat} {g : Env → R Env Out} {t : Tag Q} {u : Tag E} {ds : List D} (h : gVar iy ρ = some (.tup ds)) : Wp (sForM ix iy g ρ) Q E t u = Wp (mapL ix g ds [] (ρ.set iy none)) (fun p => Q (.nx (p.2.set iy (some (.tup p.1))))) E .mk .mk := by
  unfold sForM
  rw [h]
  show Wp (R.bind _ _) Q E t u = _
  rw [wp_bind]; rfl
end
end Tw

set_option maxRecDepth 100000
namespace Tw
open PySem PySem.Spec L2
section
variable {X : Cx} {G : Nat → Addr} {W : WX} {a b c e o : Expr} {pos : Pos}
theorem _root_.L2.Room.units65 {k : Nat} {A : Around} (r : Room k A) : A.units + 65 < cLine := by have := r.un; omega
/-! ### in and index, of data of any depth in lists -/
def dInF : F2
  | x, .nd _ .lst ds => if okD 64 x = true ∧ okDs 63 ds = true then some (.bl (inDs x ds)) else none
  | _, _ => none
def dNinF : F2
  | x, .nd _ .lst ds => if okD 64 x = true ∧ okDs 63 ds = true then some (.bl (!inDs x ds)) else none
  | _, _ => none
theorem okD_lst {b : Bool} {ds : List D} (h : okDs 63 ds = true) : okD 64 (.nd b .lst ds) = true := h
theorem any_toP {x : D} (hx : okD 64 x = true) : ∀ {ds : List D}, okDs 63 ds = true → ((toPs ds).any fun z => PyData.eqv z (toP x)) = inDs x ds
  | [], _ => rfl
  | d :: ds, h => by
    unfold okDs at h
    rw [Bool.and_eq_true] at h
    show (PyData.eqv (toP d) (toP x) || (toPs ds).any fun z => PyData.eqv z (toP x)) = (eqvD d x || inDs x ds)
    rw [eqv_toP h.1 hx, any_toP hx h.2]
theorem opF_inD : OpF X G (rInD X.K) dInF := by
  intro Z H x y v u fx fy d Q zh rx ry e q
  unfold dInF at e
  split at e
  · rename_i m ds
    split at e
    · rename_i h
      cases e
      exact ⟨toP x, toPs ds, toP_dp zh h.1 rx, toP_dp (d := .nd m .lst ds) zh (okD_lst h.2) ry, shaped_of h.1, shaped_of (x := .nd m .lst ds) (okD_lst h.2), by rw [any_toP h.1 h.2]; exact q_bl q⟩
    · cases e
  · cases e
theorem opF_ninD : OpF X G (rNotInD X.K) dNinF := by
  intro Z H x y v u fx fy d Q zh rx ry e q
  unfold dNinF at e
  split at e
  · rename_i m ds
    split at e
    · rename_i h
      cases e
      exact ⟨toP x, toPs ds, toP_dp zh h.1 rx, toP_dp (d := .nd m .lst ds) zh (okD_lst h.2) ry, shaped_of h.1, shaped_of (x := .nd m .lst ds) (okD_lst h.2), by rw [any_toP h.1 h.2]; exact q_bl q⟩
    · cases e
  · cases e
/-- the place of the first equal one -/
def ixDs (x : D) : List D → Option Nat
  | [] => none
  | d :: ds => if eqvD d x = true then some 0 else (ixDs x ds).map (· + 1)
def idxF : F2
  | .nd _ .lst ds, x => if okD 64 x = true ∧ okDs 63 ds = true then (ixDs x ds).map fun j => .int (j : Nat) else none
  | _, _ => none
theorem ixDs_spec {x : D} : ∀ {ds : List D} {j : Nat}, ixDs x ds = some j → (∃ z, ds[j]? = some z ∧ eqvD z x = true) ∧ ∀ m z, m < j → ds[m]? = some z → eqvD z x = false
  | [], _, h => by cases h
  | d :: ds, j, h => by
    unfold ixDs at h
    by_cases hd : eqvD d x = true
    · rw [if_pos hd] at h
      cases h
      exact ⟨⟨d, rfl, hd⟩, fun m z hm => absurd hm (Nat.not_lt_zero _)⟩
    · rw [if_neg hd] at h
      cases e : ixDs x ds with
      | none => rw [e] at h; cases h
      | some i =>
        rw [e] at h
        cases h
        obtain ⟨⟨z, h1, h2⟩, h3⟩ := ixDs_spec e
        refine ⟨⟨z, h1, h2⟩, fun m z' hm hz => ?_⟩
        cases m with
        | zero => cases hz; exact Bool.eq_false_iff.mpr hd
        | succ m => exact h3 m z' (Nat.lt_of_succ_lt_succ hm) hz
theorem toPs_get : ∀ {ds : List D} {j : Nat}, (toPs ds)[j]? = (ds[j]?).map toP
  | [], _ => by simp [toPs]
  | d :: ds, 0 => rfl
  | d :: ds, j + 1 => by
    show (toPs ds)[j]? = (ds[j]?).map toP
    exact toPs_get
theorem okDs_get {n : Nat} : ∀ {ds : List D} {j : Nat} {z : D}, okDs n ds = true → ds[j]? = some z → okD n z = true
  | [], _, _, _, h => by simp at h
  | d :: ds, 0, z, h, e => by cases e; unfold okDs at h; rw [Bool.and_eq_true] at h; exact h.1
  | d :: ds, j + 1, z, h, e => by unfold okDs at h; rw [Bool.and_eq_true] at h; exact okDs_get h.2 e
theorem opF_idx : OpF X G (fun x y H Q => rIndexD X.K x [y] H Q) idxF := by
  intro Z H x y v u fx fy d Q zh rx ry e q
  unfold idxF at e
  split at e
  · rename_i m ds
    split at e
    · rename_i h
      cases e1 : ixDs y ds with
      | none => rw [e1] at e; cases e
      | some j =>
        rw [e1] at e
        cases e
        obtain ⟨⟨z, h1, h2⟩, h3⟩ := ixDs_spec e1
        obtain ⟨a, vs, f, rfl, s, r⟩ := rx.lst_any zh
        have k1 := toP_dp (d := .nd m .lst ds) zh (okD_lst h.2) rx
        refine ⟨a, u, toP y, toPs ds, j, toP z, rfl, rfl, k1, toP_dp zh h.1 ry, shaped_of (x := .nd m .lst ds) (okD_lst h.2), shaped_of h.1, by rw [toPs_get, h1]; rfl, by rw [eqv_toP (okDs_get h.2 h1) h.1]; exact h2, fun m' z' hm hz => ?_, q_int q⟩
        rw [toPs_get] at hz
        cases e2 : ds[m']? with
        | none => rw [e2] at hz; cases hz
        | some w =>
          rw [e2] at hz
          cases hz
          rw [eqv_toP (okDs_get h.2 e2) h.1]
          exact h3 m' w hm e2
    · cases e
  · cases e
theorem lst_ref {m : Bool} {ds : List D} {Z H : Hp} {v : V} {fp : List Addr} (zh : Same Z H) (r : Rp ⟨X.K, G⟩ Z H (.nd m .lst ds) v fp) : tyV X.K "list" v H := by
  obtain ⟨a, vs, f, rfl, s, r⟩ := r.lst_any zh
  exact .inl ⟨rfl, vs, SqL.of s⟩
/-- x.index(y), both looked at -/
theorem ev_idx {f g : Env → Option D} (hu : X.A.units + 65 < cLine) {apos cpos : Pos} (ha : Bo X G o f) (hb : Bo X G e g)
    (hbase : attributeBase o "index" X.env (eval o X.env) = eval o X.env := by rfl)
    (hfew : ((backTo cpos (starEach [e] X.env)).all (fun x => !x.1) && (backToKw cpos (keywordEach [] X.env)).all (fun x => x.1.isSome)
      && decide ([e].length + ([] : List Keyword).length + (if ([] : List Keyword).isEmpty then 0 else 1) < 30)) = true := by rfl)
    (hline : (apos.endLine == cpos.line) = true := by rfl) (hs : starEach [e] X.env = (false, eval e X.env) :: starEach [] X.env := by rfl) (hplain : (backTo cpos (starEach [] X.env)).any (·.1) = false := by rfl) :
    Ev X G W true (.Call (.Attribute o "index" apos) [e] [] cpos) (g2 idxF f g) := by
  refine ⟨g2_q, fun σ H Z ρ T Q S P => toE (pe_bm PySem.F.plainAttrs_list PySem.F.slot_list_index PySem.F.type_list_index (mt_indexD hu) peR (pa_cons peR pa_nil hs) hbase hfew hline hs hplain) ?_⟩
  unfold g2 at P
  split at P
  · rename_i x y e1 e2
    cases e3 : idxF x y with
    | none => rw [e3] at P; exact P.elim
    | some d =>
      rw [e3] at P
      refine ha.run σ H Z ρ T _ x S e1 fun v H1 Z1 fx z1 h1 S1 rx => ⟨?_, ?_⟩
      · unfold idxF at e3
        split at e3
        · exact lst_ref S1.si.zh rx
        · cases e3
      · refine hb.run σ H1 Z1 ρ T _ y S1 e2 fun u H2 Z2 fy z2 h2 S2 ry => ?_
        exact opF_idx Z2 H2 x y v u fx fy d Q S2.si.zh (rx.keep z2 fun b _ o e => h2 b o e) ry e3 fun w H' Z' al => P w H' Z' ((z1.trans z2).trans al.z) (fun _ => (h1.trans h2).trans al.h) (Al.sa al S2)
  · exact P.elim
/-! ### a op b op c, all looked at -/
def gCh (F F' : F2) (f g h : Env → Option D) : Env → R Env (D × Env) := fun ρ => match f ρ, g ρ with
  | some x, some y => match F x y with
    | some (.bl true) => match h ρ with
      | some z => (oR (F' y z)).bind fun d => .ok (d, ρ)
      | none => .stuck
    | some (.bl false) => .ok (.bl false, ρ)
    | _ => .stuck
  | _, _ => .stuck
theorem gCh_q {F F' : F2} {f g h : Env → Option D} : true = true → ∀ ρ d ρ', gCh F F' f g h ρ = .ok (d, ρ') → ρ' = ρ := by
  intro _ ρ d ρ' e
  unfold gCh at e
  split at e
  · split at e
    · split at e
      · rename_i y _ _ _ _ _ z _
        cases e3 : F' y z with
        | none => rw [e3] at e; cases e
        | some x => rw [e3] at e; cases e; rfl
      · cases e
    · cases e; rfl
    · cases e
  · cases e
theorem runCh {r r' : R2} {F F' : F2} (hF : OpF X G r F) (hF' : OpF X G r' F') {f g h : Env → Option D} (ha : Bo X G a f) (hb : Bo X G b g) (hc : Bo X G c h) {σ : Sg} {H Z : Hp} {ρ : Env} {T : List It} {Q : VK}
    (S : Sa ⟨X.K, G⟩ Z H σ ρ T) (P : EPost ⟨X.K, G⟩ true Z H σ T W Q (gCh F F' f g h ρ)) : tChain r r' (RunE X a) (RunE X b) (RunE X c) σ H Q := by
  unfold gCh at P
  split at P
  · rename_i x y e1 e2
    refine ha.run σ H Z ρ T _ x S e1 fun v H1 Z1 fx z1 h1 S1 rx => ?_
    refine hb.run σ H1 Z1 ρ T _ y S1 e2 fun u H2 Z2 fy z2 h2 S2 ry => ?_
    have rx2 := rx.keep (H' := H2) z2 fun b _ o e => h2 b o e
    split at P
    · rename_i e3
      refine hF Z2 H2 x y v u fx fy _ _ S2.si.zh rx2 ry e3 fun w H3 Z3 al => ?_
      obtain ⟨fw, rw_⟩ := (al.sa S2).rp
      obtain ⟨rfl, _⟩ := rw_
      refine ⟨true, rfl, ?_⟩
      rw [if_pos rfl]
      have S3 := (al.sa S2).drop
      split at P
      · rename_i z e4
        refine hc.run σ H3 Z3 ρ T _ z S3 e4 fun t H4 Z4 fz z4 h4 S4 rz => ?_
        have ry4 := ry.keep (H' := H4) (al.z.trans z4) fun b _ o e => h4 b o (al.h b o e)
        cases e5 : F' y z with
        | none => rw [e5] at P; exact P.elim
        | some d =>
          rw [e5] at P
          exact hF' Z4 H4 y z u t fy fz d Q S4.si.zh ry4 rz e5 fun w H' Z' al' => P w H' Z' ((((z1.trans z2).trans al.z).trans z4).trans al'.z) (fun _ => (((h1.trans h2).trans al.h).trans h4).trans al'.h) (Al.sa al' S4)
      · exact P.elim
    · rename_i e3
      refine hF Z2 H2 x y v u fx fy _ _ S2.si.zh rx2 ry e3 fun w H3 Z3 al => ?_
      obtain ⟨fw, rw_⟩ := (al.sa S2).rp
      obtain ⟨rfl, _⟩ := rw_
      refine ⟨false, rfl, ?_⟩
      rw [if_neg Bool.false_ne_true]
      have S3 := (al.sa S2).drop
      exact P (.bl false) H3 Z3 ((z1.trans z2).trans al.z) (fun _ => (h1.trans h2).trans al.h) (al.sa S2)
    · exact P.elim
  · exact P.elim
theorem ev_chG {op op' : CmpOp} {r r' : R2} {F F' : F2} (ho : OpR X (compareOp op) r) (hF : OpF X G r F) (ho' : OpR X (compareOp op') r') (hF' : OpF X G r' F') {f g h : Env → Option D} (ha : Bo X G a f) (hb : Bo X G b g) (hc : Bo X G c h)
    (hm : lastMarks [op, op'] [b, c] = false := by with_unfolding_all rfl) : Ev X G W true (.Compare a [op, op'] [b, c] pos) (gCh F F' f g h) :=
  ⟨gCh_q, fun σ H Z ρ T Q S P => toE (pe_chain ho ho' peR peR peR hm) (runCh hF hF' ha hb hc S P)⟩
theorem tx_chG {op op' : CmpOp} {r r' : R2} {F F' : F2} (ho : OpR X (compareOp op) r) (hF : OpF X G r F) (ho' : OpR X (compareOp op') r') (hF' : OpF X G r' F') {f g h : Env → Option D} (ha : Bo X G a f) (hb : Bo X G b g) (hc : Bo X G c h)
    (hm : lastMarks [op, op'] [b, c] = false := by with_unfolding_all rfl) : Tx X G W true (.Compare a [op, op'] [b, c] pos) (asB (gCh F F' f g h)) :=
  ⟨asB_q gCh_q, fun σ H Z ρ T Q S P => toT (pt_chain ho ho' peR peR peR hm) (runCh hF hF' ha hb hc S (asB_post P))⟩
end
section
variable {Q : D × Env → Prop} {E : XQ Env} (t : Tag Q) (u : Tag E) (ρ : Env)
theorem wp_gCh (F F' : F2) (f g h : Env → Option D) : Wp (gCh F F' f g h ρ) Q E t u = Op (f ρ) (fun x => Op (g ρ) (fun y => Op (F x y) (fun b => OnB b (fun k => Br k (Op (h ρ) (fun z => Op (F' y z) (fun d => Q (d, ρ)) .mk) .mk) (Q (.bl false, ρ)) .mk .mk) .mk) .mk) .mk) .mk := by
  show Wp (match f ρ, g ρ with
  | some x, some y => match F x y with
    | some (.bl true) => match h ρ with
      | some z => (oR (F' y z)).bind fun d => R.ok (d, ρ)
      | none => .stuck
    | some (.bl false) => .ok (.bl false, ρ)
    | _ => .stuck
  | _, _ => .stuck) Q E t u = _
  cases f ρ with
  | none => rfl
  | some x =>
    cases g ρ with
    | none => rfl
    | some y =>
      show Wp (match F x y with
        | some (.bl true) => match h ρ with
          | some z => (oR (F' y z)).bind fun d => R.ok (d, ρ)
          | none => .stuck
        | some (.bl false) => .ok (.bl false, ρ)
        | _ => .stuck) Q E t u = Op (F x y) (fun b => OnB b (fun k => Br k (Op (h ρ) (fun z => Op (F' y z) (fun d => Q (d, ρ)) .mk) .mk) (Q (.bl false, ρ)) .mk .mk) .mk) .mk
      cases F x y with
      | none => rfl
      | some b =>
        cases b with
        | bl k =>
          cases k with
          | false => rfl
          | true =>
            show Wp (match h ρ with
              | some z => (oR (F' y z)).bind fun d => R.ok (d, ρ)
              | none => .stuck) Q E t u = Op (h ρ) (fun z => Op (F' y z) (fun d => Q (d, ρ)) .mk) .mk
            cases h ρ with
            | none => rfl
            | some z =>
              show Wp ((oR (F' y z)).bind fun d => R.ok (d, ρ)) Q E t u = Op (F' y z) (fun d => Q (d, ρ)) .mk
              cases F' y z <;> rfl
        | _ => rfl
end
end Tw

set_option maxRecDepth 100000
namespace Tw
open PySem PySem.Spec L2
/-! ### a call whose values are moved in as they are -/
def fillW : List Ag → Env → Option (List D × Env)
  | [], ρ => some ([], ρ)
  | .v d :: r, ρ => (fillW r ρ).map fun p => (d :: p.1, p.2)
  | .m i :: r, ρ => match gVar i ρ with
    | some d => (fillW r (ρ.set i none)).map fun p => (d :: p.1, p.2)
    | none => none
def callW (m : List Bool) (dds : List D) (F : List D → FR) (as : List Ag) (ρ : Env) : R Env (D × Env) :=
  if mask as ++ dds.map (fun _ => false) = m then
    match fillW as ρ with
    | none => .stuck
    | some (ds, ρ1) => match F (ds ++ dds) with
      | .ok (r, outs) => .ok (r, putA as outs ρ1)
      | .exc c fs outs => .exc c fs (putA as outs ρ1)
      | .stuck => .stuck
  else .stuck
def dCallW (m : List Bool) (dds : List D) (F : List D → FR) (g : Env → R Env (List Ag × Env)) : Env → R Env (D × Env) := fun ρ => (g ρ).bind fun p => callW m dds F p.1 p.2
section
variable {K : Ct} {Z H : Hp} {σ : Sg} {T : List It}
theorem fillW_ok : ∀ {as : List Ag} {ρ : Env} {vs : List V} {L T : List It} {ds : List D} {ρ1 : Env}, resA σ as vs L → Sa K Z H σ ρ (L ++ T) → fillW as ρ = some (ds, ρ1) →
    Sa K Z H σ ρ1 (trs ds vs ++ T) ∧ ds.length = vs.length ∧ as.length = vs.length
  | [], ρ, vs, L, T, ds, ρ1, r, S, e => by
    cases vs with
    | cons _ _ => exact r.elim
    | nil => cases r; cases e; exact ⟨S, rfl, rfl⟩
  | .v d :: as, ρ, vs, L, T, ds, ρ1, r, S, e => by
    cases vs with
    | nil => exact r.elim
    | cons v vs =>
      obtain ⟨L', rfl, r⟩ := r
      unfold fillW at e
      cases e1 : fillW as ρ with
      | none => rw [e1] at e; cases e
      | some p =>
        obtain ⟨ds', ρ'⟩ := p
        rw [e1] at e
        cases e
        obtain ⟨S1, l1, la⟩ := fillW_ok (T := .tr d v :: T) r (S.perm (List.perm_middle.symm)) e1
        exact ⟨S1.perm (T' := .tr d v :: (trs ds' vs ++ T)) (List.perm_middle), by simp [l1], by simp [la]⟩
  | .m i :: as, ρ, vs, L, T, ds, ρ1, r, S, e => by
    cases vs with
    | nil => exact r.elim
    | cons v vs =>
      obtain ⟨hv, r⟩ := r
      unfold fillW at e
      cases e0 : gVar i ρ with
      | none => rw [e0] at e; cases e
      | some d =>
        rw [e0] at e
        simp only at e
        cases e1 : fillW as (ρ.set i none) with
        | none => rw [e1] at e; cases e
        | some p =>
          obtain ⟨ds', ρ'⟩ := p
          rw [e1] at e
          cases e
          obtain ⟨v', hv', S0⟩ := S.take (gVar_some e0)
          rw [hv] at hv'
          cases hv'
          obtain ⟨S1, l1, la⟩ := fillW_ok (T := .tr d v :: T) r (S0.perm (List.perm_middle.symm)) e1
          exact ⟨S1.perm (T' := .tr d v :: (trs ds' vs ++ T)) (List.perm_middle), by simp [l1], by simp [la]⟩
end
section
variable {X : Cx} {G : Nat → Addr} {W : WX} {e a b c tg iter : Expr} {es : List Expr} {pos p : Pos}
theorem callW_end (tk : Takes X W) {m : List Bool} {dds : List D} {F : List D → FR} {as : List Ag} {ρ : Env} {σ : Sg} {H Z : Hp} {T L : List It} {Q : VK} {vs dvs : List V} {b1 : Bool}
    (hb : b1 = false) (hd : ∀ Z H, Rps ⟨X.K, G⟩ Z H dds dvs []) (r : resA σ as vs L) (S : Sa ⟨X.K, G⟩ Z H σ ρ (L ++ T)) {H0 : Hp} (P : EPost ⟨X.K, G⟩ b1 Z H0 σ T W Q (callW m dds F as ρ)) :
    spT ⟨X.K, noT G⟩ m F (vs ++ dvs) H Q (fun c d H' => W c d σ H') := by
  subst hb
  unfold callW at P
  split at P
  · rename_i hm
    cases e1 : fillW as ρ with
    | none => rw [e1] at P; exact P.elim
    | some p =>
      obtain ⟨ds, ρ1⟩ := p
      rw [e1] at P
      obtain ⟨S1, l1, la⟩ := fillW_ok r S e1
      have hdl : dds.length = dvs.length := (hd Z H).length
      have s2 : SI ⟨X.K, G⟩ Z H (trs (ds ++ dds) (vs ++ dvs) ++ (envL σ ρ1 ++ T)) := by
        rw [trs_app l1]
        have := S1.si.addL (hd Z H)
        refine this.perm ?_
        have p1 : (trs dds dvs ++ (envL σ ρ1 ++ (trs ds vs ++ T))).Perm (trs dds dvs ++ (trs ds vs ++ (envL σ ρ1 ++ T))) := by
          refine List.Perm.append_left _ ?_
          rw [← List.append_assoc, ← List.append_assoc]
          exact List.perm_append_comm.append_right T
        refine p1.trans ?_
        rw [← List.append_assoc]
        exact List.perm_append_comm.append_right _
      have hsel : sel m (vs ++ dvs) = sel (mask as) vs := by rw [← hm]; exact sel_app (by rw [mask_len]; exact la)
      refine ⟨Z, ds ++ dds, (envL σ ρ1 ++ T) ++ tabs ⟨X.K, G⟩, ?_, by simp [l1, hdl], by rw [← List.append_assoc]; exact SI_n.mpr s2, ?_⟩
      · rw [← hm]; simp [mask_len, la, hdl]
      · simp only at P
        cases e2 : F (ds ++ dds) with
        | stuck => rw [e2] at P; exact P.elim
        | exc c fs outs =>
          rw [e2] at P
          intro dx H' Z' z' lo s' x'
          rw [ExR_n] at x'
          rw [← List.append_assoc] at s'
          have s' := SI_n.mp s'
          rw [hsel] at lo s'
          refine P dx H' Z' z' (put_ok r lo ⟨S1.ok, s'.perm ?_⟩) x'
          rw [← List.append_assoc, ← List.append_assoc]
          exact List.perm_append_comm.append_right T
        | ok q =>
          obtain ⟨rd, outs⟩ := q
          rw [e2] at P
          intro v H' Z' z' lo s'
          have s' : SI ⟨X.K, noT G⟩ Z' H' ((.tr rd v :: (trs outs (sel m (vs ++ dvs)) ++ (envL σ ρ1 ++ T))) ++ tabs ⟨X.K, G⟩) := by
            rw [List.cons_append, List.append_assoc]; exact s'
          have s' := SI_n.mp s'
          rw [hsel] at lo s'
          refine P v H' Z' z' (fun z => (Bool.false_ne_true z).elim) (put_ok r lo ⟨S1.ok, s'.perm ?_⟩)
          have p1 : (It.tr rd v :: (trs outs (sel (mask as) vs) ++ (envL σ ρ1 ++ T))).Perm (It.tr rd v :: (envL σ ρ1 ++ (trs outs (sel (mask as) vs) ++ T))) := by
            refine List.Perm.cons _ ?_
            rw [← List.append_assoc, ← List.append_assoc]
            exact List.perm_append_comm.append_right T
          refine p1.trans ?_
          refine (List.perm_middle (l₁ := envL σ ρ1)).symm.trans ?_
          exact (List.perm_middle (l₁ := trs outs (sel (mask as) vs))).symm.append_left _
  · exact P.elim
theorem dCallW_post {b1 : Bool} {m : List Bool} {dds : List D} {F : List D → FR} {g : Env → R Env (List Ag × Env)} {σ : Sg} {H Z : Hp} {ρ : Env} {T : List It} {Q : VK} {dvs : List V} (tk : Takes X W) (hd : ∀ Z H, Rps ⟨X.K, G⟩ Z H dds dvs [])
    (P : EPost ⟨X.K, G⟩ false Z H σ T W Q (dCallW m dds F g ρ)) : APost ⟨X.K, G⟩ b1 Z H σ T W (fun vs H1 => spT ⟨X.K, noT G⟩ m F (vs ++ dvs) H1 Q (fun c d H' => W c d σ H')) (g ρ) := by
  unfold dCallW at P
  cases e1 : g ρ with
  | stuck => rw [e1] at P; exact P
  | exc c fs ρ' => rw [e1] at P; exact P
  | ok p =>
    obtain ⟨as, ρ1⟩ := p
    rw [e1] at P
    intro vs L H1 Z1 z1 h1 rL S1
    exact callW_end (H0 := H1) tk rfl hd rL S1 (EPost.of (b1 := false) (b2 := false) P z1 fun z => (Bool.false_ne_true z).elim)
theorem ev_callW {G1 : Nat → Addr} {x : Str} {k : Nat} {m : List Bool} {dds : List D} {F : List D → FR} (O : XOk X W) (C : Fk X.prog X.w ⟨X.K, G1⟩ X.mg X.base k x m dds F) (hr : Room k X.A) (hg : Gl X x) {b1 : Bool} {g : Env → R Env (List Ag × Env)} (ha : Ax X G W b1 (e :: es) g)
    (hdb : (x == ("__debug__" : Str)) = false := by decide) (he : starEach (e :: es) X.env = (false, eval e X.env) :: starEach es X.env := by rfl)
    (hpl : (backTo pos (starEach es X.env)).any (·.1) = false := by rfl)
    (hG : noT G = G1 := by first | rfl | exact noT_noT) : Ev X G W false (.Call (.Name x p) (e :: es) [] pos) (dCallW m dds F g) := by
  subst hG
  refine ⟨fun z => (Bool.false_ne_true z).elim, fun σ H Z ρ T Q S P pins s I => ?_⟩
  obtain ⟨f, fd, ps, ds, dvs, hF, hm, hk, hB, hv, hd⟩ := C.ex
  simp only [Rps_n] at hd
  refine wpAny_Call_Name_kw (ld_glob I hg hm ?_ hdb)
  refine PySem.W.callWith_K (h₀ := X.base) I.ok.mod.kin hk (thn (ha.run σ H Z ρ T _ S (dCallW_post O.tk hd P) pos pins s I) fun us s1 ⟨vs, H1, I1, r, q⟩ => ⟨I1.kIn, ?_⟩) he hpl
  exact run_fnS hF hr hB hv I1 r q fun e s' hx => O.tk e s' (XE.of_call I1 (fun _ _ _ h => h) hx)
end
section
variable {Q : D × Env → Prop} {E : XQ Env} (t : Tag Q) (u : Tag E) (ρ : Env)
theorem wp_dCallW (m : List Bool) (dds : List D) (S : List D → FR) (g : Env → R Env (List Ag × Env)) : Wp (dCallW m dds S g ρ) Q E t u = Wp (g ρ) (fun p => Wp (callW m dds S p.1 p.2) Q E .mk .mk) E .mk .mk := by
  show Wp ((g ρ).bind fun p => callW m dds S p.1 p.2) Q E t u = _
  rw [wp_bind]
theorem wp_callW (m : List Bool) (dds : List D) (S : List D → FR) (as : List Ag) : Wp (callW m dds S as ρ) Q E t u = Gd (mask as ++ dds.map (fun _ => false) = m) (Op (fillW as ρ) (fun p => Wp (S (p.1 ++ dds)) (fun r => Nm (putA as r.2 p.2) (fun ρ2 => Q (r.1, ρ2)) .mk) (fun c fs os => E c fs (putA as os p.2)) .mk .mk) .mk) .mk := by
  unfold callW
  by_cases h : mask as ++ dds.map (fun _ => false) = m
  · rw [if_pos h, gd_of h]
    cases fillW as ρ with
    | none => rfl
    | some p =>
      obtain ⟨ds, ρ1⟩ := p
      show Wp (match S (ds ++ dds) with | .ok (r, outs) => R.ok (r, putA as outs ρ1) | .exc c fs outs => .exc c fs (putA as outs ρ1) | .stuck => .stuck) Q E t u = Wp (S (ds ++ dds)) _ _ .mk .mk
      cases S (ds ++ dds) <;> rfl
  · rw [if_neg h]; exact propext ⟨fun z => z.elim, fun z => h z.1⟩
end
section
variable {Q : List D × Env → Prop}
theorem op_fillW_nil (ρ : Env) (t : Tag Q) : Op (fillW [] ρ) Q t = Q ([], ρ) := propext ⟨fun h => h, fun h => h⟩
theorem op_fillW_v (d : D) (r : List Ag) (ρ : Env) (t : Tag Q) : Op (fillW (.v d :: r) ρ) Q t = Op (fillW r ρ) (fun p => Q (d :: p.1, p.2)) .mk := by
  show Op ((fillW r ρ).map _) Q t = _
  cases fillW r ρ <;> rfl
theorem op_fillW_m (i : Nat) (r : List Ag) (ρ : Env) (t : Tag Q) : Op (fillW (.m i :: r) ρ) Q t = Op (gVar i ρ) (fun d => Op (fillW r (ρ.set i none)) (fun p => Q (d :: p.1, p.2)) .mk) .mk := by
  show Op (match gVar i ρ with | some d => (fillW r (ρ.set i none)).map fun p => (d :: p.1, p.2) | none => none) Q t = _
  cases gVar i ρ with
  | none => rfl
  | some d =>
    show Op ((fillW r (ρ.set i none)).map _) Q t = Op (fillW r (ρ.set i none)) (fun p => Q (d :: p.1, p.2)) .mk
    cases fillW r (ρ.set i none) <;> rfl
end
end Tw

set_option maxRecDepth 100000
namespace Tw
open PySem PySem.Spec L2
/-! ### x.append((e, a, b)) with a, b moved, and their lengths behind it: s += len(b) - len(a) -/
abbrev rLenQ (X : Cx) : List V → Hp → VK → Prop := fun xs H Q => ∃ x n, xs = [x] ∧ LenV X.K x H n ∧ Q (.int n) H
def sAppLen (f s n1 n2 : Nat) (g0 : Env → Option D) : Env → R Env Out := fun ρ =>
  match gVar f ρ, gVar n1 ρ, gVar n2 ρ, g0 ρ, gVar s ρ with
  | some (.nd true .lst F), some (.nd true .lst A), some (.nd true .lst B), some d0, some (.int k) =>
    if isFrz d0 = true ∧ F.length < 1000000 then .ok (.nx ((((ρ.set n1 none).set n2 none).set f (some (.nd true .lst (F ++ [.tup [d0, .nd true .lst A, .nd true .lst B]])))).set s (some (.int (k + ((B.length : Int) - (A.length : Int))))))) else .stuck
  | _, _, _, _, _ => .stuck
section
variable {X : Cx} {G : Nat → Addr} {W : WX} {fx : List Nat} {K : Ct} {Z Z' H H' : Hp} {σ : Sg} {ρ : Env}
theorem SI.hold {L : List It} {p : Addr} {vs : List V} (s : SI K Z H L) (hp : H p = none) : Same Z (upd Z p (.tup vs)) ∧ SI K (upd Z p (.tup vs)) (upd H p (.tup vs)) L := by
  have := SI.newT (ds := []) (vs := []) (L := L) (p := p) rfl s hp
  obtain ⟨zh, fp, h, n, q⟩ := s
  have ne : ∀ {b o}, H b = some o → b ≠ p := fun e x => by rw [x, hp] at e; cases e
  have hz : Same Z (upd Z p (.tup vs)) := fun b u e => by rw [upd_ne (ne (zh _ _ e))]; exact e
  refine ⟨hz, fun b u e => ?_, fp, h.keep hz fun b hb u e => by rw [upd_ne (ne e)]; exact e, n, fun b hb => ?_⟩
  · by_cases hb : b = p
    · subst hb; rw [upd_same] at e ⊢; exact e
    · rw [upd_ne hb] at e ⊢; exact zh _ _ e
  · obtain ⟨o, e⟩ := h.there b hb
    rw [upd_ne (ne e)]
    exact q b hb
theorem bx_appLen {f s n1 n2 : Nat} {e0 c e2 : Expr} {nm : Str} {pos' ep ap : Pos} {g0 : Env → Option D}
    (hE : PE X c (tBM X.K "list" rAppend (tVar f) (tCons (tTup (tCons (RunE X e0) (tCons (tVar n1) (tCons (tVar n2) tNil)))) tNil))) (h0 : Bo X G e0 g0)
    (hA : PE X e2 (tOp (rI0 fun i j => .int (i - j)) (tCB (rLenQ X) (tCons (tVar n2) tNil)) (tCB (rLenQ X) (tCons (tVar n1) tNil))))
    (hN : X.N.Nodup) (hi : X.N[s]? = some nm) (hx : Loc X.env.scope nm) (hF : s ∉ fx) (hd : (f ≠ n1 ∧ f ≠ n2 ∧ n1 ≠ n2 ∧ f ≠ s ∧ s ≠ n1 ∧ s ≠ n2))
    (hsw : swapsWith c none ep.line X.env = pure false := by rfl)
    (hf : X.fn nm = true ∨ X.env.scope.names.lookup nm = some .local := by first | exact .inl rfl | exact .inr rfl | assumption) :
    Bx X G W fx [.Expr c ep, .AugAssign (.Name nm pos') .Add e2 ap] (sAppLen f s n1 n2 g0) := by
  refine ⟨fun σ H Z ρ T En S P => toB (pss_cons (ps_expr hE hsw) (pss_one (ps_aug hN hi hx hA ip_add hf))) ?_⟩
  unfold sAppLen at P
  split at P
  rotate_left
  · exact P.elim
  rename_i F A B d0 k q1 q2 q3 q4 q5
  split at P
  rotate_left
  · exact P.elim
  rename_i hc
  obtain ⟨hfz, hlt⟩ := hc
  obtain ⟨d1, d2, d3, d4, d5, d6⟩ := hd
  have q1 := gVar_some q1
  have q2 := gVar_some q2
  have q3 := gVar_some q3
  have q5 := gVar_some q5
  obtain ⟨vf, hvf, S1⟩ := S.take q1
  obtain ⟨fpf, rf⟩ := S1.rp
  refine ⟨vf, hvf, lst_ref S.si.zh rf, ?_⟩
  refine h0.run σ H Z ρ T _ d0 S q4 fun v0 H1 Z1 f0 z1 h1 S1 r0 => ?_
  have := r0.isFrz hfz
  subst this
  obtain ⟨va, hva, Sa1⟩ := S1.take q2
  have q3' : (ρ.set n1 none)[n2]? = some (some (.nd true .lst B)) := by rw [List.getElem?_set_ne d3]; exact q3
  obtain ⟨vb, hvb, Sa2⟩ := Sa1.take q3'
  have q1' : ((ρ.set n1 none).set n2 none)[f]? = some (some (.nd true .lst F)) := by rw [List.getElem?_set_ne d2.symm, List.getElem?_set_ne d1.symm]; exact q1
  obtain ⟨vf', hvf', Sa3⟩ := Sa2.take q1'
  rw [hvf] at hvf'
  cases hvf'
  obtain ⟨a, vs, rfl, lv, Sa4⟩ := Sa3.opn
  refine ⟨va, hva, vb, hvb, by show (3 : Nat) ≤ sizeLine; rw [sizeLine_eq]; decide, fun p hp => ?_⟩
  obtain ⟨z2, s5⟩ := Sa4.si.hold (vs := [v0, va, vb]) hp
  have S5 : Sa ⟨X.K, G⟩ (upd Z1 p (.tup [v0, va, vb])) (upd H1 p (.tup [v0, va, vb])) σ (((ρ.set n1 none).set n2 none).set f none) _ := ⟨Sa4.ok, s5⟩
  have cl := S5.front.cell
  obtain ⟨own, cl⟩ := cl
  refine ⟨a, vs, .ref p, rfl, rfl, cl.1, ?_, ?_⟩
  · rw [sizeLine_eq]; omega
  have s6 := S5.front.write (o := .lst (vs ++ [.ref p])) (k' := .lst) (vs' := vs ++ [.ref p]) fun own c => ⟨upd_same, c.2⟩
  have S6 : Sa ⟨X.K, G⟩ _ _ σ (((ρ.set n1 none).set n2 none).set f none) _ := Sa.of_front Sa4.ok s6
  generalize hH6 : upd (upd H1 p (.tup [v0, va, vb])) a (.lst (vs ++ [.ref p])) = H6 at S6
  have hsq : upd Z1 p (.tup [v0, va, vb]) p = some (.tup [v0, va, vb]) := upd_same
  generalize hZ6 : upd Z1 p (.tup [v0, va, vb]) = Z6 at S6 z2 hsq
  -- the second statement
  obtain ⟨vk, fk, hvk, rk⟩ := Sa4.view (i := s) (d := .int k) (by rw [List.getElem?_set_ne d4, List.getElem?_set_ne d6.symm, List.getElem?_set_ne d5.symm]; exact q5)
  obtain ⟨rfl, _⟩ := rk
  have p7 : (It.cl .lst a (vs ++ [.ref p]) :: (trs F vs ++ (.tr (.nd true .lst B) vb :: .tr (.nd true .lst A) va :: T))).Perm (.tr (.nd true .lst B) vb :: .tr (.nd true .lst A) va :: (It.cl .lst a (vs ++ [.ref p]) :: (trs F vs ++ T))) := by
    refine (List.Perm.cons _ (List.perm_middle.trans (List.Perm.cons _ List.perm_middle))).trans ?_
    exact (List.Perm.swap _ _ _).trans (List.Perm.cons _ (List.Perm.swap _ _ _))
  have S7 := S6.perm p7
  have S8 := S7.perm (List.Perm.swap _ _ _)
  have lenOf : ∀ {x : List D} {v : V} {L : List It}, Sa ⟨X.K, G⟩ Z6 H6 σ (((ρ.set n1 none).set n2 none).set f none) (.tr (.nd true .lst x) v :: L) → LenV X.K v H6 x.length := fun S => by
    obtain ⟨fp, r⟩ := S.rp
    obtain ⟨l, ws, f', rfl, s, r⟩ := r.lst_any S.si.zh
    exact .inl ⟨ws, SqL.of s, r.length⟩
  refine ⟨.int k, hvk, vb, hvb, vb, _, rfl, lenOf S7, va, hva, va, _, rfl, lenOf S8, _, _, rfl, rfl, k, _, rfl, rfl, ?_⟩
  have r0' : Rp ⟨X.K, G⟩ Z6 H6 d0 v0 [] := r0.keep z2 fun b hb => by simp at hb
  have si9 : SI ⟨X.K, G⟩ Z6 H6 (trs [d0, .nd true .lst A, .nd true .lst B] [v0, va, vb] ++ (It.cl .lst a (vs ++ [.ref p]) :: (trs F vs ++ (envL σ (((ρ.set n1 none).set n2 none).set f none) ++ T)))) := by
    refine SI.add ?_ r0'
    refine S8.si.perm ?_
    refine (List.perm_middle.trans (List.Perm.cons _ (List.perm_middle.trans (List.Perm.cons _ (List.perm_middle.trans (List.Perm.cons _ ?_))))))
    rw [← List.append_assoc, ← List.append_assoc]
    exact List.perm_append_comm.append_right T
  have si10 := SI.totup (a := p) (.inl (.inl hsq)) rfl si9
  have si11 : SI ⟨X.K, G⟩ Z6 H6 (It.cl .lst a (vs ++ [.ref p]) :: (trs (F ++ [.tup [d0, .nd true .lst A, .nd true .lst B]]) (vs ++ [.ref p]) ++ (envL σ (((ρ.set n1 none).set n2 none).set f none) ++ T))) := by
    rw [trs_snoc lv, List.append_assoc]
    exact si10.perm ((List.Perm.swap _ _ _).trans (List.Perm.cons _ List.perm_middle.symm))
  have S12 : Sa ⟨X.K, G⟩ Z6 H6 σ (((ρ.set n1 none).set n2 none).set f none) (.tr (.nd true .lst (F ++ [.tup [d0, .nd true .lst A, .nd true .lst B]])) (.ref a) :: T) := Sa.of_front S6.ok (SI.cls (by simp [lv]) si11)
  have S13 := S12.put' hvf
  rw [List.set_set] at S13
  have hl : s < σ.length := (List.getElem?_eq_some_iff.mp hvk).1
  have S14 : Sa ⟨X.K, G⟩ Z6 H6 σ _ (.tr (.int (k + ((B.length : Int) - (A.length : Int)))) (.int (k + ((B.length : Int) - (A.length : Int)))) :: T) := Sa.of_front S13.ok (S13.si.add ⟨rfl, rfl⟩)
  exact P _ H6 Z6 (z1.trans z2) (.set hF) (S14.put hl)
end
end Tw

set_option maxRecDepth 100000
namespace Tw
open PySem PySem.Spec PyProof.Rows L2
/-! ### a comprehension that eats the owned list that it walks -/
def dCompC (own : List Nat) (f : Env → R Env (D × Env)) (w : D → Env → Option Env) (t : Env → R Env (Bool × Env)) (h : Env → R Env (D × Env)) : Env → R Env (D × Env) := fun ρ => (f ρ).bind fun q => match q.1 with
  | .nd true .lst ds => if ownOk q.2 own = true ∧ ds.length ≤ lim then (compL own w t h ds (wipeE q.2 own) []).bind fun r => .ok (.lst true r.1, restE q.2 r.2 own) else .stuck
  | _ => .stuck
def LcPostC (K : Ct) (Z : Hp) (σ : Sg) (own : List Nat) (T : List It) (D : Addr) (Q : Hp → Prop) : R Env (List Tw.D × Env) → Prop
  | .ok (acc, ρ') => ∀ vs H' Z', Same Z Z' → acc.length = vs.length → Sa K Z' H' (L2.wipe σ own) ρ' (.cl .lst D vs :: (trs acc vs ++ T)) → Q H'
  | _ => False
section
variable {X : Cx} {G : Nat → Addr} {W : WX} {tg iter elt : Expr} {ifs : List Expr} {pos : Pos} {K : Ct} {Z H : Hp}
theorem lcC_run {own : List Nat} {b2 b3 : Bool} {w : D → Env → Option Env} {t : Env → R Env (Bool × Env)} {h : Env → R Env (D × Env)} {tt : TT} {te : TE} {g : TG} {ds : List D} {σ : Sg} {H1 Z1 : Hp} {ρ : Env} {T : List It} {D a : Addr} {us : List V} {Q : Hp → Prop} {n : Nat} (hn : σ.length = n)
    (hg : ∀ σ' H Z ρ T d v ρ' (Q : Sg → Hp → Prop), Sa K Z H σ' ρ (.tr d v :: T) → w d ρ = some ρ' → (∀ σ2, Fx (others n own) σ' σ2 → Sa K Z H σ2 ρ' T → Q σ2 H) → g v σ' H Q)
    (ht : ∀ σ H Z ρ T Q, Sa K Z H σ ρ T → TPost K b2 Z H σ T W0 Q (t ρ) → tt σ H Q)
    (he : ∀ σ H Z ρ T Q, Sa K Z H σ ρ T → EPost K b3 Z H σ T W0 Q (h ρ) → te σ H Q)
    (hl : ds.length ≤ sizeLine) (lu : ds.length = us.length) (S : Sa K Z1 H1 (L2.wipe σ own) ρ (.cl .lst D [] :: (.cl .lst a us :: (trs ds us ++ T)))) (P : LcPostC K Z1 σ own T D Q (compL own w t h ds ρ [])) :
    ∃ Wv : Nat → Nat → Hp → Prop, (∃ m, Wv 0 m H1) ∧ ∀ i m H, Wv i m H →
      ((Itl K.K a).stop i H ∧ Q H) ∨ ((Itl K.K a).go i H ∧ ∃ Nx : Hp → Prop, (∀ H', Nx H' → ∃ m', m' < m ∧ Wv (i + 1) m' H') ∧ ∀ x H', (Itl K.K a).yld i H x H' → g x (L2.wipe σ own) H' fun σ2 H2 => L2.wipe σ2 own = L2.wipe σ own ∧ tt σ2 H2 fun b H3 =>
        if b = true then te σ2 H3 fun y H4 => ∃ acc, H4 D = some (.lst acc) ∧ acc.length < sizeLine ∧ Nx (upd H4 D (.lst (acc ++ [y]))) else Nx H3) := by
  have seq : ∀ {Z' H' ρ' acc vs L}, Sa K Z' H' (L2.wipe σ own) ρ' (.cl .lst D vs :: (trs acc vs ++ (.cl .lst a us :: L))) → SqL K.K H' a us := fun {Z' H' ρ' acc vs L} S => by
    have S := S.drop
    have S : Sa K Z' H' (L2.wipe σ own) ρ' (.cl .lst a us :: L) := Sa.dropL S
    obtain ⟨own, c⟩ := S.front.cell
    exact SqL.of c.1
  refine ⟨fun i m H => m = ds.length - i ∧ i ≤ ds.length ∧ ∃ Z' ρ' acc vs, Same Z1 Z' ∧ acc.length = vs.length ∧ acc.length ≤ i ∧ Sa K Z' H (L2.wipe σ own) ρ' (.cl .lst D vs :: (trs acc vs ++ (.cl .lst a us :: (trs (ds.drop i) (us.drop i) ++ T)))) ∧ LcPostC K Z' σ own T D Q (compL own w t h (ds.drop i) ρ' acc),
    ⟨ds.length, rfl, Nat.zero_le _, Z1, ρ, [], [], Same.refl _, rfl, Nat.le_refl _, S, P⟩, ?_⟩
  rintro i m H ⟨rfl, hi, Z', ρ', acc, vs, z', lv, la, S', P'⟩
  by_cases hlt : i < ds.length
  · have hlt2 : i < us.length := by omega
    have ed : ds.drop i = ds[i] :: ds.drop (i + 1) := List.drop_eq_getElem_cons hlt
    rw [ed] at P'
    unfold compL at P'
    refine .inr ⟨⟨us, us[i], seq S', List.getElem?_eq_getElem hlt2⟩, fun H2 => ∃ Z2 ρ2 acc2 vs2, Same Z' Z2 ∧ acc2.length = vs2.length ∧ acc2.length ≤ i + 1 ∧ Sa K Z2 H2 (L2.wipe σ own) ρ2 (.cl .lst D vs2 :: (trs acc2 vs2 ++ (.cl .lst a us :: (trs (ds.drop (i + 1)) (us.drop (i + 1)) ++ T)))) ∧ LcPostC K Z2 σ own T D Q (compL own w t h (ds.drop (i + 1)) ρ2 acc2), ?_, ?_⟩
    · rintro H2 ⟨Z2, ρ2, acc2, vs2, z2, l2, la2, S2, P2⟩
      exact ⟨ds.length - (i + 1), by omega, rfl, hlt, Z2, ρ2, acc2, vs2, z'.trans z2, l2, la2, S2, P2⟩
    · rintro x H2 ⟨rfl, hy⟩
      have ex := hy us (seq S')
      rw [List.getElem?_eq_getElem hlt2] at ex
      cases ex
      rw [trs_drop hlt hlt2] at S'
      generalize hM : trs (ds.drop (i + 1)) (us.drop (i + 1)) ++ T = M at *
      have S' : Sa K Z' H2 (L2.wipe σ own) ρ' (.cl .lst D vs :: (trs acc vs ++ (.cl .lst a us :: (.tr ds[i] us[i] :: M)))) := by rw [← hM]; exact S'
      have S'' : Sa K Z' H2 (L2.wipe σ own) ρ' (.tr ds[i] us[i] :: (.cl .lst D vs :: (trs acc vs ++ (.cl .lst a us :: M)))) := S'.perm (by
        refine (List.Perm.cons _ ((List.Perm.append_left _ (List.Perm.swap _ _ _)).trans List.perm_middle)).trans (List.Perm.swap _ _ _))
      cases e1 : w ds[i] ρ' with
      | none => rw [e1] at P'; exact P'.elim
      | some ρ1 =>
        rw [e1] at P'
        simp only at P'
        refine hg _ H2 Z' ρ' _ ds[i] us[i] ρ1 _ S'' e1 fun σ2 f2 S2 => ⟨wipe_others hn f2, ?_⟩
        have hw := wipe_others hn f2
        have pw : ∀ {Z3 : Hp} {r : R Env (List Tw.D × Env)}, LcPostC K Z' σ own T D Q r → Same Z' Z3 → LcPostC K Z3 σ own T D Q r := by
          intro Z3 r pr zz
          cases r with
          | ok q => exact fun vs H' Z4 z4 => pr vs H' Z4 (zz.trans z4)
          | _ => exact pr
        refine ht σ2 H2 Z' ρ1 _ _ S2 ?_
        cases e2 : t ρ1 with
        | stuck => rw [e2] at P'; exact P'.elim
        | exc c fs ρ' => rw [e2] at P'; exact P'.elim
        | ok r =>
          obtain ⟨k, ρ2⟩ := r
          rw [e2] at P'
          intro H3 Z3 z3 h3 S3
          cases k with
          | false =>
            rw [if_neg Bool.false_ne_true]
            simp only at P'
            refine ⟨Z3, wipeE ρ2 own, acc, vs, z3, lv, by omega, ?_, pw P' z3⟩
            have := S3.wipe own
            rw [hw] at this
            exact this
          | true =>
            rw [if_pos rfl]
            simp only at P'
            refine he σ2 H3 Z3 ρ2 _ _ S3 ?_
            cases e3 : h ρ2 with
            | stuck => rw [e3] at P'; exact P'.elim
            | exc c fs ρ' => rw [e3] at P'; exact P'.elim
            | ok r =>
              obtain ⟨y, ρ3⟩ := r
              rw [e3] at P'
              simp only at P'
              intro u H4 Z4 z4 h4 S4
              have S5 := S4.wipe own
              rw [hw] at S5
              have S5 : Sa K Z4 H4 (L2.wipe σ own) (wipeE ρ3 own) (.cl .lst D vs :: (.tr y u :: (trs acc vs ++ (.cl .lst a us :: M)))) := S5.perm (List.Perm.swap _ _ _)
              have s5 := S5.front
              obtain ⟨ownc, hc⟩ := s5.cell
              have hcell := hc.1
              have lv' : vs.length ≤ i := by rw [← lv]; exact la
              refine ⟨vs, hcell, by omega, Z4, wipeE ρ3 own, acc ++ [y], vs ++ [u], z3.trans z4, by simp [lv], by simp; omega, ?_, pw P' (z3.trans z4)⟩
              have s6 := s5.write (o := .lst (vs ++ [u])) (k' := .lst) (vs' := vs ++ [u]) fun own c => ⟨upd_same, c.2⟩
              have S6 := Sa.of_front S5.ok s6
              rw [trs_snoc lv]
              refine S6.perm (List.Perm.cons _ ?_)
              rw [List.append_assoc]
              exact List.perm_middle.symm
  · have e : i = ds.length := by omega
    subst e
    rw [List.drop_length] at P' S'
    refine .inl ⟨⟨us, seq S', by omega⟩, P' vs H Z' (Same.refl _) lv (S'.perm (T' := .cl .lst a us :: (.cl .lst D vs :: (trs acc vs ++ T))) ?_).drop⟩
    have : trs ([] : List Tw.D) (us.drop ds.length) = [] := rfl
    rw [this]
    exact (List.Perm.cons _ List.perm_middle).trans (List.Perm.swap _ _ _)
theorem comp_tlcC {own : List (Str × Nat)} {scope : Scope} {b1 b2 b3 : Bool} {f : Env → R Env (D × Env)} {w : D → Env → Option Env} {t : Env → R Env (Bool × Env)} {h : Env → R Env (D × Env)}
    (hi : Ev X G W b1 iter f) (hg : BlkP X scope fun Y => Tg Y G (others X.N.length (own.map (·.2))) tg w) (ht : BlkP X scope fun Y => Txs Y G W0 b2 ifs t) (he : BlkP X scope fun Y => Ev Y G W0 b3 elt h)
    {σ : Sg} {H Z : Hp} {ρ : Env} {T : List It} {Q : VK} (hn : σ.length = X.N.length) (S : Sa ⟨X.K, G⟩ Z H σ ρ T) (P : EPost ⟨X.K, G⟩ false Z H σ T W Q (dCompC (own.map (·.2)) f w t h ρ)) :
    tLc (iList X.K (RunE X iter)) (gB X scope tg) (tB' X scope ifs) (eB X scope elt) (own.map (·.2)) σ H Q := by
  refine hi.run σ H Z ρ T _ S ?_
  unfold dCompC at P
  cases e1 : f ρ with
  | stuck => rw [e1] at P; exact P
  | exc c fs ρ' => rw [e1] at P; exact P
  | ok r =>
    obtain ⟨d, ρ1⟩ := r
    rw [e1] at P
    simp only [R.ok_bind] at P
    split at P
    · rename_i ds
      intro v H1 Z1 z1 _ S0
      obtain ⟨a, us, rfl, lu, S1⟩ := S0.opn
      have S1 : Sa ⟨X.K, G⟩ Z1 H1 σ ρ1 (.cl .lst a us :: (trs ds us ++ T)) := S1
      have hsq : SqL X.K H1 a us := by
        obtain ⟨own, c⟩ := S1.front.cell
        exact SqL.of c.1
      refine ⟨a, rfl, ⟨us, hsq⟩, fun D hD => ?_⟩
      split at P
      · rename_i hok
        have S2 := S1.wipe (own.map (·.2))
        have s2 : SI ⟨X.K, G⟩ Z1 (upd H1 D (.lst [])) (.tr (.lst true []) (.ref D) :: (envL (L2.wipe σ (own.map (·.2))) (wipeE ρ1 (own.map (·.2))) ++ (.cl .lst a us :: (trs ds us ++ T)))) := SI.newL (ds := []) (vs := []) rfl S2.si hD
        obtain ⟨a', vs, ea, lv, s3⟩ := s2.opn
        cases ea
        cases vs with
        | cons _ _ => cases lv
        | nil =>
          refine lcC_run (K := ⟨X.K, G⟩) (own := own.map (·.2)) (w := w) (t := t) (h := h) (b2 := b2) (b3 := b3) (ds := ds) (us := us) (a := a) (ρ := wipeE ρ1 (own.map (·.2))) (T := T) (Z1 := Z1) hn ?_ ?_ ?_ (lim_of hok.2) lu (.of_front S2.ok s3) ?_
          · intro σ' H Z ρ T d v ρ' Q S e q s H0 C cl fp
            exact (hg s H0 C cl fp).run σ' H Z ρ T d v ρ' Q S e q
          · intro σ H Z ρ T Q S P s H0 C cl fp
            exact (ht s H0 C cl fp).run σ H Z ρ T Q S P
          · intro σ H Z ρ T Q S P s H0 C cl fp
            exact (he s H0 C cl fp).run σ H Z ρ T Q S P
          · cases e2 : compL (own.map (·.2)) w t h ds (wipeE ρ1 (own.map (·.2))) [] with
            | stuck => rw [e2] at P; exact P
            | exc c fs ρ' =>
              exfalso
              have nox : ∀ {own : List Nat} {w : Tw.D → Env → Option Env} {t : Env → R Env (Bool × Env)} {h : Env → R Env (Tw.D × Env)} {ds : List Tw.D} {ρ : Env} {acc : List Tw.D}, compL own w t h ds ρ acc ≠ .exc c fs ρ' := by
                intro own w t h ds
                induction ds with
                | nil => intro ρ acc e; cases e
                | cons d ds ih =>
                  intro ρ acc e
                  unfold compL at e
                  split at e
                  · cases e
                  · split at e
                    · split at e
                      · exact ih e
                      · cases e
                    · exact ih e
                    · cases e
              exact nox e2
            | ok r =>
              obtain ⟨acc, ρ2⟩ := r
              rw [e2] at P
              simp only [R.ok_bind] at P
              intro vs H' Z' z' lv S'
              have hno := compL_q (fun i hi => wipe_none hi) e2
              have S4 := S'.unwipe hno
              have s5 : SI ⟨X.K, G⟩ Z' H' (.tr (.lst true acc) (.ref D) :: (envL σ ρ2 ++ T)) := by
                refine SI.cls lv (S4.front.perm (List.Perm.cons _ ?_))
                rw [← List.append_assoc, ← List.append_assoc]
                exact List.perm_append_comm.append_right T
              have S6 : Sa ⟨X.K, G⟩ Z' H' σ ρ2 (.tr (.lst true acc) (.ref D) :: T) := .of_front S4.ok s5
              exact P (.ref D) H' Z' (z1.trans z') (fun z => (Bool.false_ne_true z).elim) (Sa.rest S1 z' S6 hok.1)
      · exact P.elim
    · exact P.elim
theorem ev_compC (O : XOk X W) {own : List (Str × Nat)} {scope : Scope} {b1 b2 b3 : Bool} {f : Env → R Env (D × Env)} {w : D → Env → Option Env} {t : Env → R Env (Bool × Env)} {h : Env → R Env (D × Env)}
    (hi : Ev X G W b1 iter f) (ok : BlkOk X.N X.env.scope scope own) (hg : BlkP X scope fun Y => Tg Y G (others X.N.length (own.map (·.2))) tg w) (ht : BlkP X scope fun Y => Txs Y G W0 b2 ifs t) (he : BlkP X scope fun Y => Ev Y G W0 b3 elt h)
    (hs : ∀ x, foldedSetIterable iter X.env x = pure x := by intro _; rfl) : Ev X G W false (.ListComp elt [⟨tg, iter, ifs, 0⟩] scope pos) (dCompC (own.map (·.2)) f w t h) := by
  refine ⟨fun z => (Bool.false_ne_true z).elim, fun σ H Z ρ T Q S P pins s I => ?_⟩
  exact (pe_lc (g := gB X scope tg) (tt := tB' X scope ifs) (te := eB X scope elt) O.calm O.nd (pi_list peR) ok (fun s H C cl fp => ⟨fun pins s1 σ H1 v u Q I r h => h s H C cl fp pins s1 u I r⟩) (fun s H C cl fp => ⟨fun pins s1 σ H1 Q I h => h s H C cl fp pins s1 I⟩)
    (fun s H C cl fp => ⟨fun pins s1 σ H1 Q I h => h s H C cl fp pins s1 I⟩) hs).run pins s σ H Q I (comp_tlcC hi hg ht he I.len S P)
end
section
variable {Q : D × Env → Prop} {E : XQ Env} {ρ : Env}
theorem wp_dCompC (tq : Tag Q) (u : Tag E) (own : List Nat) (f : Env → R Env (D × Env)) (w : D → Env → Option Env) (t : Env → R Env (Bool × Env)) (h : Env → R Env (D × Env)) : Wp (dCompC own f w t h ρ) Q E tq u = Wp (f ρ) (fun q => OnL (some q.1) (fun ds => Gd (ownOk q.2 own = true ∧ ds.length ≤ lim) (Wp (compL own w t h ds (wipeE q.2 own) []) (fun r => Q (.lst true r.1, restE q.2 r.2 own)) E .mk .mk) .mk) .mk) E .mk .mk := by
  show Wp ((f ρ).bind _) Q E tq u = _
  rw [wp_bind]; refine wp_cg fun q => ?_
  obtain ⟨d, ρ1⟩ := q
  have key : ∀ ds : List D, Wp (if ownOk ρ1 own = true ∧ ds.length ≤ lim then (compL own w t h ds (wipeE ρ1 own) []).bind fun r => R.ok (D.lst true r.1, restE ρ1 r.2 own) else .stuck) Q E .mk .mk = Gd (ownOk ρ1 own = true ∧ ds.length ≤ lim) (Wp (compL own w t h ds (wipeE ρ1 own) []) (fun r => Q (.lst true r.1, restE ρ1 r.2 own)) E .mk .mk) .mk := fun ds => by
    by_cases z : ownOk ρ1 own = true ∧ ds.length ≤ lim
    · rw [if_pos z, gd_of z, wp_bind]; rfl
    · rw [if_neg z]; exact propext ⟨fun a => a.elim, fun a => z a.1⟩
  cases d with
  | nd m k ds => cases m <;> cases k <;> first | exact key ds | rfl
  | _ => rfl
end
end Tw
namespace Tw
section
variable {Q : Out → Prop} {E : XQ Env} {ρ : Env}
theorem onL_ex {o : Option D} {P : List D → Prop} {t : Tag P} (h : OnL o P t) : ∃ F, o = some (.nd true .lst F) ∧ P F := by
  unfold OnL at h
  split at h
  · exact ⟨_, rfl, h⟩
  · exact h.elim
theorem op_ex {α : Type} {o : Option α} {P : α → Prop} {t : Tag P} (h : Op o P t) : ∃ F, o = some F ∧ P F := by
  unfold Op at h
  split at h
  · exact ⟨_, rfl, h⟩
  · exact h.elim
theorem onI_ex {o : D} {P : Int → Prop} {t : Tag P} (h : OnI o P t) : ∃ k, o = .int k ∧ P k := by
  unfold OnI at h
  split at h
  · exact ⟨_, rfl, h⟩
  · exact h.elim
theorem wp_sAppLen (tq : Tag Q) (u : Tag E) (f s n1 n2 : Nat) (g0 : Env → Option D) : Wp (sAppLen f s n1 n2 g0 ρ) Q E tq u = OnL (gVar f ρ) (fun F => OnL (gVar n1 ρ) (fun A => OnL (gVar n2 ρ) (fun B => Op (g0 ρ) (fun d0 => Op (gVar s ρ) (fun k => OnI k (fun k => Gd (isFrz d0 = true ∧ F.length < 1000000) (Q (.nx ((((ρ.set n1 none).set n2 none).set f (some (.nd true .lst (F ++ [.tup [d0, .nd true .lst A, .nd true .lst B]])))).set s (some (.int (k + ((B.length : Int) - (A.length : Int)))))))) .mk) .mk) .mk) .mk) .mk) .mk) .mk := by
  show Wp (match gVar f ρ, gVar n1 ρ, gVar n2 ρ, g0 ρ, gVar s ρ with
  | some (.nd true .lst F), some (.nd true .lst A), some (.nd true .lst B), some d0, some (.int k) =>
    if isFrz d0 = true ∧ F.length < 1000000 then R.ok (Out.nx ((((ρ.set n1 none).set n2 none).set f (some (.nd true .lst (F ++ [.tup [d0, .nd true .lst A, .nd true .lst B]])))).set s (some (.int (k + ((B.length : Int) - (A.length : Int))))))) else .stuck
  | _, _, _, _, _ => .stuck) Q E tq u = _
  split
  · rename_i F A B d0 k e1 e2 e3 e4 e5
    rw [e1, e2, e3, e4, e5]
    show Wp (if isFrz d0 = true ∧ F.length < 1000000 then _ else _) Q E tq u = Gd (isFrz d0 = true ∧ F.length < 1000000) _ .mk
    by_cases z : isFrz d0 = true ∧ F.length < 1000000
    · rw [if_pos z, gd_of z]; rfl
    · rw [if_neg z]; exact propext ⟨fun a => a.elim, fun a => z a.1⟩
  · rename_i hn
    refine propext ⟨fun z => z.elim, fun z => ?_⟩
    obtain ⟨F, e1, z⟩ := onL_ex z
    obtain ⟨A, e2, z⟩ := onL_ex z
    obtain ⟨B, e3, z⟩ := onL_ex z
    obtain ⟨d0, e4, z⟩ := op_ex z
    obtain ⟨k0, e5, z⟩ := op_ex z
    obtain ⟨k, rfl, z⟩ := onI_ex z
    exact (hn F A B d0 k e1 e2 e3 e4 e5).elim
end
end Tw

set_option maxRecDepth 100000
namespace Tw
open PySem PySem.Spec L2
theorem _root_.L2.Room.units1 {k : Nat} {A : Around} (r : Room k A) : A.units + 1 < cLine := by have := r.un; omega
/-! ### == of lists of unlike lengths -/
def rEqLen (K : PySem.W.Frag) : R2 := fun x y H Q => ∃ (a b : Addr) (xs ys : List V), x = .ref a ∧ y = .ref b ∧ SqL K H a xs ∧ SqL K H b ys ∧ xs.length ≠ ys.length ∧ Q (.bl false) H
theorem op_eqLen {X : Cx} (hu : X.A.units < cLine) : OpR X (compareOp .Eq) (rEqLen X.K) := by
  intro pins s σ H x y v u Q I rx ry h
  obtain ⟨a, b, xs, ys, rfl, rfl, hx, hy, hl, q⟩ := h
  cases rx; cases ry
  obtain ⟨i1, r1, p1, z1⟩ := I.list hx
  obtain ⟨i2, r2, p2, z2⟩ := I.list hy
  have l1 := r1.length
  have l2 := r2.length
  exact SeqAt.eq_list_lengthsAt p1.isList p2.isList (by simp; omega) hu ⟨.bl false, H, I, rfl, q⟩
/-- == where the right side may be the empty list -/
def eqE : F2 := fun x y => match x, y with
  | .nd m .lst (d :: ds), .nd m' .lst [] => some (.bl false)
  | x, y => eqF x y
section
variable {X : Cx} {G : Nat → Addr} {W : WX} {fx : List Nat} {K : Ct} {Z Z' H H' : Hp} {σ : Sg} {ρ : Env} {a b c e : Expr} {pos : Pos} {L : List It}
abbrev rEqE (X : Cx) : R2 := fun x y H Q => rEq' X x y H Q ∨ rEqLen X.K x y H Q
theorem op_eqE (hu : X.A.units + 64 < cLine) : OpR X (compareOp .Eq) (rEqE X) := (op_eq' hu).or (op_eqLen (by omega))
theorem opF_eqE : OpF X G (rEqE X) eqE := by
  intro Z H x y v u fx fy d Q zh rx ry e q
  unfold eqE at e
  split at e
  · rename_i m d0 ds m'
    cases e
    obtain ⟨l, vs, f, rfl, s, r⟩ := rx.lst_any zh
    obtain ⟨l', vs', f', rfl, s', r'⟩ := ry.lst_any zh
    refine .inr ⟨l, l', vs, vs', rfl, rfl, SqL.of s, SqL.of s', ?_, q_bl q⟩
    have h1 := r.length
    have h2 := r'.length
    rw [← h1, ← h2]; simp
  · exact .inl (opF_eq Z H x y v u fx fy d Q zh rx ry e q)
/-! ### dict displays with texts for keys -/
theorem SI.newR {p : Addr} {o : HO} (s : SI K Z H L) (hp : H p = none) : SI K Z (upd H p o) (.raw p o :: L) := by
  obtain ⟨z, fp, h, n, q⟩ := s
  have ne : ∀ {b o}, H b = some o → b ≠ p := fun e x => by rw [x, hp] at e; cases e
  refine ⟨fun b u e => ?_, p :: fp, ⟨[p], fp, rfl, ⟨upd_same, rfl⟩, h.keep (Same.refl _) fun b hb u e => ?_⟩, List.nodup_cons.mpr ⟨fun hb => ?_, n⟩, fun b hb => ?_⟩
  · rw [upd_ne (ne (z _ _ e))]; exact z _ _ e
  · rw [upd_ne (ne e)]; exact e
  · obtain ⟨o, e⟩ := h.there p hb
    rw [hp] at e; cases e
  · rcases List.mem_cons.mp hb with rfl | hb
    · cases e : Z b with
      | none => rfl
      | some o => have := z _ _ e; rw [hp] at this; cases this
    · exact q b hb
theorem SI.raw_at {p : Addr} {o : HO} (s : SI K Z H (.raw p o :: L)) : H p = some o := by
  obtain ⟨z, fp, ⟨f1, f2, rfl, ⟨e, rfl⟩, h2⟩, n, q⟩ := s
  exact e
theorem SI.raw_cl {p : Addr} {o o' : HO} {k : Kd} {vs : List V} (s : SI K Z H (.raw p o :: L)) (c : Cell K (upd H p o') k p vs [p]) : SI K Z (upd H p o') (.cl k p vs :: L) := by
  obtain ⟨z, fp, ⟨f1, f2, rfl, ⟨e, rfl⟩, h2⟩, n, q⟩ := s
  have za : Z p = none := q p (by simp)
  refine ⟨fun b u e => ?_, [p] ++ f2, ⟨[p], f2, rfl, c, h2.keep (Same.refl _) fun b hb u e => ?_⟩, n, q⟩
  · rw [upd_ne fun z => by rw [z, za] at e; cases e]; exact z b u e
  · rw [upd_ne fun z => (List.nodup_append.mp n).2.2 p (by simp) b hb z.symm]; exact e
theorem mergeK_nil : ∀ (ks : List Key) (vs : List V) (acc : List (Key × V)), ks.Nodup → (∀ k ∈ ks, ∀ p ∈ acc, p.1 ≠ k) → mergeK acc (ks.zip vs) = acc ++ ks.zip vs
  | [], vs, acc, _, _ => by simp [mergeK]
  | k :: ks, [], acc, _, _ => by simp [mergeK]
  | k :: ks, v :: vs, acc, hn, ha => by
    obtain ⟨h1, h2⟩ := List.nodup_cons.mp hn
    have e : putK acc k v = acc ++ [(k, v)] := by
      unfold putK
      rw [if_neg]
      simp only [List.any_eq_true, decide_eq_true_eq, not_exists, not_and]
      intro p hp
      exact ha k List.mem_cons_self p hp
    show mergeK (putK acc k v) (ks.zip vs) = acc ++ (k, v) :: ks.zip vs
    rw [e, mergeK_nil ks vs _ h2 fun j hj p hp => ?_, List.append_assoc]; rfl
    rcases List.mem_append.mp hp with h | h
    · exact ha j (List.mem_cons_of_mem _ hj) p h
    · rw [List.mem_singleton.mp h]
      exact fun e => h1 (by rw [show k = j from e]; exact hj)
def PxPost (K : Ct) (Z : Hp) (σ : Sg) (T : List It) (W : WX) (ks : List (List Nat)) (Q : List (V × V) → Hp → Prop) : R Env (List D × Env) → Prop
  | .ok (ds, ρ') => ∀ vs H' Z', Same Z Z' → ds.length = vs.length → ds.length = ks.length → Sa K Z' H' σ ρ' (trs ds vs ++ T) → Q ((ks.map fun l => V.str (mkS l)).zip vs) H'
  | .exc c fs ρ' => XPost K Z σ T W c fs ρ'
  | .stuck => False
structure Px (X : Cx) (G : Nat → Addr) (W : WX) (pos : Pos) (keys : List (Option Expr)) (values : List Expr) (trs : List (TE × TE)) (ks : List (List Nat)) (g : Env → R Env (List D × Env)) : Prop where
  ok : PPs X pos keys values trs
  run : ∀ σ H Z ρ T Q, Sa ⟨X.K, G⟩ Z H σ ρ T → PxPost ⟨X.K, G⟩ Z σ T W ks Q (g ρ) → tPairs trs σ H Q
def xNil : Env → R Env (List D × Env) := fun ρ => .ok ([], ρ)
def xCons (f : Env → R Env (D × Env)) (g : Env → R Env (List D × Env)) : Env → R Env (List D × Env) := fun ρ => (f ρ).bind fun p => (g p.2).bind fun q => .ok (p.1 :: q.1, q.2)
theorem px_nil : Px X G W pos [] [] [] [] xNil := ⟨pps_nil, fun σ H Z ρ T Q S P => P [] H Z (Same.refl _) rfl rfl S⟩
theorem px_cons {v : Expr} {x : Str} {j} {p1 : Pos} {keys : List (Option Expr)} {values : List Expr} {ts : List (TE × TE)} {ks : List (List Nat)} {b1 : Bool} {f : Env → R Env (D × Env)} {g : Env → R Env (List D × Env)} (l : List Nat) (hx : x = mkS l) (hf : Ev X G W b1 v f) (hg : Px X G W pos keys values ts ks g) :
    Px X G W pos (some (.Constant (.str x) j p1) :: keys) (v :: values) ((tC (.str x), RunE X v) :: ts) (l :: ks) (xCons f g) := by
  refine ⟨pps_cons pe_str peR hg.ok, fun σ H Z ρ T Q S P => ?_⟩
  show tC (.str x) σ H _
  refine hf.run σ H Z ρ T _ S ?_
  unfold xCons at P
  cases e1 : f ρ with
  | stuck => rw [e1] at P; exact P
  | exc c fs ρ' => rw [e1] at P; exact P
  | ok p =>
    obtain ⟨d, ρ1⟩ := p
    rw [e1] at P
    simp only [R.ok_bind] at P
    intro w H1 Z1 z1 _ S1
    refine hg.run σ H1 Z1 ρ1 (.tr d w :: T) _ S1 ?_
    cases e2 : g ρ1 with
    | stuck => rw [e2] at P; exact P
    | exc c fs ρ' => rw [e2] at P; exact XPost.drop (XPost.of P z1)
    | ok q =>
      obtain ⟨ds, ρ2⟩ := q
      rw [e2] at P
      intro vs H2 Z2 z2 l1 l2 S2
      subst hx
      exact P (w :: vs) H2 Z2 (z1.trans z2) (by simp [l1]) (by simp [l2]) (S2.perm List.perm_middle)
def dDisp (ks : List (List Nat)) (g : Env → R Env (List D × Env)) : Env → R Env (D × Env) := fun ρ => (g ρ).bind fun q => .ok (.nd true (.dct (ks.map .inr)) q.1, q.2)
theorem ev_disp {keys : List (Option Expr)} {values : List Expr} {ts : List (TE × TE)} {ks : List (List Nat)} {g : Env → R Env (List D × Env)} (h : Px X G W pos keys values ts ks g) (hall : keys.all (·.isSome) = true) (hl : keys.length = values.length) (h0 : keys ≠ []) (h15 : keys.length ≤ 15) (hk : ks.length ≤ 15) (hn : ks.Nodup) :
    Ev X G W false (.Dict keys values pos) (dDisp ks g) := by
  refine ⟨fun z => (Bool.false_ne_true z).elim, fun σ H Z ρ T Q S P => toE (pe_disp h.ok hall hl h0 h15) fun p hp => ?_⟩
  have S0 : Sa ⟨X.K, G⟩ Z (upd H p (.dK [])) σ ρ (.raw p (.dK []) :: T) := Sa.of_front S.ok (SI.newR S.si hp)
  refine h.run σ _ Z ρ _ _ S0 ?_
  unfold dDisp at P
  cases e1 : g ρ with
  | stuck => rw [e1] at P; exact P
  | exc c fs ρ' => rw [e1] at P; exact XPost.drop P
  | ok q =>
    obtain ⟨ds, ρ1⟩ := q
    rw [e1] at P
    intro vs H1 Z1 z1 l1 l2 S1
    have lk : (ks.map fun l => (Sum.inr (mkS l) : Key)).length = ks.length := List.length_map ..
    have S2 := S1.perm (T' := .raw p (.dK []) :: (trs ds vs ++ T)) List.perm_middle
    have s2 := S2.front
    have nod : (ks.map fun l => (Sum.inr (mkS l) : Key)).Nodup := by
      rw [List.Nodup, List.pairwise_map]
      exact List.Pairwise.imp (fun h e => h (mkS_inj (Sum.inr.inj e))) hn
    refine ⟨s2.raw_at, (ks.map fun l => (Sum.inr (mkS l) : Key)).zip vs, ?_, ?_, ?_⟩
    · have : ∀ (ks : List (List Nat)) (vs : List V), (ks.map fun l => V.str (mkS l)).zip vs = ((ks.map fun l => (Sum.inr (mkS l) : Key)).zip vs).map fun kv => (kV kv.1, kv.2) := by
        intro ks
        induction ks with
        | nil => intro vs; rfl
        | cons k ks ih => intro vs; cases vs with
          | nil => rfl
          | cons v vs => exact congrArg ((V.str (mkS k), v) :: ·) (ih vs)
      exact this ks vs
    · rw [List.length_zip, lk]; omega
    · rw [mergeK_nil _ _ _ nod (fun _ _ _ h => by cases h), List.nil_append]
      have s3 := SI.raw_cl (o' := .dK ((ks.map fun l => (Sum.inr (mkS l) : Key)).zip vs)) (k := .dct (ks.map .inr)) (vs := vs) s2 ⟨by rw [List.length_map]; omega, by rw [upd_same, List.map_map]; rfl, rfl⟩
      have S3 := Sa.of_front S2.ok s3
      exact P (.ref p) _ Z1 z1 (fun z => (Bool.false_ne_true z).elim) (Sa.cls l1 S3)
/-! ### places within dicts -/
def ixK (l : List Nat) : List Ky → Option Nat
  | [] => none
  | k :: ks => if k = .inr l then some 0 else (ixK l ks).map (· + 1)
theorem ixK_get {l : List Nat} : ∀ {ks : List Ky} {vs : List V} {n : Nat}, ixK l ks = some n → ks.length = vs.length → n < vs.length ∧ valV ((ks.map mkK).zip vs) (mkK (.inr l)) = vs[n]?
  | [], _, _, h, _ => by cases h
  | k :: ks, [], _, _, h => by cases h
  | k :: ks, v :: vs, n, h, hl => by
    unfold ixK at h
    by_cases e : k = .inr l
    · rw [if_pos e] at h; cases h
      exact ⟨by simp, (valV_pos (by rw [e]))⟩
    · rw [if_neg e] at h
      cases e1 : ixK l ks with
      | none => rw [e1] at h; cases h
      | some m =>
        rw [e1] at h; cases h
        obtain ⟨h1, h2⟩ := ixK_get (vs := vs) e1 (by simpa using hl)
        exact ⟨by simpa using h1, (valV_neg (fun z => e (mkK_inj z))).trans h2⟩
def pKy (w : Env → Option (Nat × List Nat)) (l : List Nat) : Env → Option (Nat × List Nat) := fun ρ => (w ρ).bind fun iq => match atP ρ iq with
  | some (.nd true (.dct ks) ds) => if ks.length = ds.length then (ixK l ks).map fun n => (iq.1, iq.2 ++ [n]) else none
  | _ => none
theorem pl_ky {w : Env → Option (Nat × List Nat)} {x : Str} {j} {p1 : Pos} (l : List Nat) (hx : x = mkS l) (ha : Pl X G a w) (hs : PlainIx (.Constant (.str x) j p1)) : Pl X G (.Subscript a (.Constant (.str x) j p1) pos) (pKy w l) := by
  refine ⟨fun σ H Z ρ T Q i q S e0 k => toE (pe_ix ix_any peR pe_str hs) ?_⟩
  unfold pKy at e0
  simp only [Option.bind_eq_some_iff] at e0
  obtain ⟨iq, e1, e3⟩ := e0
  obtain ⟨i0, q0⟩ := iq
  refine RunE.know (G := G) (ha.run σ H Z ρ T _ i0 q0 S e1 fun v H1 Z1 z1 h1 S1 a1 hk => ?_)
  split at e3
  · rename_i ks ds ex
    split at e3
    · rename_i hlen
      cases en : ixK l ks with
      | none => rw [en] at e3; cases e3
      | some n =>
        rw [en] at e3
        cases e3
        subst hx
        obtain ⟨d, vr, f, x1, x2, x3, x4, x5⟩ := at_read hk S1 a1 ex
        obtain ⟨lp, vs, own, fp', rfl, c, r, _⟩ := x5
        have lv := r.length
        obtain ⟨hn, hv⟩ := ixK_get (vs := vs) en (by omega)
        have hv2 : vs[n]? = some vs[n] := List.getElem?_eq_getElem hn
        have hn2 : n < ds.length := by omega
        refine .inr ⟨lp, _, mkK (.inr l), vs[n], rfl, rfl, c.2.1, by rw [hv, hv2], k _ H1 Z1 z1 h1 S1 ⟨d, vr, x1, x2, ?_⟩⟩
        exact Wk.snoc x3 x4 (y := ds[n]) (by show (ds[n]?).bind (fun x => getP x []) = _; rw [List.getElem?_eq_getElem hn2]; show getP ds[n] [] = _; cases ds[n] <;> rfl) ⟨lp, vs, own, ds[n], _, rfl, c, List.getElem?_eq_getElem hn2, hv2, rfl⟩
    · cases e3
  · cases e3
def wKy (w : Env → Option (Nat × List Nat)) (l : List Nat) : D → Env → Option Env := fun x ρ => (w ρ).bind fun iq => match atP ρ iq with
  | some (.nd true (.dct ks) ds) => if ks.length = ds.length ∧ ks.length < 1000 ∧ ks.Nodup then (ixK l ks).map fun n => putP ρ iq (.nd true (.dct ks) (ds.set n x)) else none
  | _ => none
theorem putK_at {l : List Nat} : ∀ {ks : List Ky} {vs : List V} {n : Nat} {v : V}, ixK l ks = some n → ks.length = vs.length → ks.Nodup → ((ks.map mkK).zip vs).map (fun kv => if kv.1 = mkK (.inr l) then (kv.1, v) else kv) = (ks.map mkK).zip (vs.set n v)
  | [], _, _, _, h, _, _ => by cases h
  | k :: ks, [], _, _, _, h, _ => by cases h
  | k :: ks, u :: vs, n, v, h, hl, hn => by
    obtain ⟨n1, n2⟩ := List.nodup_cons.mp hn
    unfold ixK at h
    by_cases e : k = .inr l
    · rw [if_pos e] at h; cases h
      subst e
      show (if mkK (.inr l) = mkK (.inr l) then (mkK (.inr l), v) else (mkK (.inr l), u)) :: _ = (mkK (.inr l), v) :: (ks.map mkK).zip vs
      rw [if_pos rfl]
      congr 1
      conv => rhs; rw [← List.map_id ((ks.map mkK).zip vs)]
      refine List.map_congr_left fun p hp => ?_
      have : p.1 ∈ ks.map mkK := (List.of_mem_zip hp).1
      obtain ⟨k', hk', e'⟩ := List.mem_map.mp this
      rw [if_neg fun z => n1 (by rw [← mkK_inj (e'.trans z)]; exact hk')]; rfl
    · rw [if_neg e] at h
      cases e1 : ixK l ks with
      | none => rw [e1] at h; cases h
      | some m =>
        rw [e1] at h; cases h
        have ih := putK_at (v := v) e1 (vs := vs) (by simpa using hl) n2
        show (if mkK k = mkK (.inr l) then (mkK k, v) else (mkK k, u)) :: _ = (mkK k, u) :: (ks.map mkK).zip (vs.set m v)
        rw [if_neg fun z => e (mkK_inj z), ← ih]; rfl
theorem has_key {l : List Nat} : ∀ {ks : List Ky} {vs : List V} {n : Nat}, ixK l ks = some n → ks.length = vs.length → ((ks.map mkK).zip vs).any (fun kv => decide (kv.1 = mkK (.inr l))) = true
  | [], _, _, h, _ => by cases h
  | k :: ks, [], _, _, h => by cases h
  | k :: ks, v :: vs, n, h, hl => by
    unfold ixK at h
    by_cases e : k = .inr l
    · subst e
      show (decide _ || _) = true
      rw [decide_eq_true rfl]; rfl
    · rw [if_neg e] at h
      cases e1 : ixK l ks with
      | none => rw [e1] at h; cases h
      | some m =>
        have ih := has_key (vs := vs) e1 (by simpa using hl)
        show (decide _ || List.any ((ks.map mkK).zip vs) _) = true
        rw [ih, Bool.or_true]
theorem at_nd (hk : Apart K H) {i : Nat} {p : List Nat} {v : V} {d : D} {kd : Kd} {ds : List D} {T : List It} (S : Sa K Z H σ ρ T) (a : At K Z H σ ρ i p v) (e : ρ[i]? = some (some d)) (g : getP d p = some (.nd true kd ds)) :
    ∃ l vs C, v = .ref l ∧ ds.length = vs.length ∧ SI K Z H (.cl kd l vs :: (trs ds vs ++ (C ++ T))) ∧
      ∀ Z' H' ds' vs' T', Same Z Z' → ds'.length = vs'.length → SI K Z' H' (.cl kd l vs' :: (trs ds' vs' ++ (C ++ T'))) → Sa K Z' H' σ (ρ.set i (some (setP d p (.nd true kd ds')))) T' := by
  obtain ⟨d', u, e', hu, w⟩ := a
  rw [e] at e'; cases e'
  obtain ⟨u', hu', S1⟩ := S.take e
  rw [hu] at hu'; cases hu'
  obtain ⟨x, C, g', s1, back⟩ := focus hk S1.front w
  rw [g] at g'; cases g'
  obtain ⟨l, vs, rfl, lv, s2⟩ := s1.opn
  refine ⟨l, vs, C ++ envL σ (ρ.set i none), rfl, lv, by rw [List.append_assoc]; exact s2, fun Z' H' ds' vs' T' z l' s' => ?_⟩
  rw [List.append_assoc] at s'
  have s3 := back Z' H' (.nd true kd ds') _ z (SI.cls l' s')
  have S4 : Sa K Z' H' σ (ρ.set i none) (.tr (setP d p (.nd true kd ds')) u :: T') := .of_front (S.ok.non i) s3
  have S5 := Sa.put' S4 hu
  rwa [List.set_set] at S5
theorem tg_ky {w : Env → Option (Nat × List Nat)} {x : Str} {j} {p1 : Pos} (l : List Nat) (hx : x = mkS l) (hu : X.A.units + 1 < cLine) (ho : Pl X G a w)
    (ha : ∀ v, assign (.Subscript a (.Constant (.str x) j p1) pos) X.env v = (do
      let ov ← holding [v] (eval a X.env)
      let iv ← holding [v, ov] (eval (.Constant (.str x) j p1) X.env)
      standAt pos
      holding [v, ov, iv] (setItem ov iv v)
      release [v, ov, iv] []) := by intro _; rfl) : TgW X G fx (.Subscript a (.Constant (.str x) j p1) pos) (wKy w l) := by
  refine ⟨fun σ H Z ρ T y v ρ' Q S e0 k pins s u I r => (pg_sub peR pe_str (set_dict hu) ha).run pins s σ H v u Q I r ?_⟩
  unfold wKy at e0
  simp only [Option.bind_eq_some_iff] at e0
  obtain ⟨iq, e1, e3⟩ := e0
  obtain ⟨i, q⟩ := iq
  refine RunE.know (G := G) (ho.run σ H Z ρ (.tr y v :: T) _ i q S e1 fun o H1 Z1 z1 h1 S1 a1 hk => ?_)
  split at e3
  · rename_i ks ds ex
    split at e3
    · rename_i hlen
      obtain ⟨hlen, h1000, hnd⟩ := hlen
      cases en : ixK l ks with
      | none => rw [en] at e3; cases e3
      | some n =>
        rw [en] at e3; cases e3
        subst hx
        obtain ⟨d, vr, f, x1, x2, x3, x4, x5⟩ := at_read hk S1 a1 ex
        obtain ⟨lp, vs, C, rfl, lv, s, back⟩ := at_nd hk S1 a1 x1 x4
        obtain ⟨own, c⟩ := s.cell
        obtain ⟨hn, hv⟩ := ixK_get (vs := vs) en (by omega)
        have hv2 : vs[n]? = some vs[n] := List.getElem?_eq_getElem hn
        have hn2 : n < ds.length := by omega
        have ep : putK ((ks.map mkK).zip vs) (mkK (.inr l)) v = (ks.map mkK).zip (vs.set n v) := by
          unfold putK
          rw [if_pos (has_key en (by omega)), putK_at en (by omega) hnd]
        refine ⟨lp, _, rfl, DPut.k c.2.1 (k := mkK (.inr l)) (by rw [List.length_zip, List.length_map, sizeLine_eq]; omega), ?_⟩
        rw [ep]
        have hp : putP ρ (i, q) (.nd true (.dct ks) (ds.set n y)) = ρ.set i (some (setP d q (.nd true (.dct ks) (ds.set n y)))) := by
          unfold putP
          have : gVar i ρ = some d := by unfold gVar; rw [x1]; rfl
          simp only [this]
        simp only at k
        rw [hp] at k
        refine k σ _ Z1 z1 .refl (back Z1 _ (ds.set n y) (vs.set n v) T (Same.refl _) (by simp [lv]) ?_)
        have s2 := s.write (o := .dK ((ks.map mkK).zip (vs.set n v))) (k' := .dct ks) (vs' := vs.set n v) fun own c => ⟨by rw [List.length_set]; omega, upd_same, c.2.2⟩
        have p1 : (trs ds vs ++ (C ++ .tr y v :: T)).Perm (.tr y v :: trs ds vs ++ (C ++ T)) := by
          refine (List.Perm.append_left _ (List.perm_middle (a := It.tr y v))).trans ?_
          exact List.perm_middle
        have p2 : (.tr y v :: trs ds vs ++ (C ++ T)).Perm (.tr ds[n] vs[n] :: trs (ds.set n y) (vs.set n v) ++ (C ++ T)) :=
          (trs_set lv (List.getElem?_eq_getElem hn2) hv2).append_right _
        have s3 := s2.perm (((p1.trans p2).cons _).trans (List.Perm.swap _ _ _))
        exact s3.drop
    · cases e3
  · cases e3
end
end Tw

set_option maxRecDepth 100000
namespace Tw
open PySem PySem.Spec PyProof.Rows L2
section
variable {X : Cx} {G : Nat → Addr} {W : WX} {fx : List Nat} {K : Ct} {Z Z' H H' : Hp}
/-! ### x not in a list or a tuple, of data of any depth -/
def rNotInT (K : PySem.W.Frag) : R2 := fun x y H Q => ∃ d ds, Dp K H x d ∧ Dp K H y (.tuple ds) ∧ SeqAt.shaped d = true ∧ SeqAt.shaped (.tuple ds) = true ∧ Q (.bl (!ds.any fun z => PyData.eqv z d)) H
theorem op_notInT (hu : X.A.units + 65 < cLine) : OpR X (compareOp .NotIn) (rNotInT X.K) := by
  intro pins s σ H x y v u Q I rx ry h
  obtain ⟨d, ds, hd, he, sd, se, q⟩ := h
  obtain ⟨as, r1⟩ := Dp.reads I d x v hd rx
  obtain ⟨bs, r2⟩ := Dp.reads I (.tuple ds) y u he ry
  exact SeqAt.notIn_tuple_reads r2 r1 (SeqAt.canLay_of_shaped se) (SeqAt.canLay_of_shaped sd) (room_in_shaped sd hu) ⟨.bl _, H, I, rfl, q⟩
abbrev rNin2 (X : Cx) : R2 := fun x y H Q => rNotInD X.K x y H Q ∨ rNotInT X.K x y H Q
theorem op_nin2 (hu : X.A.units + 65 < cLine) : OpR X (compareOp .NotIn) (rNin2 X) := (op_notInD hu).or (op_notInT hu)
def dNin2F : F2
  | x, .tup ds => if okD 64 x = true ∧ okDs 63 ds = true then some (.bl (!inDs x ds)) else none
  | x, y => dNinF x y
theorem opF_nin2 : OpF X G (rNin2 X) dNin2F := by
  intro Z H x y v u fx fy d Q zh rx ry e q
  unfold dNin2F at e
  split at e
  · rename_i ds
    split at e
    · rename_i h
      cases e
      exact .inr ⟨toP x, toPs ds, toP_dp zh h.1 rx, toP_dp (n := 64) (d := .tup ds) zh h.2 ry, shaped_of h.1, shaped_of (x := .tup ds) h.2, by rw [any_toP h.1 h.2]; exact q_bl q⟩
    · cases e
  · exact .inl (opF_ninD Z H x y v u fx fy d Q zh rx ry e q)
/-! ### sorted, of tuples of four small numbers -/
abbrev Q4 := Nat × Nat × Nat × Nat
def qD (q : Q4) : D := .tup [.int (q.1 : Nat), .int (q.2.1 : Nat), .int (q.2.2.1 : Nat), .int (q.2.2.2 : Nat)]
def lt20 (i : Int) : Bool := decide (0 ≤ i ∧ i < 1048576)
def asQ : D → Option Q4
  | .tup [.int a, .int b, .int c, .int d] => if lt20 a && (lt20 b && (lt20 c && lt20 d)) then some (a.toNat, b.toNat, c.toNat, d.toNat) else none
  | _ => none
def asQs : List D → Option (List Q4)
  | [] => some []
  | d :: ds => (asQ d).bind fun q => (asQs ds).map (q :: ·)
def cd (q : Q4) : Nat := q.1 * 1152921504606846976 + q.2.1 * 1099511627776 + q.2.2.1 * 1048576 + q.2.2.2
def Bq (q : Q4) : Prop := q.1 < 1048576 ∧ q.2.1 < 1048576 ∧ q.2.2.1 < 1048576 ∧ q.2.2.2 < 1048576
def srt (qs : List Q4) : List Q4 := qs.mergeSort fun a b => decide (cd a ≤ cd b)
def sortF : F1
  | .nd _ .lst ds => (asQs ds).bind fun qs => if qs.length < 64 then some (.lst true ((srt qs).map qD)) else none
  | _ => none
theorem asQ_eq {d : D} {q : Q4} (h : asQ d = some q) : d = qD q ∧ Bq q := by
  unfold asQ at h
  split at h
  · rename_i a b c d
    split at h
    · rename_i hc
      cases h
      simp only [lt20, Bool.and_eq_true, decide_eq_true_eq] at hc
      obtain ⟨⟨a0, a1⟩, ⟨b0, b1⟩, ⟨c0, c1⟩, d0, d1⟩ := hc
      refine ⟨?_, by show a.toNat < _; omega, by show b.toNat < _; omega, by show c.toNat < _; omega, by show d.toNat < _; omega⟩
      show D.tup [.int a, .int b, .int c, .int d] = .tup [.int (a.toNat : Nat), .int (b.toNat : Nat), .int (c.toNat : Nat), .int (d.toNat : Nat)]
      rw [Int.toNat_of_nonneg a0, Int.toNat_of_nonneg b0, Int.toNat_of_nonneg c0, Int.toNat_of_nonneg d0]
    · cases h
  · cases h
theorem asQs_eq : ∀ {ds : List D} {qs : List Q4}, asQs ds = some qs → ds = qs.map qD ∧ ∀ q ∈ qs, Bq q
  | [], _, h => by cases h; exact ⟨rfl, fun _ h => by cases h⟩
  | d :: ds, qs, h => by
    unfold asQs at h
    cases e1 : asQ d with
    | none => rw [e1] at h; cases h
    | some q =>
      rw [e1] at h
      cases e2 : asQs ds with
      | none => rw [e2] at h; cases h
      | some r =>
        rw [e2] at h
        cases h
        obtain ⟨h1, h2⟩ := asQ_eq e1
        obtain ⟨h3, h4⟩ := asQs_eq e2
        refine ⟨by rw [h1, h3]; rfl, fun x hx => ?_⟩
        rcases List.mem_cons.mp hx with rfl | hx
        · exact h2
        · exact h4 x hx
def ns4 (q : Q4) : List Int := [(q.1 : Nat), (q.2.1 : Nat), (q.2.2.1 : Nat), (q.2.2.2 : Nat)]
theorem code4 (q : Q4) : TS.code 1048576 (ns4 q) = (cd q : Nat) := by
  obtain ⟨a, b, c, d⟩ := q
  show (a : Int) * 1048576 ^ 3 + ((b : Int) * 1048576 ^ 2 + ((c : Int) * 1048576 ^ 1 + ((d : Int) * 1048576 ^ 0 + 0))) = ((a * 1152921504606846976 + b * 1099511627776 + c * 1048576 + d : Nat) : Int)
  have e3 : (1048576 : Int) ^ 3 = 1152921504606846976 := by decide
  have e2 : (1048576 : Int) ^ 2 = 1099511627776 := by decide
  rw [e3, e2]
  omega
theorem cd_inj {p q : Q4} (hp : Bq p) (hq : Bq q) (h : cd p = cd q) : p = q := by
  obtain ⟨a, b, c, d⟩ := p
  obtain ⟨a', b', c', d'⟩ := q
  obtain ⟨p1, p2, p3, p4⟩ := hp
  obtain ⟨q1, q2, q3, q4⟩ := hq
  simp only [cd] at *
  have h1 : a = a' := by omega
  subst h1
  have h2 : b = b' := by omega
  subst h2
  have h3 : c = c' := by omega
  subst h3
  have h4 : d = d' := by omega
  subst h4
  rfl
theorem rp_tupI {q : Q4} {v : V} {f : List Addr} (zh : Same Z H) (r : Rp ⟨X.K, G⟩ Z H (qD q) v f) : TupI X.K H v (ns4 q) := by
  obtain ⟨a, vs, rfl, s, r⟩ := r
  obtain ⟨v1, w1, f1, g1, rfl, rfl, ⟨rfl, rfl⟩, r⟩ := r
  obtain ⟨v2, w2, f2, g2, rfl, rfl, ⟨rfl, rfl⟩, r⟩ := r
  obtain ⟨v3, w3, f3, g3, rfl, rfl, ⟨rfl, rfl⟩, r⟩ := r
  obtain ⟨v4, w4, f4, g4, rfl, rfl, ⟨rfl, rfl⟩, r⟩ := r
  obtain ⟨rfl, rfl⟩ := r
  exact ⟨a, rfl, sqT_mono s zh⟩
theorem rps_perm {ys vs : List V} (p : ys.Perm vs) : ∀ {qs : List Q4}, Rps ⟨X.K, G⟩ Z H (qs.map qD) vs [] → ∃ qs' : List Q4, qs'.Perm qs ∧ Rps ⟨X.K, G⟩ Z H (qs'.map qD) ys [] := by
  have cons : ∀ {q : Q4} {qs : List Q4} {v : V} {vs : List V}, Rps ⟨X.K, G⟩ Z H ((q :: qs).map qD) (v :: vs) [] ↔ (∃ f, Rp ⟨X.K, G⟩ Z H (qD q) v f) ∧ Rps ⟨X.K, G⟩ Z H (qs.map qD) vs [] := fun {q qs v vs} => by
    constructor
    · rintro ⟨v', vs', f1, f2, e, ef, r1, r2⟩
      cases e
      obtain ⟨rfl, rfl⟩ := List.append_eq_nil_iff.mp ef.symm
      exact ⟨⟨_, r1⟩, r2⟩
    · rintro ⟨⟨f, r1⟩, r2⟩
      have : f = [] := r1.isFrz rfl
      subst this
      exact ⟨v, vs, [], [], rfl, rfl, r1, r2⟩
  induction p with
  | nil =>
    intro qs r
    cases qs with
    | nil => exact ⟨[], .refl _, r⟩
    | cons q qs => obtain ⟨_, _, _, _, e, _⟩ := r; cases e
  | cons x p ih =>
    intro qs r
    cases qs with
    | nil => cases r.1
    | cons q qs =>
      obtain ⟨h1, h2⟩ := cons.mp r
      obtain ⟨qs', p', r'⟩ := ih h2
      exact ⟨q :: qs', p'.cons _, cons.mpr ⟨h1, r'⟩⟩
  | swap x y l =>
    intro qs r
    cases qs with
    | nil => cases r.1
    | cons q qs =>
      cases qs with
      | nil => obtain ⟨_, h2⟩ := cons.mp r; cases h2.1
      | cons q2 qs =>
        obtain ⟨h1, h2⟩ := cons.mp r
        obtain ⟨h3, h4⟩ := cons.mp h2
        exact ⟨q2 :: q :: qs, .swap _ _ _, cons.mpr ⟨h3, cons.mpr ⟨h1, h4⟩⟩⟩
  | trans _ _ ih1 ih2 =>
    intro qs r
    obtain ⟨q1, p1, r1⟩ := ih2 r
    obtain ⟨q2, p2, r2⟩ := ih1 r1
    exact ⟨q2, p2.trans p1, r2⟩
theorem rps_sorted (zh : Same Z H) : ∀ {qs : List Q4} {ys : List V}, Rps ⟨X.K, G⟩ Z H (qs.map qD) ys [] → ys.Pairwise (fun x y => ∀ n m, TupI X.K H x n → TupI X.K H y m → TS.code 1048576 n ≤ TS.code 1048576 m) → qs.Pairwise fun a b => cd a ≤ cd b
  | [], _, _, _ => .nil
  | q :: qs, ys, r, h => by
    obtain ⟨v, vs, f1, f2, rfl, ef, r1, r2⟩ := r
    obtain ⟨rfl, rfl⟩ := List.append_eq_nil_iff.mp ef.symm
    obtain ⟨h1, h2⟩ := List.pairwise_cons.mp h
    refine List.pairwise_cons.mpr ⟨fun b hb => ?_, rps_sorted zh r2 h2⟩
    have : ∀ {qs : List Q4} {ws : List V}, Rps ⟨X.K, G⟩ Z H (qs.map qD) ws [] → b ∈ qs → ∃ w ∈ ws, TupI X.K H w (ns4 b) := by
      intro qs
      induction qs with
      | nil => intro ws _ hb; cases hb
      | cons q' qs ih =>
        intro ws r hb
        obtain ⟨v', vs', g1, g2, rfl, ef, s1, s2⟩ := r
        obtain ⟨rfl, rfl⟩ := List.append_eq_nil_iff.mp ef.symm
        rcases List.mem_cons.mp hb with rfl | hb
        · exact ⟨v', List.mem_cons_self, rp_tupI zh s1⟩
        · obtain ⟨w, hw, t⟩ := ih s2 hb
          exact ⟨w, List.mem_cons_of_mem _ hw, t⟩
    obtain ⟨w, hw, t⟩ := this r2 hb
    have := h1 w hw _ _ (rp_tupI zh r1) t
    rw [code4, code4] at this
    omega
theorem caF_sort : CaF X G (rSortU X.K 4 1048576) sortF := by
  intro Z H x v fx d Q zh rx e q
  unfold sortF at e
  split at e
  · rename_i m ds
    cases e1 : asQs ds with
    | none => rw [e1] at e; cases e
    | some qs =>
      rw [e1] at e
      simp only [Option.bind_some] at e
      split at e
      · rename_i hl
        cases e
        obtain ⟨rfl, hb⟩ := asQs_eq e1
        obtain ⟨a, vs, f, rfl, s, r⟩ := rx.lst_any zh
        have fz : f = [] := r.isFrz (by
          clear e1 rx r hl q hb
          induction qs with
          | nil => rfl
          | cons q qs ih => exact ih)
        subst fz
        have lv := r.length
        rw [List.length_map] at lv
        have hx : ∀ {qs : List Q4} {ws : List V}, (∀ q ∈ qs, Bq q) → Rps ⟨X.K, G⟩ Z H (qs.map qD) ws [] → ∀ x ∈ ws, ∃ ns, TupI X.K H x ns ∧ ns.length = 4 ∧ TS.Bd 1048576 ns := by
          intro qs
          induction qs with
          | nil => intro ws _ r x hx; rw [r.1] at hx; cases hx
          | cons q' qs ih =>
            intro ws hb r x hx
            obtain ⟨v', vs', g1, g2, rfl, ef, s1, s2⟩ := r
            obtain ⟨rfl, rfl⟩ := List.append_eq_nil_iff.mp ef.symm
            rcases List.mem_cons.mp hx with rfl | hx
            · obtain ⟨b1, b2, b3, b4⟩ := hb q' List.mem_cons_self
              refine ⟨ns4 q', rp_tupI zh s1, rfl, fun m hm => ?_⟩
              simp only [ns4, List.mem_cons, List.not_mem_nil, or_false] at hm
              rcases hm with rfl | rfl | rfl | rfl <;> omega
            · exact ih (fun q hq => hb q (List.mem_cons_of_mem _ hq)) s2 x hx
        refine ⟨a, vs, rfl, SqL.of s, by omega, hx hb r, fun ys p hp hs hn => ?_⟩
        obtain ⟨qs', p', r'⟩ := rps_perm hp r
        have so := rps_sorted zh r' hs
        have eq : qs' = srt qs := by
          refine List.Perm.eq_of_pairwise (le := fun a b => cd a ≤ cd b) (fun a b ha hb' h1 h2 => cd_inj (hb a (p'.mem_iff.mp ha)) (hb b ((List.mergeSort_perm _ _).mem_iff.mp hb')) (Nat.le_antisymm h1 h2)) so ?_ (p'.trans (List.mergeSort_perm _ _).symm)
          have := List.pairwise_mergeSort (le := fun a b : Q4 => decide (cd a ≤ cd b)) (fun a b c h1 h2 => by simp only [decide_eq_true_eq] at *; omega) (fun a b => by simp only [Bool.or_eq_true, decide_eq_true_eq]; omega) qs
          exact this.imp fun h => of_decide_eq_true h
        rw [← eq] at q
        exact q _ _ _ (Al.newL r' hn)
      · cases e
  · cases e
end
section
variable {Q : D × Env → Prop} {Q2 : List D × Env → Prop} {E : XQ Env} {ρ : Env}
theorem wp_dDisp (tq : Tag Q) (u : Tag E) (ks : List (List Nat)) (g : Env → R Env (List D × Env)) : Wp (dDisp ks g ρ) Q E tq u = Wp (g ρ) (fun q => Q (.nd true (.dct (ks.map .inr)) q.1, q.2)) E .mk .mk := by
  show Wp ((g ρ).bind _) Q E tq u = _
  rw [wp_bind]; rfl
theorem wp_xNil (tq : Tag Q2) (u : Tag E) : Wp (xNil ρ) Q2 E tq u = Q2 ([], ρ) := propext ⟨fun h => h, fun h => h⟩
theorem wp_xCons (tq : Tag Q2) (u : Tag E) (f : Env → R Env (D × Env)) (g : Env → R Env (List D × Env)) : Wp (xCons f g ρ) Q2 E tq u = Wp (f ρ) (fun p => Wp (g p.2) (fun q => Q2 (p.1 :: q.1, q.2)) E .mk .mk) E .mk .mk := by
  show Wp ((f ρ).bind fun p => (g p.2).bind fun q => R.ok (p.1 :: q.1, q.2)) Q2 E tq u = _
  rw [wp_bind]; refine wp_cg fun p => ?_
  rw [wp_bind]; rfl
/-- an owned dict at a place -/
def OnD (o : Option D) (Q : List Ky → List D → Prop) (_ : Tag Q) : Prop := match o with | some (.nd true (.dct ks) ds) => Q ks ds | _ => False
theorem onD_dct (ks : List Ky) (ds : List D) (Q : List Ky → List D → Prop) (t : Tag Q) : OnD (some (.nd true (.dct ks) ds)) Q t = Q ks ds := propext ⟨fun h => h, fun h => h⟩
theorem op_pKy {Q : Nat × List Nat → Prop} (t : Tag Q) (w : Env → Option (Nat × List Nat)) (l : List Nat) : Op (pKy w l ρ) Q t = Op (w ρ) (fun iq => OnD (atP ρ iq) (fun ks ds => Gd (ks.length = ds.length) (Op (ixK l ks) (fun n => Q (iq.1, iq.2 ++ [n])) .mk) .mk) .mk) .mk := by
  show Op ((w ρ).bind _) Q t = _
  cases w ρ with
  | none => rfl
  | some iq =>
    show Op (match atP ρ iq with
      | some (.nd true (.dct ks) ds) => if ks.length = ds.length then (ixK l ks).map fun n => (iq.1, iq.2 ++ [n]) else none
      | _ => none) Q t = OnD (atP ρ iq) (fun ks ds => Gd (ks.length = ds.length) (Op (ixK l ks) (fun n => Q (iq.1, iq.2 ++ [n])) .mk) .mk) .mk
    cases atP ρ iq with
    | none => rfl
    | some d =>
      cases d with
      | nd m k ds =>
        cases m with
        | false => cases k <;> rfl
        | true =>
          cases k with
          | dct ks =>
            show Op (if ks.length = ds.length then _ else none) Q t = Gd (ks.length = ds.length) _ .mk
            by_cases h : ks.length = ds.length
            · rw [if_pos h, gd_of h]
              cases ixK l ks <;> rfl
            · rw [if_neg h]; exact propext ⟨fun z => z.elim, fun z => h z.1⟩
          | _ => rfl
      | _ => rfl
theorem op_wKy {Q : Env → Prop} (t : Tag Q) (w : Env → Option (Nat × List Nat)) (l : List Nat) (x : D) : Op (wKy w l x ρ) Q t = Op (w ρ) (fun iq => OnD (atP ρ iq) (fun ks ds => Gd (ks.length = ds.length ∧ ks.length < 1000 ∧ ks.Nodup) (Op (ixK l ks) (fun n => Nm (putP ρ iq (.nd true (.dct ks) (ds.set n x))) Q .mk) .mk) .mk) .mk) .mk := by
  show Op ((w ρ).bind _) Q t = _
  cases w ρ with
  | none => rfl
  | some iq =>
    show Op (match atP ρ iq with
      | some (.nd true (.dct ks) ds) => if ks.length = ds.length ∧ ks.length < 1000 ∧ ks.Nodup then (ixK l ks).map fun n => putP ρ iq (.nd true (.dct ks) (ds.set n x)) else none
      | _ => none) Q t = OnD (atP ρ iq) (fun ks ds => Gd (ks.length = ds.length ∧ ks.length < 1000 ∧ ks.Nodup) (Op (ixK l ks) (fun n => Nm (putP ρ iq (.nd true (.dct ks) (ds.set n x))) Q .mk) .mk) .mk) .mk
    cases atP ρ iq with
    | none => rfl
    | some d =>
      cases d with
      | nd m k ds =>
        cases m with
        | false => cases k <;> rfl
        | true =>
          cases k with
          | dct ks =>
            show Op (if ks.length = ds.length ∧ ks.length < 1000 ∧ ks.Nodup then _ else none) Q t = Gd (ks.length = ds.length ∧ ks.length < 1000 ∧ ks.Nodup) _ .mk
            by_cases h : ks.length = ds.length ∧ ks.length < 1000 ∧ ks.Nodup
            · rw [if_pos h, gd_of h]
              cases ixK l ks <;> rfl
            · rw [if_neg h]; exact propext ⟨fun z => z.elim, fun z => h z.1⟩
          | _ => rfl
      | _ => rfl
end
end Tw

set_option maxRecDepth 100000
set_option maxHeartbeats 4000000
namespace Tw
open PySem PySem.Spec PyProof.Rows L2
/-! ### several clauses `except X as n` -/
abbrev Su := Addr → Value → Option Addr → TS
/-- the ends of a suite whose name is gone behind it -/
def gone (i : Nat) (D : Ends) : Ends := { nx := fun σ H => D.nx (σ.set i none) H, rt := D.rt, bk := fun σ H => D.bk (σ.set i none) H, ct := fun σ H => D.ct (σ.set i none) H }
/-- what the clauses wish of an exception, the first one that fits -/
def wNamed (K : PySem.W.Frag) (m i : Nat) (Wout : WX) (D : Ends) : List (Value × Su) → WX
  | [] => Wout
  | p :: r => fun cls d σ H => ∃ b, PySem.W.exmOne K cls p.1 = some b ∧ (b = true → ∀ a, H a = none → σ.length = m → p.2 a cls d (gone i D) (σ.set i (some (.ref a))) H) ∧ (b = false → wNamed K m i Wout D r cls d σ H)
/-- clauses, and what they do -/
inductive Clauses (X : Cx) (n : Str) : List ExceptHandler → List (Value × Su) → Prop
  | none : Clauses X n [] []
  | more {x : Str} {c : Value} {ts : Su} {b : Stmt} {bs : List Stmt} {p1 p2 : Pos} {hds : List ExceptHandler} {l : List (Value × Su)} (name : Names X x c)
      (suite : ∀ (a : Addr) (oe : Obj) (cls : Value) (d : Option Addr) (pn : List (Addr × Obj)), Zc cls d oe → (∃ vs, oe.data = .fields vs) → PSs (X.suite a ((a, oe) :: pn)) (b :: bs) (ts a cls d)) (rest : Clauses X n hds l) :
      Clauses X n (.ExceptHandler (some (.Name x p1)) (some n) (b :: bs) p2 :: hds) ((c, ts) :: l)
section
variable {X : Cx} {n : Str} {i : Nat} {Wout : WX}
/-- an exception in the hand of the frame: the clauses are asked one after the other -/
theorem handle_named {B : Heap} {pins : List (Addr × Obj)} {D : Ends} {σ : L2.St} {H : Hp} {a : Addr} {cls : Value} {d : Option Addr} {sI s : Shared}
    (hs : X.stack = X.env :: X.outer) (hf : X.env.frame = some X.env.locals) (hN : X.N.Nodup) (hi : X.N[i]? = some n) (hln : X.env.kindOf n = some .local) (tk : Takes X Wout) (ok : X.Ok)
    (J : Inv X pins σ H sI) (J3 : Inv X pins σ H s) (nb : ∀ b o, sI.heap.get? b = some o → b ∉ frs X.stack → B.get? b = some o) (up : sI.heap.UpToSlots s.heap) (os : s.os = sI.os) (ag : AllBare s.gens) (na : H a = none)
    (fl : HandSPX.FlyingZ B (X.env :: X.outer) a (Zc cls d) s.heap) (nL : a ≠ X.env.locals) (nF : a ∉ X.fs) :
    ∀ {hds : List ExceptHandler} {l : List (Value × Su)}, Clauses X n hds l → wNamed X.K X.N.length i Wout D l cls d σ H →
      wpAny (model X.prog X.w) X.A (handleBy (.ref a) X.env hds) (SP X pins D) X.xe s := by
  intro hds l hk
  induction hk with
  | none =>
    intro w
    refine wpAny_handleBy_nil ?_
    obtain ⟨_, _, _, oe, vs, T, _, _, he, _, hd, h1, _⟩ := id fl
    unfold PySem.passOn
    refine wpAny_bind (wpAny_field he hd h1 ?_)
    rw [if_neg (show ¬ ((Value.ref T == Value.none) = true) from by simp)]
    have fin : wpAny (model X.prog X.w) X.A (setFlight (.ref a) X.env.frame) (fun _ s4 => wpAny (model X.prog X.w) X.A (throw (.ref a) : Sem Flow) (SP X pins D) X.xe s4) X.xe s := by
      rw [hf]
      refine HandSPX.setFlight_upZ fl fun h4 hh4 up4 => wpAny_throw (tk _ _ ?_)
      exact ⟨a, B, sI, pins, σ, H, cls, d, rfl, J, nb, up.trans up4, .inr (.inr (by rw [hs]; exact hh4)), na, os, ag, w⟩
    first
      | exact wpAny_bind (wpAny_pure (wpAny_bind fin))
      | exact wpAny_bind fin
  | @more x c ts b bs p1 p2 hds l name suite rest ih =>
    intro w
    obtain ⟨ans, e1, yes, no⟩ := w
    obtain ⟨oe3, vs3, he3, hz3, hd3⟩ := fl.there
    have S3 := J3.suite he3 hd3 na nL nF
    refine wpAny_handleBy_cons (codeAny_handlers_test ?_) (by intro q; cases q)
    have LT : PySem.W.Looks (model X.prog X.w) s.heap (typeOf (.ref a)) cls := fun A Q E s k q => wpAny_typeOf_ref (k _ _ he3) (by rw [hz3.1]; exact q)
    have LM := PySem.W.exm_one (M := model X.prog X.w) (J3.kIn) LT e1
    have test : ∀ {Q : Value → Shared → Prop} {E : Value → Shared → Prop}, Q c s → wpAny (model X.prog X.w) (X.A.mark (some (.ref a))) (eval (.Name x p1) X.env) Q E s := fun {Q E} q => by
      obtain ⟨hg, hdbg, hm | ⟨hm, hv, hnn⟩⟩ := name
      · exact ld_glob (X := X.suite a ((a, oe3) :: (X.pn ++ pins))) S3 hg hm q hdbg
      · exact ld_blt (X := X.suite a ((a, oe3) :: (X.pn ++ pins))) S3 hg hm hv q hnn hdbg
    refine test (LM.here ?_)
    cases ans with
    | false =>
      show wpAny _ X.A (handleBy (.ref a) X.env hds) _ _ _
      exact ih (no rfl)
    | true =>
      refine codeAny_handlers_suite_as ?_
      refine HandSPX.lands_againZ fl fun h4 fl4 up4 => ?_
      have J4 : Inv X pins σ H { s with heap := h4 } := J.landed nb fl4.1 (up.trans up4) os ag
      obtain ⟨oe4, vs4, he4, hz4, hd4⟩ := fl4.there
      have S4 := J4.suite he4 hd4 na nL nF
      refine store_ok (X := X.suite a ((a, oe4) :: (X.pn ++ pins))) (v := .ref a) S4 hN hi (.inl hln) rfl (fun s5 S5 => ?_) (.inr hln)
      refine wpAny_mono ((suite a oe4 cls d (X.pn ++ pins) hz4 ⟨_, hd4⟩).run [] s5 _ H _ S5 (yes rfl a na J3.len)) (fun f s6 hsp => ?_) (fun _ _ z => False.elim z)
      have fin : ∀ {σ6 : L2.St} {H6 : Hp} {Q : Shared → Prop}, Inv (X.suite a ((a, oe4) :: (X.pn ++ pins))) [] σ6 H6 s6 → (∀ s7, Inv X pins (σ6.set i none) H6 s7 → Q s7) →
          wpAny (model X.prog X.w) X.A (do bindName X.env n .none; unbindBehindTheSuite X.env n p2) (fun _ s7 => Q s7) X.xe s6 := fun {σ6 H6 Q} S6 hq => gone_ok (S6.unsuite ok) hN hi hln hq
      cases f with
      | next => obtain ⟨σ6, H6, S6, q6⟩ := hsp; exact fin S6 fun s7 J7 => ⟨_, _, J7, q6⟩
      | brk => obtain ⟨σ6, H6, S6, q6⟩ := hsp; exact fin S6 fun s7 J7 => ⟨_, _, J7, q6⟩
      | cont => obtain ⟨σ6, H6, S6, q6⟩ := hsp; exact fin S6 fun s7 J7 => ⟨_, _, J7, q6⟩
      | ret u => obtain ⟨v6, σ6, H6, S6, r6, q6⟩ := hsp; exact fin S6 fun s7 J7 => ⟨_, _, _, J7, r6, q6⟩
theorem ps_try_named {body : List Stmt} {h₀ : ExceptHandler} {hds : List ExceptHandler} {l : List (Value × Su)} {pos : Pos} {tb : WX → TS} (hs : X.stack = X.env :: X.outer) (hf : X.env.frame = some X.env.locals) (hN : X.N.Nodup) (hi : X.N[i]? = some n) (hln : X.env.kindOf n = some .local) (tk : Takes X Wout)
    (hb : ∀ (W : WX) (pn : List (Addr × Obj)) (xe : Value → Shared → Prop), Takes (X.tr pn xe) W → PassesOwn (model X.prog X.w) X.A X.env xe → PSs (X.tr pn xe) body (tb W)) (hh : Clauses X n (h₀ :: hds) l) :
    PS X (.Try body (h₀ :: hds) [] [] pos) (fun D σ H => tb (wNamed X.K X.N.length i Wout D l) D σ H) := by
  refine ⟨fun pins s σ H D I h => ?_⟩
  have ok := I.ok
  have hfr : X.A.frames = some (X.env :: X.outer) := by rw [ok.frames, hs]
  refine wpAny_Try_except ?_
  refine wpAny_mono ((hb (wNamed X.K X.N.length i Wout D l) (X.pn ++ pins) (fun e s₁ => wpAny (model X.prog X.w) X.A (noteFrame e X.env) (fun _ s₂ => wpAny (model X.prog X.w) X.A (setFlight e none) (fun _ s₃ =>
    wpAny (model X.prog X.w) X.A (handleBy e X.env (h₀ :: hds)) (SP X pins D) X.xe s₃) X.xe s₂) X.xe s₁) (fun u s' xx => ?_) PassesOwn.looking).run [] s σ H D (I.toTry _) h) (fun f s1 hsp => ?_) (fun e s1 he => he)
  · obtain ⟨a, B, sI, pins', σ', H', cls, d, rfl, J', nb, up, sky, na, os, ag, w⟩ := xx
    have J : Inv X pins σ' H' sI := J'.ofTry ok
    have sky' : Sky B (X.env :: X.outer) a (Zc cls d) X.env.locals s'.heap := by rw [← hs]; exact sky
    show wpAny (model X.prog X.w) X.A (noteFrame (.ref a) X.env) _ _ _
    refine Sky.land Zc.steady hfr hf sky' fun h3 fl3 up3 => ?_
    obtain ⟨oe3, vs3, he3, _, hd3⟩ := fl3.there
    have nfr : a ∉ frs (X.env :: X.outer) := fun hm => by
      obtain ⟨_, o', e', hnf⟩ := fl3.2.2.1.mem hm
      rw [he3] at e'; cases e'
      exact hnf _ hd3
    have nL : a ≠ X.env.locals := fun z => nfr (List.mem_filterMap.mpr ⟨X.env, List.mem_cons_self, by rw [hf, z]⟩)
    have nF : a ∉ X.fs := fun hm => by
      obtain ⟨e, he, q⟩ := List.mem_filterMap.mp hm
      exact nfr (List.mem_filterMap.mpr ⟨e, List.mem_cons_of_mem _ he, q⟩)
    exact handle_named (s := { s' with heap := h3 }) hs hf hN hi hln tk ok J (J.landed nb fl3.1 (up.trans up3) os ag) nb (up.trans up3) os ag na fl3 nL nF hh w
  · cases f with
    | next => obtain ⟨σ', H', J', q⟩ := hsp; exact wpAny_execs_nil ⟨σ', H', J'.ofTry ok, q⟩
    | brk => obtain ⟨σ', H', J', q⟩ := hsp; exact ⟨σ', H', J'.ofTry ok, q⟩
    | cont => obtain ⟨σ', H', J', q⟩ := hsp; exact ⟨σ', H', J'.ofTry ok, q⟩
    | ret u => obtain ⟨v, σ', H', J', r, q⟩ := hsp; exact ⟨v, σ', H', J'.ofTry ok, r, q⟩
end
end Tw

set_option maxRecDepth 100000
set_option maxHeartbeats 4000000
namespace Tw
open PySem PySem.Spec PyProof.Rows L2 LamX
/-! ### a lambda made: what became of the table, told exactly -/
/-- the heap's view, the code object q being known: as it was, or with one more entry -/
def Made (P : Addr) (q : Str) (H : Hp) (c : Addr) (H1 : Hp) : Prop :=
  (H1 = H ∧ ∃ (ps : Array Value) (pos : Pos), H P = some (.tbl ps) ∧ PySem.codeAmong pos ps.toList = some (.ref c)) ∨
    ∃ (ps : Array Value) (pos : Pos), H P = some (.tbl ps) ∧ H c = none ∧ H1 = upd (upd H P (.tbl (ps ++ #[rawInt pos.line, rawInt pos.col, .ref c]))) c (CodeO c q)
section
variable {X : Cx} {pins : List (Addr × Obj)} {σ : L2.St} {H Z : Hp} {s : Shared}
theorem lam_made {c P : Addr} {params : Arguments} {body : Expr} {scope : Scope} {pos : Pos} {E : Value → Shared → Prop} {Q : Value → Shared → Prop} (I : Inv X pins σ H s) (TB : TabB X.base X.mg c P) (hcode : X.env.code = .ref c)
    (zh : Same Z H) (hT : TabZ Z H P (X.env.qual ++ "<lambda>")) (hdef : defaultsOf params X.env = ([], [])) (hfree : ∀ y ∈ scope.names, y.2 = .free → ∃ c, X.env.cells.lookup y.1 = some c)
    (h : ∀ (f c' : Addr) (pm ctv : Value) (H1 : Hp) (s' : Shared), Inv X pins σ H1 s' → Made P (X.env.qual ++ "<lambda>") H c' H1 →
      s'.heap.get? f = some (PySem.W.kla_obj "<lambda>" (X.env.qual ++ "<lambda>") params body scope (cloFrom X.env.cells scope.names []) pm c' ctv) → H1 f = none → f ∉ frs X.stack → H1 c' = some (CodeO c' (X.env.qual ++ "<lambda>")) → Q (.ref f) s') :
    wpAny (model X.prog X.w) X.A (eval (.Lambda params body scope pos) X.env) Q E s := by
  obtain ⟨ps, hP, ht, ha⟩ := hT
  have bP := TB.bm.keeps I.bk
  have cP := TB.code.keeps I.bk
  have hP' : s.heap.get? P = some { cls := .none, data := .fields ps } := I.hok P _ hP
  have far : ∀ f, s.heap.objs.size ≤ f → f ∉ frs X.stack := fun f hf z => by
    rcases List.mem_cons.mp (I.stkSub _ z) with e | e
    · have h1 := I.lt
      rw [← e] at h1
      exact Nat.lt_irrefl _ (Nat.lt_of_lt_of_le h1 hf)
    · exact I.nofs hf e
  refine PySem.W.kla_eval hdef ?_
  cases hc : codeAmong pos ps.toList with
  | some cv =>
    obtain ⟨c', rfl, hco⟩ := ha pos cv hc
    refine PySem.W.kla_makeFunctionHit (mg := X.mg) (closure_ok hfree) I.ok.glob (I.mod.glob.keeps I.bk) hcode cP hP' ht hc bP fun ctv h' tk hx hsz => ?_
    refine h h'.objs.size c' _ ctv H _ (I.kept fun b o e => Heap.get?_push_of_some _ (hx b o e)) (.inl ⟨rfl, ps, pos, hP, hc⟩) (Heap.get?_push_size _ rfl) (I.hok.fresh hsz) (far _ hsz) (zh _ _ hco)
  | none =>
    refine PySem.W.kla_makeFunction (mg := X.mg) (closure_ok hfree) I.ok.glob (I.mod.glob.keeps I.bk) hcode cP hP' ht hc TB.gP bP fun c' ctv h' tk hx hge hlt hrec htb => ?_
    obtain ⟨c2, oc, vs, t, e2, hoc, hd, hv⟩ := hrec
    cases e2
    have hsz : s.heap.objs.size ≤ h'.objs.size := Nat.le_trans hge (Nat.le_of_lt hlt)
    have nC : H c' = Option.none := I.hok.fresh hge
    have J := inv_table (t' := tk) (more := #[rawInt pos.line, rawInt pos.col, .ref c']) (h' := h'.push (PySem.W.kla_obj "<lambda>" (X.env.qual ++ "<lambda>") params body scope (cloFrom X.env.cells scope.names []) ((X.mg "__name__").getD .none) c' ctv)) I hP
      (fun b o hb e => Heap.get?_push_of_some _ (hx b o hb e)) (Heap.get?_push_of_some _ htb) hge ⟨oc, vs, t, Heap.get?_push_of_some _ hoc, hd, hv⟩
    refine h h'.objs.size c' _ ctv _ _ J (.inr ⟨ps, _, hP, nC, rfl⟩) (Heap.get?_push_size _ rfl) ?_ (far _ hsz) upd_same
    rw [upd_ne (Nat.ne_of_gt hlt), upd_ne (Nat.ne_of_gt (Nat.lt_of_lt_of_le (Heap.lt_size hP') hsz))]
    exact I.hok.fresh hsz
end
section
variable {K : PySem.W.Frag} {G : Nat → Addr} {Z H H1 : Hp} {L : List It}
theorem SI.table (hG : G 0 ≠ 0) (s : SI ⟨K, G⟩ Z H L) : TabZ Z H (G 0) lamQ := by
  obtain ⟨z, fp, h, n, q⟩ := s
  obtain ⟨f1, f2, rfl, _, h2⟩ := Fp.unapp h
  rw [show tabs ⟨K, G⟩ = [.tab (G 0) lamQ] from if_neg hG] at h2
  obtain ⟨g1, g2, _, ⟨t, _⟩, _⟩ := h2
  exact t
/-- behind the making all that was owned is owned -/
theorem SI.made {c : Addr} (hG : G 0 ≠ 0) (s : SI ⟨K, G⟩ Z H L) (m : Made (G 0) lamQ H c H1) : ∃ Z1, Same Z Z1 ∧ SI ⟨K, G⟩ Z1 H1 L := by
  rcases m with ⟨rfl, _⟩ | ⟨ps, ps0, hP, hc, rfl⟩
  · exact ⟨Z, Same.refl _, s⟩
  · have tb := s.table hG
    obtain ⟨z, fp, h, n, q⟩ := s
    obtain ⟨f1, f2, rfl, h1, h2⟩ := Fp.unapp h
    rw [show tabs ⟨K, G⟩ = [.tab (G 0) lamQ] from if_neg hG] at h2
    obtain ⟨g1, g2, rfl, ⟨_, rfl⟩, e2⟩ := h2
    have e2 : g2 = [] := e2
    subst e2
    have nP : Z (G 0) = none := q _ (List.mem_append_right _ (by simp))
    have ncP : c ≠ G 0 := fun e => by rw [e, hP] at hc; cases hc
    have nZc : Z c = none := by
      cases e : Z c with
      | none => rfl
      | some o => rw [z _ _ e] at hc; cases hc
    have at_ : ∀ b o, b ≠ G 0 → H b = some o → upd (upd H (G 0) (.tbl (ps ++ #[rawInt ps0.line, rawInt ps0.col, .ref c]))) c (CodeO c lamQ) b = some o := fun b o hb e => by
      rw [upd_ne (ne_of_none e hc), upd_ne hb]; exact e
    have hz : Same Z (upd Z c (CodeO c lamQ)) := fun b o e => by rw [upd_ne (ne_of_none e nZc)]; exact e
    refine ⟨upd Z c (CodeO c lamQ), hz, fun b o e => ?_, f1 ++ ([G 0] ++ []), Fp.app (h1.keep hz fun b hb o e => at_ b o (fun z => ?_) e) ?_, n, fun b hb => ?_⟩
    · by_cases hb : b = c
      · subst hb
        rw [upd_same] at e ⊢
        exact e
      · rw [upd_ne hb] at e
        exact at_ b o (fun z2 => by rw [z2, nP] at e; cases e) (z _ _ e)
    · have := (List.nodup_append.mp n).2.2 b hb (G 0) (by simp)
      exact this z
    · rw [show tabs ⟨K, G⟩ = [.tab (G 0) lamQ] from if_neg hG]
      obtain ⟨ps', e1, t1, c1⟩ := tb
      have e1 := e1
      rw [hP] at e1
      cases e1
      refine ⟨[G 0], [], rfl, ⟨⟨ps ++ #[rawInt ps0.line, rawInt ps0.col, .ref c], by rw [upd_ne (Ne.symm ncP), upd_same], ?_, fun pos cv hcv => ?_⟩, rfl⟩, rfl⟩
      · have eL : (ps ++ #[rawInt ps0.line, rawInt ps0.col, Value.ref c]).toList = ps.toList ++ [rawInt ps0.line, rawInt ps0.col, .ref c] := by simp
        rw [eL]
        exact PySem.TriplesOk_snoc _ _ _ _ t1
      · have eL : (ps ++ #[rawInt ps0.line, rawInt ps0.col, Value.ref c]).toList = ps.toList ++ [rawInt ps0.line, rawInt ps0.col, .ref c] := by simp
        rw [eL] at hcv
        rcases among_app _ t1 hcv with e | rfl
        · obtain ⟨x, x1, x2⟩ := c1 pos cv e
          exact ⟨x, x1, hz _ _ x2⟩
        · exact ⟨c, rfl, upd_same⟩
    · rw [upd_ne]
      · exact q b hb
      · intro e
        subst e
        obtain ⟨o, e⟩ := (Fp.there h) b hb
        rw [hc] at e; cases e
end
/-! ### told(lambda: body) -/
def tLamX (P : Addr) (q : Str) (TT : (XK → Hp → VK → Prop) → Hp → VK → Prop) (t : XK → TE) : TE := fun σ H Q => ∃ Z, Same Z H ∧ TabZ Z H P q ∧ ∀ c H1, Made P q H c H1 → TT (fun E H' Q' => t E σ H' Q') H1 Q
section
variable {X : Cx}
theorem pe_lamX {TT : (XK → Hp → VK → Prop) → Hp → VK → Prop} {x a : Str} {g c P : Addr} {k : Nat} {pg : Arguments} {bg : List Stmt} {sg : Scope} {dV kV doc pm cdv ct oc : Value} {an od : Option Addr} {osl : Array (Option Value)} {Ng : List Str}
    {params : Arguments} {body : Expr} {scope : Scope} {t : XK → TE} {p lpos pos : Pos} (hg : Gl X x) (hm : X.mg x = some (.ref g)) (hk : PySem.W.keepIn X.K (.ref g) = true)
    (lk : X.K.lookup g = some ⟨oc, od, .func (PySem.W.fnOf x x pg bg sg dV kV doc pm an cdv ct), osl⟩) (hcg : PySem.W.codeIn X.K cdv x = true) (hb : L2.Binds X.K (PySem.W.fnOf x x pg bg sg dV kV doc pm an cdv ct) [a] []) (Sg : FnScope Ng [a] sg) (hNg : Ng[0]? = some a) (hva : Vis sg a)
    (hG : GivesTo X Ng x sg g cdv bg a (X.env.qual ++ "<lambda>") TT)
    (TB : TabB X.base X.mg c P) (hcode : X.env.code = .ref c) (hr : Room (k + 2) X.A) (L : LamS X.env.scope scope) (hdef : defaultsOf params X.env = ([], []))
    (hbind : ∀ (q : Str) (cl : List (Str × Addr)) (pm cv ctv : Value), bindArgs (PySem.W.kla_fn "<lambda>" q params body scope cl pm cv ctv) ⟨[], []⟩ = pure [])
    (hbody : ∀ (A : Around) (outer : List PySem.Env) (s : Shared) (H : Hp) (E : XK) (f c' : Addr), Room k (A.deeper (lamEnv X scope s.heap.objs.size f c')) → PE (lamCx X A outer s H E scope f c') body (t E))
    (hdb : (x == ("__debug__" : Str)) = false := by decide) (hd : (a == ("__debug__" : Str)) = false := by decide) (hcd : (a == ("__classdict__" : Str)) = false := by decide) :
    PE X (.Call (.Name x p) [.Lambda params body scope lpos] [] pos) (tLamX P (X.env.qual ++ "<lambda>") TT t) := by
  refine ⟨fun pins s σ H Q I h => ?_⟩
  obtain ⟨Z, zh, hT, h⟩ := h
  refine wpAny_Call_Name_kw (ld_glob I hg hm ?_ hdb)
  refine PySem.W.callWith_K (h₀ := X.base) I.ok.mod.kin hk ?_ (by rfl) (by rfl)
  show wpAny _ _ (spliced ((false, eval (.Lambda params body scope lpos) X.env) :: backTo pos (starEach [] X.env))) _ _ s
  refine Calls.spliced_cons (lam_made I TB hcode zh hT hdef (L.has I.ok) fun f c' pm' ctv H1 s' I1 md hf hfn hfr hco => ?_)
  refine Calls.spliced_nil ⟨I1.kIn, ?_⟩
  have rc : codeAny (model X.prog X.w) X.A (.call (.ref g) ⟨[.ref f], []⟩) (CR C8.CX0 X.stack X.prog X.w H1 s' Q C8.E0) s' := by
    refine run_ofS (N := Ng) (ps := [a]) (us := [.ref f]) (vs := [.ref f]) lk hcg Sg hr I1.env0 (hb s' [.ref f] I1.kIn rfl) (.cons rfl .nil) rfl fun hr' => ?_
    obtain ⟨t', ht', hq'⟩ := hG f c' s' H1 Q (fun E H' Q' => t E σ H' Q') (fun W pn xe E p1 p2 tk hW => pe_act (i := 0) I1 L hf hfn hfr (hbind _ _ _ _ _) tk hW hr' (fun A outer s H hr2 => hbody A outer s H E f c' hr2) hNg hva hd hcd) hco (h c' H1 md)
    exact ⟨t', ht'.nox, hq'⟩
  refine wpAny_call (codeAny_mono rc fun r s2 hq => ?_)
  cases r with
  | error e => exact (show False from hq).elim
  | ok fl =>
    cases fl with
    | ret u => exact I1.after hq
    | next => exact False.elim hq
    | brk => exact False.elim hq
    | cont => exact False.elim hq
end
end Tw

set_option maxRecDepth 100000
set_option maxHeartbeats 4000000
namespace Tw
open PySem PySem.Spec PyProof.Rows L2 LamX
/-! ### told: what the asked one gives, or by which of the package's errors it ends -/
/-- what a clause makes: (w, e.f), or (w, isinstance(e, the base)), or it is never reached -/
inductive Cw where
  | fld (w f : List Nat)
  | isi (w : List Nat)
  | no
/-- found = (w, e.f) -/
def suF (C : Addr) (w f : Str) : Su := fun a cls d => tAsg (tTup (tCons (tC (.str w)) (tCons (tXf a cls d C f (tVar 2)) tNil))) (gName 1)
/-- found = (w, isinstance(e, the class at S)) -/
def tIsE (K : PySem.W.Frag) (C S a : Addr) (cls : Value) (d : Option Addr) : TE := fun σ H Q => cls = .ref C ∧ d = none ∧ PySem.W.kitOne K (.ref C) (.ref S) = some true ∧ σ[2]? = some (some (.ref a)) ∧ Q (.bl true) H
def suI (K : PySem.W.Frag) (S C : Addr) (w : Str) : Su := fun a cls d => tAsg (tTup (tCons (tC (.str w)) (tCons (tIsE K C S a cls d) tNil))) (gName 1)
def suite (K : PySem.W.Frag) (S : Addr) (p : Addr × Cw) : Value × Su := (.ref p.1, match p.2 with
  | .fld w f => suF p.1 (mkS w) (mkS f)
  | .isi w => suI K S p.1 (mkS w)
  | .no => fun _ _ _ => tNever)
/-- the clauses' answers -/
def toldX (K : PySem.W.Frag) (S : Addr) : List (Addr × Cw) → Value → Option Addr → Hp → VK → Prop
  | [], _, _, _, _ => False
  | p :: r, cls, d, H, Q => ∃ b, PySem.W.exmOne K cls (.ref p.1) = some b ∧ (b = true → ∃ w v, cls = .ref p.1 ∧ ((∃ f dd fs, p.2 = .fld w f ∧ d = some dd ∧ H dd = some (.xd fs) ∧ fs.lookup (mkS f) = some v) ∨ (p.2 = .isi w ∧ d = none ∧ v = .bl true ∧ PySem.W.kitOne K (.ref p.1) (.ref S) = some true)) ∧ ∀ q, H q = none → Q (.ref q) (upd H q (.tup [.str (mkS w), v]))) ∧ (b = false → toldX K S r cls d H Q)
def TTold (K : PySem.W.Frag) (S : Addr) (odd tld : Str) (sp : List (Addr × Cw)) : (XK → Hp → VK → Prop) → Hp → VK → Prop := fun tl H Q =>
  ∀ p0, H p0 = none → ∀ (E : XK) (R : VK), (∀ cls d H', toldX K S sp cls d H' Q → E cls d H') → (∀ v H', (∀ p, H' p = none → Q (.ref p) (upd H' p (.tup [.str tld, v]))) → R v H') → tl E (upd H p0 (.tup [.str odd, .non])) R
theorem two_size (a b : V) : [a, b].length ≤ sizeLine := by rw [sizeLine_eq]; exact (by decide : 2 ≤ 16777216)
theorem toldX_named {K : PySem.W.Frag} {S : Addr} {D : Ends} {Q : VK} (hD : ∀ (σ : L2.St) (H : Hp) (v : V), σ[1]? = some (some v) → Q v H → D.nx σ H) {cls : Value} {d : Option Addr} {σ : L2.St} {H : Hp} :
    ∀ {sp : List (Addr × Cw)}, toldX K S sp cls d H Q → wNamed K 3 2 (fun _ _ _ _ => False) D (sp.map (suite K S)) cls d σ H
  | [], h => h
  | p :: r, ⟨b, e, y, n⟩ => by
    refine ⟨b, e, fun hb a ha hl => ?_, fun hb => toldX_named hD (n hb)⟩
    obtain ⟨w, v, e2, ch, h⟩ := y hb
    obtain ⟨C, o⟩ := p
    simp only at e2 ch
    have g2 : (σ.set 2 (some (V.ref a)))[2]? = some (some (V.ref a)) := by rw [List.getElem?_set_self (by omega)]
    rcases ch with ⟨f, dd, fs, rfl, e3, e4, e5⟩ | ⟨rfl, e3, rfl, e4⟩
    · refine ⟨.ref a, g2, rfl, e2, dd, fs, v, e3, e4, e5, two_size _ _, fun q hq => ?_⟩
      refine hD _ _ (.ref q) ?_ (h q hq)
      rw [List.getElem?_set_ne (by decide), List.getElem?_set_self (by rw [List.length_set]; omega)]
    · refine ⟨e2, e3, e4, g2, two_size _ _, fun q hq => ?_⟩
      refine hD _ _ (.ref q) ?_ (h q hq)
      rw [List.getElem?_set_ne (by decide), List.getElem?_set_self (by rw [List.length_set]; omega)]
section
variable {X : Cx} {x q odd tld : Str} {sg : Scope} {g : Addr} {cdg : Value} {S : Addr} {sp : List (Addr × Cw)} {h₀ : ExceptHandler} {hds : List ExceptHandler} {j1 j2 j3 j4 j5 j6 : Nat} {o1 : Option Nat} {p1 p2 p3 p4 p5 p6 p7 p8 p9 p10 p11 p12 p13 p14 : Pos}
abbrev NTold : List Str := ["_law_ask", "_law_found", "e"]
abbrev toldY (X : Cx) (x : Str) (sg : Scope) (g : Addr) (cdg : Value) (s : Shared) (H : Hp) : Cx := (cxOf C8.CX0 X.prog X.w X.K X.mg X.base NTold x sg g cdg X.A X.stack s H C8.E0).nox
theorem told_gives' {k1 k2 k3 : _} (l0 : sg.names.lookup ("_law_ask" : Str) = some .local) (l1 : sg.names.lookup ("_law_found" : Str) = some .local) (l2 : sg.names.lookup ("e" : Str) = some .local)
    (hcl : ∀ s H, Clauses (toldY X x sg g cdg s H) "e" (h₀ :: hds) (sp.map (suite X.K S))) :
    GivesTo X NTold x sg g cdg [.Assign [.Name "_law_found" p1] (.Tuple [.Constant (.str odd) k1 p2, .Constant .none k2 p3] j1 p4) p5, .Try [.Assign [.Name "_law_found" p6] (.Tuple [.Constant (.str tld) k3 p7, .Call (.Name "_law_ask" p8) [] [] p9] j2 p10) p11] (h₀ :: hds) [] [] p12, .Return (some (.Name "_law_found" p13)) p14] "_law_ask" q (TTold X.K S odd tld sp) := by
  intro f c' s H Q tl act hc h
  have nd : NTold.Nodup := by decide
  let D0 : Ends := { nx := fun _ H' => Q .non H', rt := Q }
  have hp : ∀ (W : WX) (pn : List (Addr × Obj)) (xe : Value → Shared → Prop), Takes ((toldY X x sg g cdg s H).tr pn xe) W → PSs ((toldY X x sg g cdg s H).tr pn xe) [.Assign [.Name "_law_found" p6] (.Tuple [.Constant (.str tld) k3 p7, .Call (.Name "_law_ask" p8) [] [] p9] j2 p10) p11]
      (fun D σ H1 => ∃ Ech : XK, (∀ cls d σ' H', Ech cls d H' → W cls d σ' H') ∧ σ[0]? = some (some (.ref f)) ∧ H1 c' = some (CodeO c' q) ∧ tl Ech H1 (fun v H2 => [V.str tld, v].length ≤ sizeLine ∧ ∀ p, H2 p = none → D.nx (σ.set 1 (some (.ref p))) (upd H2 p (.tup [.str tld, v])))) := fun W pn xe tk => by
    refine ⟨fun pins s' σ H' D I h' => ?_⟩
    obtain ⟨Ech, hW, h1, h2, h3⟩ := h'
    have ha := act W pn xe Ech p8 p9 tk hW
    have hq := pss_one (ps_set (X := (toldY X x sg g cdg s H).tr pn xe) (pos := p11) (pos' := p6) nd (i := 1) rfl (.inl l1) (pe_tup (x1 := j2) (pos := p10) (pa_cons (pe_str (x := tld) (j := k3) (pos := p7)) (pa_cons ha pa_nil))) (hf := .inr l1))
    exact hq.run pins s' σ H' D I ⟨h1, h2, h3⟩
  have ht := ps_try_named (X := toldY X x sg g cdg s H) (n := "e") (i := 2) (Wout := fun _ _ _ _ => False) (pos := p12) rfl rfl nd rfl l2 L2.takes0 (fun W pn xe tk _ => hp W pn xe tk) (hcl s H)
  refine ⟨_, pss_cons (ps_set (X := toldY X x sg g cdg s H) (pos := p5) (pos' := p1) nd (i := 1) rfl (.inl l1) (pe_tup (x1 := j1) (pos := p4) (pa_cons (pe_str (x := odd) (j := k1) (pos := p2)) (pa_cons (pe_non (j := k2) (pos := p3)) pa_nil))) (hf := .inr l1)) (pss_cons ht (pss_one (ps_ret (pos := p14) (pe_var (X := toldY X x sg g cdg s H) (pos := p13) (i := 1) rfl (.inl l1))))), ?_⟩
  refine ⟨two_size _ _, fun p0 hp0 => ?_⟩
  have st : ∀ u : V, ((L2.start NTold [V.ref f]).set 1 (some u)) = [some (.ref f), some u, none] := fun u => rfl
  refine ⟨fun cls d H' => toldX X.K S sp cls d H' Q, fun cls d σ' H' hx => (by refine toldX_named (fun σ H v e hq => ?_) hx; exact ⟨v, e, hq⟩), rfl, ?_, h p0 hp0 _ _ (fun _ _ _ z => z) fun v H' hv => ⟨two_size _ _, fun p hp => ⟨.ref p, rfl, hv p hp⟩⟩⟩
  rw [upd_ne (ne_of_none hc hp0)]; exact hc
end
end Tw

set_option maxRecDepth 100000
set_option maxHeartbeats 4000000
namespace Tw
open PySem PySem.Spec PyProof.Rows L2 LamX
/-! ### told(lambda: e) -/
abbrev Cl := Nat × Cw
/-- the first clause of the class -/
def clause (c : Nat) : List Cl → Cw
  | [] => .no
  | p :: r => if c = p.1 then p.2 else clause c r
/-- what the clause makes of the error's dict -/
def cwD : Cw → List D → Option D
  | .fld w n, [.str n', d] => if n = n' then some (.tup [.str w, d]) else none
  | .isi w, [] => some (.tup [.str w, .bl true])
  | _, _ => none
def dTold (tld : List Nat) (cl : List Cl) (f : Env → R Env (D × Env)) : Env → R Env (D × Env) := fun ρ => match f ρ with
  | .ok (d, ρ') => .ok (.tup [.str tld, d], ρ')
  | .exc c fs ρ' => match cwD (clause c cl) fs with
    | some d => .ok (d, ρ')
    | none => .stuck
  | .stuck => .stuck
def spOf (G : Nat → Addr) (cl : List Cl) : List (Addr × Cw) := cl.map fun p => (G (p.1 + 1), p.2)
theorem Sa.pair {K : PySem.W.Frag} {G : Nat → Addr} {Z H : Hp} {σ : Sg} {ρ : Env} {T : List It} {d : D} {v : V} {w : List Nat} {p : Addr} (S : Sa ⟨K, G⟩ Z H σ ρ (.tr d v :: T)) (hp : H p = Option.none) :
    ∃ Z', Same Z Z' ∧ Sa ⟨K, G⟩ Z' (upd H p (.tup [.str (mkS w), v])) σ ρ (.tr (.tup [.str w, d]) (.ref p) :: T) := by
  have s := S.front.add (d := .str w) (v := .str (mkS w)) ⟨rfl, rfl⟩
  obtain ⟨z, s2⟩ := SI.newT (ds := [.str w, d]) (vs := [.str (mkS w), v]) (p := p) rfl s hp
  exact ⟨_, z, Sa.of_front S.ok s2⟩
theorem told_post {K : PySem.W.Frag} {G : Nat → Addr} {S : Addr} {Q : VK} {dx : Option Addr} {H : Hp} {c : Nat} {cw : Cw} {w : List Nat} {v : V} {ms : List Nat} (hs : ∀ c ∈ ms, ∀ c' ∈ ms, PySem.W.exmOne K (.ref (G (c + 1))) (.ref (G (c' + 1))) = some (decide (c = c'))) (hc : c ∈ ms)
    (h1 : (∃ n a, cw = .fld w n ∧ dx = some a ∧ H a = some (.xd [(mkS n, v)])) ∨ (cw = .isi w ∧ dx = none ∧ v = .bl true ∧ PySem.W.kitOne K (.ref (G (c + 1))) (.ref S) = some true)) (hq : ∀ q, H q = none → Q (.ref q) (upd H q (.tup [.str (mkS w), v]))) : ∀ {cl : List Cl}, (∀ p ∈ cl, p.1 ∈ ms) → clause c cl = cw → toldX K S (spOf G cl) (.ref (G (c + 1))) dx H Q
  | [], _, h => by
    have h : Cw.no = cw := h
    subst h
    rcases h1 with ⟨_, _, h, _⟩ | ⟨h, _⟩ <;> cases h
  | p :: r, hm, h => by
    refine ⟨decide (c = p.1), hs c hc p.1 (hm p List.mem_cons_self), fun hb => ?_, fun hb => ?_⟩
    · have e := of_decide_eq_true hb
      have h : (if c = p.1 then p.2 else clause c r) = cw := h
      rw [if_pos e] at h
      refine ⟨w, v, by rw [e], ?_, hq⟩
      rcases h1 with ⟨n, a, e1, e2, e3⟩ | ⟨e1, e2, e3, e4⟩
      · exact .inl ⟨n, a, _, h.trans e1, e2, e3, by simp [List.lookup]⟩
      · exact .inr ⟨h.trans e1, e2, e3, by rw [e] at e4; exact e4⟩
    · have e := of_decide_eq_false hb
      have h : (if c = p.1 then p.2 else clause c r) = cw := h
      rw [if_neg e] at h
      exact told_post hs hc h1 hq (fun p hp => hm p (List.mem_cons_of_mem _ hp)) h
theorem clause_mem {c : Nat} : ∀ {cl : List Cl}, clause c cl ≠ .no → ∃ p ∈ cl, p.1 = c ∧ p.2 = clause c cl
  | [], h => absurd rfl h
  | p :: r, h => by
    by_cases e : c = p.1
    · exact ⟨p, List.mem_cons_self, e.symm, (if_pos e).symm⟩
    · have e2 : clause c (p :: r) = clause c r := if_neg e
      rw [e2] at h ⊢
      obtain ⟨p', h1, h2⟩ := clause_mem h
      exact ⟨p', List.mem_cons_of_mem _ h1, h2⟩
section
variable {X : Cx} {G : Nat → Addr} {W : WX}
theorem ev_told {S : Addr} {odd : Str} {tld : List Nat} {cl : List Cl} {x a : Str} {g c : Addr} {k : Nat} {pg : Arguments} {bg : List Stmt} {sg : Scope} {dV kV doc pm cdv ct oc : Value} {an od : Option Addr} {osl : Array (Option Value)} {Ng : List Str}
    {params : Arguments} {body : Expr} {scope : Scope} {p lpos pos : Pos} {b1 : Bool} {f : Env → R Env (D × Env)} (hG : G 0 ≠ 0) (hq : X.env.qual ++ "<lambda>" = lamQ) (hs : ∀ c ∈ cl.map Prod.fst, ∀ c' ∈ cl.map Prod.fst, PySem.W.exmOne X.K (.ref (G (c + 1))) (.ref (G (c' + 1))) = some (decide (c = c')))
    (hI : ∀ p ∈ cl, ∀ w, p.2 = .isi w → PySem.W.kitOne X.K (.ref (G (p.1 + 1))) (.ref S) = some true)
    (hg : Gl X x) (hm : X.mg x = some (.ref g)) (hk : PySem.W.keepIn X.K (.ref g) = true)
    (lk : X.K.lookup g = some ⟨oc, od, .func (PySem.W.fnOf x x pg bg sg dV kV doc pm an cdv ct), osl⟩) (hcg : PySem.W.codeIn X.K cdv x = true) (hb : L2.Binds X.K (PySem.W.fnOf x x pg bg sg dV kV doc pm an cdv ct) [a] []) (Sg : FnScope Ng [a] sg) (hNg : Ng[0]? = some a) (hva : Vis sg a)
    (hT : GivesTo X Ng x sg g cdv bg a (X.env.qual ++ "<lambda>") (TTold X.K S odd (mkS tld) (spOf G cl))) (ho : ∃ l, odd = mkS l)
    (TB : TabB X.base X.mg c (G 0)) (hcode : X.env.code = .ref c) (hr : Room (k + 2) X.A) (L : LamS X.env.scope scope) (hdef : defaultsOf params X.env = ([], []))
    (hbind : ∀ (q : Str) (cl : List (Str × Addr)) (pm cv ctv : Value), bindArgs (PySem.W.kla_fn "<lambda>" q params body scope cl pm cv ctv) ⟨[], []⟩ = pure [])
    (hbody : ∀ (A : Around) (outer : List PySem.Env) (s : Shared) (H : Hp) (E : XK) (f' c' : Addr), Room k (A.deeper (lamEnv X scope s.heap.objs.size f' c')) → Ev (lamCx X A outer s H E scope f' c') G (fun c d _ H => E c d H) b1 body f)
    (hdb : (x == ("__debug__" : Str)) = false := by decide) (hd : (a == ("__debug__" : Str)) = false := by decide) (hcd : (a == ("__classdict__" : Str)) = false := by decide) :
    Ev X G W false (.Call (.Name x p) [.Lambda params body scope lpos] [] pos) (dTold tld cl f) := by
  refine ⟨fun z => (Bool.false_ne_true z).elim, fun σ H Z ρ T Q S0 P => ?_⟩
  have pe := pe_lamX (k := k) (t := fun E σ H Q => ∀ (A : Around) (outer : List PySem.Env) (s : Shared) (H0 : Hp) (f' c' : Addr), Room k (A.deeper (lamEnv X scope s.heap.objs.size f' c')) → RunE (lamCx X A outer s H0 E scope f' c') body σ H Q)
    (p := p) (lpos := lpos) (pos := pos) hg hm hk lk hcg hb Sg hNg hva hT TB hcode hr L hdef hbind (fun A outer s H0 E f' c' hr2 => ⟨fun pins s' σ H Q I h => h A outer s H0 f' c' hr2 pins s' I⟩) hdb hd hcd
  refine toE pe ⟨Z, S0.si.zh, by rw [hq]; exact S0.si.table hG, fun c1 H1 md => ?_⟩
  rw [hq] at md
  obtain ⟨Z1, z1, s1⟩ := S0.si.made hG md
  intro p0 hp0 E R hE hR A outer s0 H0 f' c' hr2
  obtain ⟨l, rfl⟩ := ho
  have s2 := (s1.add (d := .non) (v := .non) ⟨rfl, rfl⟩).add (d := .str l) (v := .str (mkS l)) ⟨rfl, rfl⟩
  obtain ⟨z2, s3⟩ := SI.newT (ds := [.str l, .non]) (vs := [.str (mkS l), .non]) (p := p0) rfl s2 hp0
  refine (hbody A outer s0 H0 E f' c' hr2).run σ _ _ ρ T R ⟨S0.ok, s3.drop⟩ ?_
  unfold dTold at P
  cases e : f ρ with
  | stuck => rw [e] at P; exact P
  | ok q =>
    obtain ⟨d, ρ'⟩ := q
    rw [e] at P
    intro v H' Z' z' _ S'
    refine hR v H' fun p hp => ?_
    obtain ⟨Z3, z3, S3⟩ := S'.pair (w := tld) hp
    exact P _ _ Z3 ((z1.trans z2).trans (z'.trans z3)) (fun z => (Bool.false_ne_true z).elim) S3
  | exc c2 fs ρ' =>
    rw [e] at P
    intro dx H' Z' z' S' x'
    refine hE _ _ _ ?_
    simp only at P
    have hcm : ∀ p ∈ cl, p.1 ∈ cl.map Prod.fst := fun p hp => List.mem_map.mpr ⟨p, hp, rfl⟩
    cases e1 : clause c2 cl with
    | no => rw [e1] at P; exact P.elim
    | fld w n =>
      rw [e1] at P
      obtain ⟨p', m1, m2, m3⟩ := clause_mem (c := c2) (cl := cl) (by rw [e1]; exact fun z => by cases z)
      match fs, P, x' with
      | [.str n', d], P, x' =>
        have P : EPost ⟨X.K, G⟩ false Z H σ T W Q (match (if n = n' then some (D.tup [.str w, d]) else none) with
          | some d => Tw.R.ok (d, ρ')
          | none => Tw.R.stuck) := P
        by_cases en : n = n'
        · subst en
          rw [if_pos rfl] at P
          obtain ⟨a', v, h1, h2, r⟩ := x'
          refine told_post (S := S) (w := w) (v := v) (cw := .fld w n) hs (by rw [← m2]; exact hcm p' m1) (.inl ⟨n, a', rfl, h1, S'.si.zh _ _ h2⟩) (fun q hq => ?_) hcm e1
          have S2 : Sa ⟨X.K, G⟩ Z' H' σ ρ' (.tr d v :: T) := Sa.of_front S'.ok (S'.si.add (r.keep (Same.refl _) fun b hb => by cases hb))
          obtain ⟨Z3, z3, S3⟩ := S2.pair (w := w) hq
          exact P _ _ Z3 ((z1.trans z2).trans (z'.trans z3)) (fun z => (Bool.false_ne_true z).elim) S3
        · rw [if_neg en] at P
          exact P.elim
    | isi w =>
      rw [e1] at P
      obtain ⟨p', m1, m2, m3⟩ := clause_mem (c := c2) (cl := cl) (by rw [e1]; exact fun z => by cases z)
      match fs, P, x' with
      | [], P, x' =>
        have x' : dx = none := x'
        refine told_post (S := S) (w := w) (v := .bl true) (cw := .isi w) hs (by rw [← m2]; exact hcm p' m1) (.inr ⟨rfl, x', rfl, by rw [← m2]; exact hI p' m1 w (m3.trans e1)⟩) (fun q hq => ?_) hcm e1
        have S2 : Sa ⟨X.K, G⟩ Z' H' σ ρ' (.tr (.bl true) (.bl true) :: T) := Sa.of_front S'.ok (S'.si.add ⟨rfl, rfl⟩)
        obtain ⟨Z3, z3, S3⟩ := S2.pair (w := w) hq
        exact P _ _ Z3 ((z1.trans z2).trans (z'.trans z3)) (fun z => (Bool.false_ne_true z).elim) S3
end
end Tw

set_option maxRecDepth 100000
set_option maxHeartbeats 4000000
namespace Tw
open PySem PySem.Spec PyProof.Rows L2
/-! ### raise C(e), C's own __init__ keeping frozen(e) -/
section
variable {K : Ct} {Z H H' : Hp} {L : List It}
/-- the new exception is let go, its dict stands as an exception's dict -/
theorem SI.xd {a dx : Addr} {o : HO} {fs : List (Str × V)} (s : SI K Z H (.raw a o :: L)) (hd : H dx = none) (hn : dx ≠ a) (h1 : H' dx = some (.xd fs)) (h2 : ∀ b, b ≠ dx → b ≠ a → H' b = H b) :
    Same Z (upd Z dx (.xd fs)) ∧ SI K (upd Z dx (.xd fs)) H' L := by
  obtain ⟨z, fp, ⟨f1, f2, rfl, ⟨ea, rfl⟩, h⟩, n, q⟩ := s
  have za : Z a = none := q a (by simp)
  have zd : Z dx = none := by
    cases e : Z dx with
    | none => rfl
    | some u => rw [z _ _ e] at hd; cases hd
  have hz : Same Z (upd Z dx (.xd fs)) := fun b u e => by rw [upd_ne (ne_of_none e zd)]; exact e
  have na : ∀ b ∈ f2, b ≠ a := fun b hb e => (List.nodup_cons.mp n).1 (e ▸ hb)
  refine ⟨hz, fun b u e => ?_, f2, h.keep hz fun b hb u e => ?_, (List.nodup_cons.mp n).2, fun b hb => ?_⟩
  · by_cases hb : b = dx
    · subst hb; rw [upd_same] at e; rw [h1]; exact e
    · rw [upd_ne hb] at e
      rw [h2 b hb (fun e2 => by rw [e2, za] at e; cases e)]
      exact z _ _ e
  · rw [h2 b (ne_of_none e hd) (na b hb)]; exact e
  · rw [upd_ne fun e => ?_]
    · exact q b (List.mem_cons_of_mem _ hb)
    · subst e
      obtain ⟨u, e⟩ := h.there b hb
      rw [hd] at e; cases e
end
/-- the promise of such an __init__ -/
def spI (K : PySem.W.Frag) (G : Nat → Addr) (C : Addr) (n : Str) (F : List D → FR) : Sp := fun vs H Q _ =>
  ∃ (Z : Hp) (a : Addr) (d : D) (v : V) (T : List It), vs = [.ref a, v] ∧ SI ⟨K, G⟩ Z H (.tr d v :: .raw a (exo a C none) :: T) ∧ isFrz d = true ∧
    match F [d] with
    | .ok (r, _) => ∀ y H1 Z1, Same Z Z1 → Same H H1 → SI ⟨K, G⟩ Z1 H1 (.tr r y :: .raw a (exo a C none) :: T) → ∀ dx, H1 dx = none → dx ≠ a → Q .non (upd (upd H1 dx (exd dx [(n, y)])) a (exo a C (some dx)))
    | _ => False
section
variable {P : Program} {w : World} {K : PySem.W.Frag} {mg : Str → Option Value} {base : Heap} {G : Nat → Addr}
theorem init_ok {C fI : Addr} {fd : FuncData} {st : Stmt} {n p qual : Str} {kf : Nat} {Ff : List D → FR} {p1 p2 p3 p4 p5 p6 : Pos} (F : Fun K "__init__" qual st fI fd) (S : FnScope ["self", p] ["self", p] (defScope st)) (Cf : Fk P w ⟨K, noT G⟩ mg base kf "frozen" [false] [] Ff)
    (hst : defBody st = [.Assign [.Attribute (.Name "self" p1) n p2] (.Call (.Name "frozen" p3) [.Name p p4] [] p5) p6]) (T : OexC K C) (hno : PySem.W.findIn K (.ref C) n = some none) (hp : (p == ("__debug__" : Str)) = false := by decide) (hp2 : (p == ("__classdict__" : Str)) = false := by decide)
    (hv0 : Vis (defScope st) "self") (hv1 : Vis (defScope st) p) (hgf : (defScope st).names.lookup ("frozen" : Str) = some .globalImplicit) :
    FnOk P w K mg base (L2.CX P w) (kf + 1) fI fd ["self", p] (spI K (noT G) C n Ff) := by
  refine F.okX S (fun vs H Q E h => ?_) (fun cdv A outer s H vs Q E hr h => ?_)
  · obtain ⟨Z, a, d, v, T, rfl, _⟩ := h
    rfl
  · obtain ⟨Z, a, d, v, L, rfl, si, fz, po⟩ := h
    rw [hst]
    let X : Cx := cxOf (L2.CX P w) P w K mg base ["self", p] qual (defScope st) fI cdv A outer s H E
    have O : XOk X (fun c d _ H => E c d H) := ⟨rfl, S.nd, takes_of rfl rfl rfl rfl, passes_of rfl⟩
    have evf : Ev X (noT G) (fun c d _ H => E c d H) true (.Call (.Name "frozen" p3) [.Name p p4] [] p5) (dCallV [false] [] Ff (aCons (ofG (gVar 1)) aNil)) :=
      ev_callV (X := X) O Cf hr hgf (ax_cons (ev_bo (bo_var (pe_var (i := 1) rfl hv1 hp hp2))) ax_nil)
    refine ⟨_, pss_one (ps_ost (X := X) (p' := p2) (pos := p6) (pe_var (X := X) (pos := p1) (i := 0) rfl hv0) (peR (X := X) (e := .Call (.Name "frozen" p3) [.Name p p4] [] p5))), ?_⟩
    have S0 : Sa ⟨K, noT G⟩ Z H (L2.start ["self", p] [V.ref a, v]) [none, some d] (.raw a (exo a C none) :: L) := ⟨⟨rfl, fun i d' e => by
      match i, e with
      | 1, _ => exact ⟨v, rfl⟩⟩, si⟩
    have ev : dCallV [false] [] Ff (aCons (ofG (gVar 1)) aNil) [none, some d] = match Ff [d] with
        | .ok (r, _) => R.ok (r, [none, some d])
        | .exc c fs _ => R.exc c fs [none, some d]
        | .stuck => R.stuck := by
      have o : ofG (gVar 1) [none, some d] = .ok (d, [none, some d]) := by show (if isFrz d = true then _ else _) = _; rw [if_pos fz]
      show ((ofG (gVar 1) [none, some d]).bind _).bind _ = _
      rw [o]
      show (match Ff [frz d] with
        | .ok (r, _) => R.ok (r, [none, some d])
        | .exc c fs _ => R.exc c fs [none, some d]
        | .stuck => R.stuck) = _
      rw [frz_id fz]
    refine evf.run (L2.start ["self", p] [V.ref a, v]) H Z [none, some d] (.raw a (exo a C none) :: L) _ S0 ?_
    rw [ev]
    cases e1 : Ff [d] with
    | stuck => rw [e1] at po; exact po
    | exc c fs os => rw [e1] at po; exact po.elim
    | ok q =>
      obtain ⟨r, os⟩ := q
      rw [e1] at po
      intro y H1 Z1 z1 sm S1
      have sm := sm rfl
      have ea : H a = some (exo a C none) := by
        obtain ⟨_, fp, ⟨f1, f2, _, _, ⟨g1, g2, _, ⟨e, _⟩, _⟩⟩, _⟩ := si
        exact e
      refine ⟨.ref a, rfl, a, C, rfl, T, hno, .inl ⟨sm _ _ ea, fun dx hdx hne => ?_⟩⟩
      have s1 := S1.front
      have s2 : SI ⟨K, noT G⟩ Z1 H1 (.tr d v :: .tr r y :: .raw a (exo a C none) :: L) := s1.perm (List.Perm.swap _ _ _)
      exact po y H1 Z1 z1 sm s2.drop dx hdx hne
end
/-! raise C(e) -/
def sRaise (c : Nat) (n : List Nat) (Ff : List D → FR) (g : Env → R Env (D × Env)) : Env → R Env Out := fun ρ => (g ρ).bind fun p => match Ff [frz p.1] with
  | .ok (r, _) => .exc c [.str n, frz r] p.2
  | _ => .stuck
section
variable {X : Cx} {G : Nat → Addr} {W : WX} {fx : List Nat} {e : Expr} {p pos pos' : Pos}
theorem sx_raise {G1 : Nat → Addr} {x : Str} {c : Nat} {n : List Nat} {fI : Addr} {k : Nat} {fd : FuncData} {nm : Str} {Ff : List D → FR} {b : Bool} {g : Env → R Env (D × Env)} (O : XOk X W) (T : OexC X.K (G (c + 1))) (iC : PySem.W.findIn X.K (.ref (G (c + 1))) "__init__" = some (some (.ref fI))) (tI : PySem.W.typeIn X.K (.ref fI) = some (.type "function"))
    (F1 : FnOk X.prog X.w X.K X.mg X.base (L2.CX X.prog X.w) k fI fd ["self", nm] (spI X.K G1 (G (c + 1)) (mkS n) Ff)) (hr : Room (k + 1) X.A) (hb : Binds X.K fd ["self", nm] []) (hg : Gl X x) (hm : X.mg x = some (.ref (G (c + 1)))) (he : Ev X G W b e g)
    (hdb : (x == ("__debug__" : Str)) = false := by decide) (hse : starEach [e] X.env = (false, eval e X.env) :: starEach [] X.env := by rfl) (hpl : (backTo pos (starEach [] X.env)).any (·.1) = false := by rfl)
    (hG : noT G = G1 := by first | rfl | exact noT_noT) : Sx X G W fx (.Raise (some (.Call (.Name x p) [e] [] pos)) none pos') (sRaise c n Ff g) := by
  subst hG
  refine ⟨fun σ H Z ρ L D S P => ?_⟩
  have pm := pmk_oex (X := X) (pos := pos) (p := p) (ds := []) (dvs := []) T iC tI F1 hr hb .nil (passes_call O.tk fun _ _ _ _ h => h.elim) hg hm (pa_cons (peR (X := X) (e := e)) pa_nil hse) hdb hse hpl
  refine toS (ps_raise (pos := pos') O.calm O.tk pm) ?_
  unfold sRaise at P
  refine he.run σ H Z ρ L _ S ?_
  cases e1 : g ρ with
  | stuck => rw [e1] at P; exact P
  | exc c2 fs ρ' =>
    rw [e1] at P
    intro dx H' Z' z' S' x'
    exact P dx σ H' Z' z' Fx.refl S' x'
  | ok q =>
    obtain ⟨d, ρ'⟩ := q
    rw [e1] at P
    intro v H1 Z1 z1 _ S1
    obtain ⟨Z2, z2, S2⟩ := S1.freeze
    refine ⟨by show 1 ≤ 1000; decide, fun a ha => ?_⟩
    have s2 := SI_n.mpr S2.front
    have s3 : SI ⟨X.K, noT G⟩ Z2 (upd H1 a (exo a (G (c + 1)) none)) (.tr (frz d) v :: .raw a (exo a (G (c + 1)) none) :: ((envL σ ρ' ++ L) ++ tabs ⟨X.K, G⟩)) := (SI.newR s2 ha).perm (List.Perm.swap _ _ _)
    refine ⟨Z2, a, frz d, v, _, rfl, s3, isFrz_frz d, ?_⟩
    have P : SPost ⟨X.K, G⟩ fx Z σ L W D (match Ff [frz d] with
      | .ok (r, _) => .exc c [.str n, frz r] ρ'
      | _ => .stuck) := P
    cases e2 : Ff [frz d] with
    | stuck => rw [e2] at P; exact P
    | exc c2 fs os => rw [e2] at P; exact P
    | ok q2 =>
      obtain ⟨r, os⟩ := q2
      rw [e2] at P
      intro y H3 Z3 z3 sm s4 dx hdx hne
      obtain ⟨Z4, z4, s5⟩ := s4.freeze
      have hd1 : H1 dx = none := by
        cases e3 : H1 dx with
        | none => rfl
        | some u => rw [sm dx u (by rw [upd_ne hne]; exact e3)] at hdx; cases hdx
      refine ⟨rfl, dx, [(mkS n, y)], upd_same, by rw [upd_ne hne, upd_same], hd1, ?_⟩
      have at_ : ∀ b, b ≠ dx → b ≠ a → (upd (del (upd (upd H3 dx (exd dx [(mkS n, y)])) a (exo a (G (c + 1)) (some dx))) a) dx (.xd [(mkS n, y)])) b = H3 b := fun b h1 h2 => by rw [upd_ne h1, del_ne h2, upd_ne h2, upd_ne h1]
      obtain ⟨z5, s6⟩ := SI.xd (H' := upd (del (upd (upd H3 dx (exd dx [(mkS n, y)])) a (exo a (G (c + 1)) (some dx))) a) dx (.xd [(mkS n, y)])) (fs := [(mkS n, y)]) s5.drop hdx hne upd_same at_
      have s7 := SI_n.mp s6
      obtain ⟨fr, rr⟩ := s5.rp
      have ef := rr.isFrz (isFrz_frz r)
      subst ef
      refine P (some dx) σ _ _ ((z1.trans z2).trans ((z3.trans z4).trans z5)) Fx.refl ⟨S1.ok, s7⟩ ?_
      refine ⟨dx, y, rfl, upd_same, ?_⟩
      rw [Rp_n] at rr
      exact rr.keep z5 fun b hb => by cases hb
end
end Tw

set_option maxRecDepth 100000
set_option maxHeartbeats 4000000
namespace Tw
open PySem PySem.Spec PyProof.Rows L2 LamX
/-! ### what a def that raises takes of a class -/
structure Rz (P : Program) (w : World) (K : PySem.W.Frag) (mg : Str → Option Value) (base : Heap) (G : Nat → Addr) (k c : Nat) (x : Str) (n : List Nat) (Ff : List D → FR) : Prop where
  ex : ∃ (fI : Addr) (fd : FuncData) (nm : Str), OexC K (G (c + 1)) ∧ PySem.W.findIn K (.ref (G (c + 1))) "__init__" = some (some (.ref fI)) ∧ PySem.W.typeIn K (.ref fI) = some (.type "function") ∧
    FnOk P w K mg base (L2.CX P w) k fI fd ["self", nm] (spI K (noT G) (G (c + 1)) (mkS n) Ff) ∧ Binds K fd ["self", nm] [] ∧ mg x = some (.ref (G (c + 1)))
section
variable {X : Cx} {G : Nat → Addr} {W : WX} {fx : List Nat} {e : Expr} {p pos pos' : Pos}
theorem sx_raiseR {x : Str} {c k : Nat} {n : List Nat} {Ff : List D → FR} {b : Bool} {g : Env → R Env (D × Env)} (O : XOk X W) (Z : Rz X.prog X.w X.K X.mg X.base G k c x n Ff) (hr : Room (k + 1) X.A) (hg : Gl X x) (he : Ev X (noT G) W b e g)
    (hdb : (x == ("__debug__" : Str)) = false := by decide) (hse : starEach [e] X.env = (false, eval e X.env) :: starEach [] X.env := by rfl) (hpl : (backTo pos (starEach [] X.env)).any (·.1) = false := by rfl) :
    Sx X (noT G) W fx (.Raise (some (.Call (.Name x p) [e] [] pos)) none pos') (sRaise c n Ff g) := by
  obtain ⟨fI, fd, nm, T, iC, tI, F1, hb, hm⟩ := Z.ex
  exact sx_raise (G := noT G) (G1 := noT G) O T iC tI F1 hr hb hg hm he hdb hse hpl noT_noT
/-- the context of a lambda's body -/
theorem lam_ok {A : Around} {outer : List PySem.Env} {s : Shared} {H : Hp} {E : XK} {scope : Scope} {f c' : Addr} (nd : X.N.Nodup) : XOk (lamCx X A outer s H E scope f c') (fun c d _ H => E c d H) := ⟨rfl, nd, takes_of rfl rfl rfl rfl, passes_of rfl⟩
end
section
variable {E : XQ Env} (ρ : Env)
theorem wp_sRaise {Q : Out → Prop} (t : Tag Q) (u : Tag E) (c : Nat) (n : List Nat) (Ff : List D → FR) (g : Env → R Env (D × Env)) :
    Wp (sRaise c n Ff g ρ) Q E t u = Wp (g ρ) (fun p => Wp (Ff [frz p.1]) (fun r => E c [.str n, frz r.1] p.2) (fun _ _ _ => False) .mk .mk) E .mk .mk := by
  unfold sRaise
  apply propext
  cases g ρ with
  | stuck => exact Iff.rfl
  | exc c2 fs ρ' => exact Iff.rfl
  | ok q =>
    show Wp (match Ff [frz q.1] with
      | .ok (r, _) => R.exc c [.str n, frz r] q.2
      | _ => R.stuck) Q E t u ↔ Wp (Ff [frz q.1]) _ _ .mk .mk
    cases Ff [frz q.1] with
    | ok r => exact Iff.rfl
    | exc c2 fs os => exact Iff.rfl
    | stuck => exact Iff.rfl
theorem wp_dTold {Q : D × Env → Prop} (t : Tag Q) (u : Tag E) (tld : List Nat) (cl : List Cl) (f : Env → R Env (D × Env)) :
    Wp (dTold tld cl f ρ) Q E t u = Wp (f ρ) (fun p => Q (.tup [.str tld, p.1], p.2)) (fun c fs ρ' => ∃ d, cwD (clause c cl) fs = some d ∧ Q (d, ρ')) .mk .mk := by
  unfold dTold
  apply propext
  cases f ρ with
  | stuck => exact Iff.rfl
  | ok q => exact Iff.rfl
  | exc c fs ρ' =>
    show Wp (match cwD (clause c cl) fs with
      | some d => R.ok (d, ρ')
      | none => R.stuck) Q E t u ↔ ∃ d, cwD (clause c cl) fs = some d ∧ Q (d, ρ')
    cases cwD (clause c cl) fs with
    | some d => exact ⟨fun h => ⟨d, rfl, h⟩, fun ⟨d', e, h⟩ => by cases e; exact h⟩
    | none => exact ⟨fun h => h.elim, fun ⟨d', e, h⟩ => by cases e⟩
end
end Tw

set_option maxRecDepth 100000
namespace Tw
open PySem PySem.Spec PyProof.Rows L2
/-! ### list(range(a, b)) -/
def rLrg : R2 := fun x y H Q => ∃ i j, x = .int i ∧ y = .int j ∧ RgOk i j ∧ ∀ q, H q = none → Q (.ref q) (upd H q (.lst (rgV i j)))
def lrgF : F2
  | .int i, .int j => if 0 ≤ i ∧ i ≤ 1000000 ∧ 0 ≤ j ∧ j ≤ 1000000 then some (.lst true (rng i (j - i).toNat)) else none
  | _, _ => none
section
variable {X : Cx} {G : Nat → Addr} {W : WX} {a b : Expr} {p p2 pos pos2 : Pos}
theorem rps_ints {K : Ct} {Z H : Hp} {α : Type} (f : α → Int) : ∀ l : List α, Rps K Z H (l.map fun k => D.int (f k)) (l.map fun k => V.int (f k)) []
  | [] => ⟨rfl, rfl⟩
  | k :: l => ⟨_, _, [], [], rfl, rfl, ⟨rfl, rfl⟩, rps_ints f l⟩
theorem lrg_ok : OpF X G rLrg lrgF := by
  intro Z H x y v u fx fy d Q zh rx ry e q
  unfold lrgF at e
  split at e
  · rename_i i j
    split at e
    · rename_i hb
      cases e
      obtain ⟨rfl, _⟩ := rx
      obtain ⟨rfl, _⟩ := ry
      refine ⟨i, j, rfl, rfl, RgOk.of_le hb.1 (by omega) (by omega) hb.2.2.1, fun r hr => q _ _ _ (Al.newL ?_ hr)⟩
      exact rps_ints (fun k : Nat => i + (k : Int)) _
    · cases e
  · cases e
theorem ev_listRg (O : XOk X W) (hg : Gl X "list") (hm : X.mg "list" = none) (hg2 : Gl X "range") (hm2 : X.mg "range" = none) {b1 b2 : Bool} {f g : Env → R Env (D × Env)} (ha : Ev X G W b1 a f) (hb : Ev X G W b2 b g)
    (na : starEach [a, b] X.env = (false, eval a X.env) :: starEach [b] X.env := by rfl) (nb : starEach [b] X.env = (false, eval b X.env) :: starEach [] X.env := by rfl) (hp : (backTo pos2 (starEach [b] X.env)).any (·.1) = false := by rfl)
    (nc : starEach [(.Call (.Name "range" p2) [a, b] [] pos2 : Expr)] X.env = (false, eval (.Call (.Name "range" p2) [a, b] [] pos2) X.env) :: starEach [] X.env := by rfl) :
    Ev X G W (b1 && b2) (.Call (.Name "list" p) [.Call (.Name "range" p2) [a, b] [] pos2] [] pos) (d2 lrgF f g) :=
  ⟨d2_q ha hb, fun σ H Z ρ T Q S P => toE (pe_listRg O.calm hg hm (prg_2 hg2 hm2 peR peR na nb hp) nc) (run2 lrg_ok ha hb S P)⟩
end
end Tw

set_option maxRecDepth 100000
set_option maxHeartbeats 4000000
namespace Tw
open PySem PySem.Spec PyProof.Rows L2 LamX
/-! ### told, its def told of by its name -/
section
variable {X : Cx} {G : Nat → Addr} {W : WX}
theorem ev_toldF {S : Addr} {odd tld : List Nat} {cl : List Cl} {fT c : Addr} {fdT : FuncData} {k : Nat} {st : Stmt} {params : Arguments} {body : Expr} {scope : Scope} {p lpos pos : Pos} {b1 : Bool} {f : Env → R Env (D × Env)}
    {h₀ : ExceptHandler} {hds : List ExceptHandler} {j1 j2 : _} {k1 k2 k3 : _} {p1 p2 p3 p4 p5 p6 p7 p8 p9 p10 p11 p12 p13 p14 : Pos}
    (hG : G 0 ≠ 0) (hq : X.env.qual ++ "<lambda>" = lamQ) (hs : ∀ c ∈ cl.map Prod.fst, ∀ c' ∈ cl.map Prod.fst, PySem.W.exmOne X.K (.ref (G (c + 1))) (.ref (G (c' + 1))) = some (decide (c = c')))
    (hI : ∀ p ∈ cl, ∀ w, p.2 = .isi w → PySem.W.kitOne X.K (.ref (G (p.1 + 1))) (.ref S) = some true)
    (U : Fun X.K "_law_told" "_law_told" st fT fdT) (hm : X.mg "_law_told" = some (.ref fT)) (hk : PySem.W.keepIn X.K (.ref fT) = true) (hb : L2.Binds X.K fdT ["_law_ask"] []) (Sg : FnScope NTold ["_law_ask"] (defScope st))
    (hst : defBody st = [.Assign [.Name "_law_found" p1] (.Tuple [.Constant (.str (mkS odd)) k1 p2, .Constant .none k2 p3] j1 p4) p5, .Try [.Assign [.Name "_law_found" p6] (.Tuple [.Constant (.str (mkS tld)) k3 p7, .Call (.Name "_law_ask" p8) [] [] p9] j2 p10) p11] (h₀ :: hds) [] [] p12, .Return (some (.Name "_law_found" p13)) p14])
    (l0 : (defScope st).names.lookup ("_law_ask" : Str) = some .local) (l1 : (defScope st).names.lookup ("_law_found" : Str) = some .local) (l2 : (defScope st).names.lookup ("e" : Str) = some .local)
    (hcl : ∀ cdg s H, Clauses (toldY X "_law_told" (defScope st) fT cdg s H) "e" (h₀ :: hds) ((spOf G cl).map (suite X.K S)))
    (hg : Gl X "_law_told") (TB : TabB X.base X.mg c (G 0)) (hcode : X.env.code = .ref c) (hr : Room (k + 2) X.A) (L : LamS X.env.scope scope) (hdef : defaultsOf params X.env = ([], []))
    (hbind : ∀ (q : Str) (cl : List (Str × Addr)) (pm cv ctv : Value), bindArgs (PySem.W.kla_fn "<lambda>" q params body scope cl pm cv ctv) ⟨[], []⟩ = pure [])
    (hbody : ∀ (A : Around) (outer : List PySem.Env) (s : Shared) (H : Hp) (E : XK) (f' c' : Addr), Room k (A.deeper (lamEnv X scope s.heap.objs.size f' c')) → Ev (lamCx X A outer s H E scope f' c') G (fun c d _ H => E c d H) b1 body f) :
    Ev X G W false (.Call (.Name "_law_told" p) [.Lambda params body scope lpos] [] pos) (dTold tld cl f) := by
  obtain ⟨oc, od, kV, doc, pm, an, cdv, ct, osl, rfl, lk, hcd⟩ := U.ex
  rw [hst] at lk hb
  exact ev_told (S := S) (odd := mkS odd) (cl := cl) hG hq hs hI hg hm hk lk hcd hb Sg rfl (.inl l0) (told_gives' (X := X) (S := S) (q := X.env.qual ++ "<lambda>") (sp := spOf G cl) (cdg := cdv) l0 l1 l2 (hcl cdv)) ⟨odd, rfl⟩ TB hcode hr L hdef hbind hbody
end
end Tw

set_option maxRecDepth 100000
set_option maxHeartbeats 4000000
namespace Tw
open PySem PySem.Spec PyProof.Rows L2 LamX
/-! ### the end over a head that tells facts -/
theorem walkX {l : PySem.W.OpenLaw} {q : Program} {loose : List Str} {XP : (Str → Option Value) → Heap → Prop} {YP : World → Heap → Prop} {d : DefRec} {n k : Nat} {x : Str} {FL : List D → FR} (hn : l.most = some n) (hn2 : n ≤ sizeLine) (hdf : d.params.defaults = []) (hr : Room k callerA)
    (hF : ∀ ns : List Int, ns.length ≤ n → FL [.nd false .ro (ns.map .int)] = .ok (.bl true, []))
    (F : ∀ (w : World) (mg : Str → Option Value) (fa : Addr) (h : Heap), YP w h → h.Ns mainGlobals mg → mg d.name = some (.ref fa) →
      ∃ (K : PySem.W.Frag) (G : Nat → Addr) (fd : FuncData) (cs : List (Addr × Addr)), K.In h ∧ (∀ p ∈ cs, h.get? p.2 = some { cls := .none, data := .fields #[] }) ∧ (∀ p ∈ cs, K.lookup p.2 = none) ∧ (∀ p ∈ cs, PySem.W.CodeHd h p.1 p.2) ∧ (G 0 = 0 ∨ ∃ c, (c, G 0) ∈ cs) ∧
        (∀ (s : Shared) (u : Value), BindsTo s fd ⟨[u], []⟩ [(x, u)]) ∧ ∀ base : Heap, K.In base → base.Ns mainGlobals mg → (∀ p ∈ cs, TabB base mg p.1 p.2) → FnOk l.prog w K mg base (L2.CX l.prog w) k fa fd [x] (spT ⟨K, G⟩ [false] FL)) :
    PySem.W.WalkO q loose XP YP l.row.toRowW d [] (fun f vs => PySem.call f vs) := by
  refine LamX.walk_ofTsE (CX := fun w => L2.CX l.prog w) (x := x) hn hn2 hdf hr (fun w mg fa h Y Gm hmg => ?_) fun w H s e s' z => ?_
  · obtain ⟨K, G, fd, cs, KX, h1, h2, h3, h0, hb, hf⟩ := F w mg fa h Y Gm hmg
    refine ⟨K, KX, fd, cs, spT ⟨K, G⟩ [false] FL, h1, h2, h3, hb, fun H a ns hl hbb hT hS => ?_, hf⟩
    refine ⟨fun b => if b = G 0 ∧ G 0 ≠ 0 then none else H b, [.nd false .ro (ns.map .int)], [], rfl, rfl, ?_, ?_⟩
    · have zs : SqL K (fun b => if b = G 0 ∧ G 0 ≠ 0 then none else H b) a (ns.map V.int) := by
        have na : G 0 ≠ 0 → ∀ o, H a = some o → (∀ ps, o ≠ .tbl ps) → ¬ (a = G 0 ∧ G 0 ≠ 0) := fun hg o e no z => by
          rcases h0 with e0 | ⟨c, hc⟩
          · exact hg e0
          · have := hT _ hc
            rw [← z.1, e] at this
            exact no _ (Option.some.inj this)
        by_cases hg : G 0 = 0
        · have : (fun b => if b = G 0 ∧ G 0 ≠ 0 then none else H b) = H := funext fun b => if_neg fun z => z.2 hg
          rw [this]; exact hS
        · rcases hS with (e | ⟨o, e⟩) | e
          · exact .inl (.inl ((if_neg (na hg _ e fun ps z => by cases z)).trans e))
          · exact .inl (.inr ⟨o, (if_neg (na hg _ e fun ps z => by cases z)).trans e⟩)
          · exact .inr e
      have rp : Rp ⟨K, G⟩ (fun b => if b = G 0 ∧ G 0 ≠ 0 then none else H b) H (.nd false .ro (ns.map .int)) (.ref a) [] := by
        refine ⟨a, ns.map V.int, rfl, zs, ?_, rfl⟩
        clear hl hS zs hbb
        induction ns with
        | nil => exact ⟨rfl, rfl⟩
        | cons i ns ih => exact ⟨.int i, ns.map V.int, [], [], rfl, rfl, ⟨rfl, rfl⟩, ih⟩
      have hz : Same (fun b => if b = G 0 ∧ G 0 ≠ 0 then none else H b) H := fun b o e => by
        by_cases hb : b = G 0 ∧ G 0 ≠ 0
        · have e : (if b = G 0 ∧ G 0 ≠ 0 then none else H b) = some o := e
          rw [if_pos hb] at e; cases e
        · have e : (if b = G 0 ∧ G 0 ≠ 0 then none else H b) = some o := e
          rw [if_neg hb] at e; exact e
      by_cases hg : G 0 = 0
      · refine ⟨hz, [], ?_, List.nodup_nil, fun _ h => by cases h⟩
        exact ⟨[], [], rfl, rp, Eq.mpr (congrArg (fun L => Fp ⟨K, G⟩ _ H L []) (show ((trs [] []).append []).append (tabs ⟨K, G⟩) = [] from if_pos hg)) rfl⟩
      · refine ⟨hz, [G 0], ?_, by simp, fun b hb => ?_⟩
        · refine ⟨[], [G 0], rfl, rp, Eq.mpr (congrArg (fun L => Fp ⟨K, G⟩ _ H L [G 0]) (show ((trs [] []).append []).append (tabs ⟨K, G⟩) = [.tab (G 0) lamQ] from if_neg hg)) ?_⟩
          rcases h0 with e0 | ⟨c, hc⟩
          · exact absurd e0 hg
          · exact ⟨[G 0], [], rfl, ⟨⟨#[], hT _ hc, trivial, fun pos cv z => by cases z⟩, rfl⟩, rfl⟩
        · rw [List.mem_singleton.mp hb]
          exact if_pos ⟨rfl, hg⟩
    · show FPost _ _ _ _ _ _ _ (FL [.nd false .ro (ns.map .int)])
      rw [hF ns hl]
      intro v H' Z' _ _ S
      obtain ⟨_, ⟨fp, ⟨f1, f2, _, rp, _⟩, _⟩⟩ := S
      exact rp.1
  · obtain ⟨_, _, _, _, _, _, _, _, _, _, _, _, h⟩ := z
    exact h
/-! ### facts by names -/
def oexB (K : PySem.W.Frag) (C : Addr) : Bool := (match K.lookup C with
  | some ⟨.type c, _, .cls cd, sl⟩ => decide (c = "type") && ((match cd.mro, sl.toList with
    | .ref C' :: bm, [_, _, _, _, some (.builtin n), _] => decide (C' = C) && (decide (n = "ValueError.__new__") && PySem.HandSPX.refsVE bm)
    | _, _ => false) && (cd.hasDict && !cd.hasDel))
  | _ => false) && (He.eqO (PySem.W.findIn K (.ref C) "__setattr__") (some (some (.builtin "object.__setattr__"))) && (decide (PySem.W.subIn K (.ref C) (.type "BaseException") = some true) && (decide (PySem.W.typeIn K (.ref C) = some (.type "type")) && PySem.W.keepIn K (.ref C))))
theorem oexB_ok {K : PySem.W.Frag} {C : Addr} (h : oexB K C = true) : OexC K C := by
  obtain ⟨h1, h⟩ := He.ba h
  obtain ⟨h2, h⟩ := He.ba h
  obtain ⟨h3, h⟩ := He.ba h
  obtain ⟨h4, h5⟩ := He.ba h
  refine ⟨?_, He.eqO_ok h2, of_decide_eq_true h3, of_decide_eq_true h4, h5⟩
  split at h1
  · rename_i c dd cd sl e
    obtain ⟨a1, h1⟩ := He.ba h1
    obtain ⟨h1, a2⟩ := He.ba h1
    obtain ⟨a3, a4⟩ := He.ba a2
    split at h1
    · rename_i C' bm k0 k1 k2 k3 n k5 em es
      obtain ⟨b1, h1⟩ := He.ba h1
      obtain ⟨b2, b3⟩ := He.ba h1
      have e1 := of_decide_eq_true a1
      have e2 := of_decide_eq_true b1
      have e3 := of_decide_eq_true b2
      obtain ⟨nm, bs, mro, ns, q, hd, sn, sub, ab, col, hdl⟩ := cd
      obtain ⟨sl⟩ := sl
      simp only at em es a3 a4
      subst e1 e2 e3 em es
      have a4 : hdl = false := by cases hdl <;> simp at a4 <;> rfl
      subst a3 a4
      exact ⟨_, _, _, _, _, _, _, _, _, _, _, _, _, _, _, e, b3⟩
    · cases h1
  · cases h1
/-- a class that is raised with a field -/
def clsB (K : PySem.W.Frag) (x f : Str) : Bool := oexB K (He.ga K x) && (xfB K (He.ga K x) && (He.eqO (PySem.W.findIn K (.ref (He.ga K x)) f) (some none) && (He.eqO (PySem.W.findIn K (.ref (He.ga K x)) "__init__") (some (some (.ref (He.ma K (He.ga K x) "__init__")))) && decide (PySem.W.typeIn K (.ref (He.ma K (He.ga K x) "__init__")) = some (.type "function")))))
structure ClsF (K : PySem.W.Frag) (x f : Str) : Prop where
  o : OexC K (He.ga K x)
  xf : XfC K (He.ga K x)
  n : PySem.W.findIn K (.ref (He.ga K x)) f = some none
  i : PySem.W.findIn K (.ref (He.ga K x)) "__init__" = some (some (.ref (He.ma K (He.ga K x) "__init__")))
  t : PySem.W.typeIn K (.ref (He.ma K (He.ga K x) "__init__")) = some (.type "function")
theorem clsB_ok {K : PySem.W.Frag} {x f : Str} (h : clsB K x f = true) : ClsF K x f := by
  obtain ⟨h1, h⟩ := He.ba h
  obtain ⟨h2, h⟩ := He.ba h
  obtain ⟨h3, h⟩ := He.ba h
  obtain ⟨h4, h5⟩ := He.ba h
  exact ⟨oexB_ok h1, xfB_ok h2, He.eqO_ok h3, He.eqO_ok h4, of_decide_eq_true h5⟩
/-- which class of some is which -/
def exmB (K : PySem.W.Frag) (xs : List Str) : Bool := (List.range xs.length).all fun i => (List.range xs.length).all fun j => decide (PySem.W.exmOne K (.ref (He.ga K (xs.getD i ""))) (.ref (He.ga K (xs.getD j ""))) = some (decide (i = j)))
theorem exmB_ok {K : PySem.W.Frag} {xs : List Str} (h : exmB K xs = true) {i j : Nat} (hi : i < xs.length) (hj : j < xs.length) : PySem.W.exmOne K (.ref (He.ga K (xs.getD i ""))) (.ref (He.ga K (xs.getD j ""))) = some (decide (i = j)) :=
  of_decide_eq_true (List.all_eq_true.mp (List.all_eq_true.mp h i (List.mem_range.mpr hi)) j (List.mem_range.mpr hj))
/-- where the numbered things stand: the table of the law's code, the classes -/
def Gx (t : Addr) (K : PySem.W.Frag) (xs : List Str) : Nat → Addr
  | 0 => t
  | n + 1 => He.ga K (xs.getD n "")
section
variable {K : PySem.W.Frag} {h : Heap} {mg : Str → Option Value} {fa : List He.Fa} {fn : List He.DefD}
def dfD (x : Str) (st : Stmt) : He.DefD := ⟨(x, none), x, x, defArgs st, defBody st, defScope st, [], []⟩
def mtD (c m q : Str) (st : Stmt) : He.DefD := ⟨(c, some m), m, q, defArgs st, defBody st, defScope st, [], []⟩
theorem funOf {x q : Str} {st : Stmt} {f : Addr} {fd : FuncData} (F : FunD K x q (defArgs st) (defBody st) (defScope st) [] [] f fd) : Fun K x q st f fd := by
  obtain ⟨oc, od, dV, kV, doc, pm, an, cdv, ct, osl, e, lk, c, dv, _⟩ := F.ex
  rcases dv with ⟨_, rfl⟩ | ⟨n, _⟩
  · exact ⟨⟨oc, od, kV, doc, pm, an, cdv, ct, osl, e, lk, c⟩, F.kp⟩
  · exact absurd rfl n
theorem dfx {x : Str} {st : Stmt} {ps : List Str} (c : He.SaysD fa fn K) (X : K.In h) (Gm : h.Ns mainGlobals mg) (i j : Nat) (hd : fn[i]? = some (dfD x st)) (hg : fa[j]? = some (.glo x))
    (hb : ∀ (kV doc pm : Value) (an : Option Addr) (cdv ct : Value) (us : List Value), us.length = ps.length → bindArgs (PySem.W.fnOf x x (defArgs st) (defBody st) (defScope st) .none kV doc pm an cdv ct) ⟨us, []⟩ = pure (ps.zip us)) : DefOk K mg x st ps := by
  obtain ⟨fd, F⟩ := c.def_ i hd
  have F1 : FunD K x x (defArgs st) (defBody st) (defScope st) [] [] (He.ga K x) fd := F
  have U := funOf F1
  refine ⟨He.ga K x, fd, U, He.glo_ok X Gm (c.fact j hg), U.kp, fun us hl => ?_⟩
  obtain ⟨oc, od, kV, doc, pm, an, cdv, ct, osl, rfl, _⟩ := U.ex
  exact hb kV doc pm an cdv ct us hl
theorem lawCode {st : Stmt} {fd : FuncData} {x : Str} (U : Fun K x x st (He.ga K x) fd) : fd.code = .ref (He.cT K (x, none)).1 := by
  obtain ⟨oc, od, kV, doc, pm, an, cdv, ct, osl, rfl, lk, hcd⟩ := U.ex
  obtain ⟨c, rfl⟩ := He.codeIn_ref hcd
  have lk2 : K.lookup (He.fAd K (x, none)) = some ⟨oc, od, .func (PySem.W.fnOf x x (defArgs st) (defBody st) (defScope st) .none kV doc pm an (.ref c) ct), osl⟩ := lk
  have e := He.codeOf_eq (p := (x, none)) lk2 rfl
  show Value.ref c = .ref (He.codeOf K (x, none))
  rw [e]
theorem all_at {l : List Bool} (h : l.all id = true) (i : Nat) {b : Bool} (e : l[i]? = some b) : b = true := List.all_eq_true.mp h b (List.mem_of_getElem? e)
theorem lt_of_all {n : Nat} {l : List Nat} (h : (l.all fun c => decide (c < n)) = true) {c : Nat} (hc : c ∈ l) : c < n := of_decide_eq_true (List.all_eq_true.mp h c hc)
end
end Tw

set_option maxRecDepth 100000
set_option maxHeartbeats 4000000
namespace Tw
open PySem PySem.Spec PyProof.Rows L2 LamX
/-! ### raise C() -/
theorem pmk_own0 {X : Cx} {C : Addr} {bmB : List Value} {B newId initId : String} {x : Str} {p pos : Pos} (F : ExcBaseFacts B newId initId bmB) (q : PySem.W.excIn X.K C bmB newId = true) (gC : X.mg x = some (.ref C)) (kC : PySem.W.keepIn X.K (.ref C) = true) (r : Raises X (.ref C)) (hg : Gl X x)
    (hdb : (x == ("__debug__" : Str)) = false := by decide) : PMk X (.Call (.Name x p) [] [] pos) (fun _ H Q => Q (.ref C) none H) := by
  intro pins s σ H Q I h
  refine wpAny_Call_Name_kw (ld_glob I hg gC ?_ hdb)
  refine PySem.W.callWith_K0 I.kIn kC ?_
  show wpAny _ _ (call (.ref C) []) _ _ _
  obtain ⟨bm, N, nm, qn, bs, hdct, sn, sub, ab, col, dd, k0, k1, k2, k3, k5, mN, hC, hN, hni, T⟩ := exc_obj I.kIn q
  refine wpAny_call_exc_subT F T hC hN hni (fun h' e hm => ?_) (by rw [sizeLine_eq]; exact Nat.zero_le _)
  exact mk_of I hm r h (I.hok.gone hm.new)
/-- what a def that raises C() takes of the class -/
structure Rz0 (K : PySem.W.Frag) (mg : Str → Option Value) (G : Nat → Addr) (c : Nat) (x : Str) : Prop where
  q : PySem.W.excIn K (G (c + 1)) He.veBase "ValueError.__new__" = true
  m : mg x = some (.ref (G (c + 1)))
  k : PySem.W.keepIn K (.ref (G (c + 1))) = true
  s : PySem.W.subIn K (.ref (G (c + 1))) (.type "BaseException") = some true
  t : PySem.W.typeIn K (.ref (G (c + 1))) = some (.type "type")
def sRaise0 (c : Nat) : Env → R Env Out := fun ρ => .exc c [] ρ
section
variable {X : Cx} {G : Nat → Addr} {W : WX} {fx : List Nat} {p pos pos' : Pos}
theorem sx_raise0 {x : Str} {c : Nat} (O : XOk X W) (Z : Rz0 X.K X.mg G c x) (hg : Gl X x) (hdb : (x == ("__debug__" : Str)) = false := by decide) : Sx X G W fx (.Raise (some (.Call (.Name x p) [] [] pos)) none pos') (sRaise0 c) :=
  ⟨fun σ H Z1 ρ L D S P => toS (ps_raise (pos := pos') O.calm O.tk (pmk_own0 PySem.F.excBase_ValueError Z.q Z.m Z.k (raises_own Z.s Z.t) hg hdb)) (P none σ H Z1 (Same.refl _) Fx.refl S rfl)⟩
end
section
variable {E : XQ Env} (ρ : Env)
theorem wp_sRaise0 {Q : Out → Prop} (t : Tag Q) (u : Tag E) (c : Nat) : Wp (sRaise0 c ρ) Q E t u = E c [] ρ := rfl
end
/-! ### told's clauses -/
section
variable {Y : Cx} {x : Str} {C S : Addr} {w f : List Nat} {hds : List ExceptHandler} {l : List (Value × Su)} {p1 p2 p3 p4 p5 p6 p7 p8 p9 p10 : Pos}
structure YOk (Y : Cx) : Prop where
  nd : Y.N.Nodup
  n1 : Y.N[1]? = some ("_law_found" : Str)
  n2 : Y.N[2]? = some ("e" : Str)
  l1 : Y.env.scope.names.lookup ("_law_found" : Str) = some .local
  l2 : Y.env.scope.names.lookup ("e" : Str) = some .local
theorem cl_fld {k1 j : _} (O : YOk Y) (hx : Names Y x (.ref C)) (T : XfC Y.K C) (hno : PySem.W.findIn Y.K (.ref C) (mkS f) = some none) (rest : Clauses Y "e" hds l) :
    Clauses Y "e" (.ExceptHandler (some (.Name x p1)) (some "e") [.Assign [.Name "_law_found" p2] (.Tuple [.Constant (.str (mkS w)) k1 p3, .Attribute (.Name "e" p4) (mkS f) p5] j p6) p7] p8 :: hds) (suite Y.K S (C, .fld w f) :: l) :=
  .more hx (fun a oe cls d pn hz hf => pss_one (ps_set (X := Y.suite a ((a, oe) :: pn)) (i := 1) O.nd O.n1 (.inl O.l1) (pe_tup (pa_cons pe_str (pa_cons (pe_xf T hno hz hf (pe_var (i := 2) O.n2 (.inl O.l2))) pa_nil))) (hf := .inr O.l1))) rest
theorem pe_isE {a : Addr} {oe : Obj} {cls : Value} {d : Option Addr} {pn : List (Addr × Obj)} {y : Str} (O : YOk Y) (T : ExcC Y.K C) (hz : Zc cls d oe) (hf : ∃ vs, oe.data = .fields vs) (gi : Gl Y "isinstance") (mi : Y.mg "isinstance" = none) (gS : Gl Y y) (mS : Y.mg y = some (.ref S)) (hy : (y == ("__debug__" : Str)) = false := by decide) :
    PE (Y.suite a ((a, oe) :: pn)) (.Call (.Name "isinstance" p1) [.Name "e" p2, .Name y p3] [] p4) (tIsE Y.K C S a cls d) := by
  refine ⟨fun pins s σ H Q I h => ?_⟩
  obtain ⟨rfl, rfl, hk, h2, q⟩ := h
  refine (pe_callB (X := Y.suite a ((a, oe) :: pn)) (call_isE T hz hf) gi mi PyProof.Rows.boot_isinstance (pa_cons (pe_var (i := 2) O.n2 (.inl O.l2)) (pa_cons (pe_glob (v := .ref S) gS mS rfl hy) pa_nil))).run pins s σ H Q I ?_
  exact ⟨_, h2, .ref S, .ref S, true, rfl, fun u r => r, hk, q⟩
theorem cl_isi {k1 j : _} {y : Str} (O : YOk Y) (hx : Names Y x (.ref C)) (T : ExcC Y.K C) (gi : Gl Y "isinstance") (mi : Y.mg "isinstance" = none) (gS : Gl Y y) (mS : Y.mg y = some (.ref S)) (rest : Clauses Y "e" hds l) (hy : (y == ("__debug__" : Str)) = false := by decide) :
    Clauses Y "e" (.ExceptHandler (some (.Name x p1)) (some "e") [.Assign [.Name "_law_found" p2] (.Tuple [.Constant (.str (mkS w)) k1 p3, .Call (.Name "isinstance" p4) [.Name "e" p5, .Name y p6] [] p7] j p8) p9] p10 :: hds) (suite Y.K S (C, .isi w) :: l) :=
  .more hx (fun a oe cls d pn hz hf => pss_one (ps_set (X := Y.suite a ((a, oe) :: pn)) (i := 1) O.nd O.n1 (.inl O.l1) (pe_tup (pa_cons pe_str (pa_cons (pe_isE O T hz hf gi mi gS mS hy) pa_nil))) (hf := .inr O.l1))) rest
theorem cl_no {b : Stmt} {bs : List Stmt} (hx : Names Y x (.ref C)) (rest : Clauses Y "e" hds l) : Clauses Y "e" (.ExceptHandler (some (.Name x p1)) (some "e") (b :: bs) p10 :: hds) (suite Y.K S (C, .no) :: l) :=
  .more hx (fun a oe cls d pn hz hf => pss_never) rest
end
/-- a base class told of by isinstance -/
def excB (K : PySem.W.Frag) (D : Addr) : Bool := He.eqO (PySem.W.findIn K (.ref D) "__getattribute__") (some (some (.builtin "BaseException.__getattribute__"))) && (He.eqO (PySem.W.findIn K (.ref D) "__getattr__") (some none) && (decide (PySem.W.subIn K (.ref D) (.type "BaseException") = some true) && (PySem.W.hasDictIn K D &&
  (He.eqO (PySem.W.findIn K (.ref D) "__class__") (some (some (.builtin "object.__class__"))) && (He.eqO (PySem.W.specialIn K (.builtin "object.__class__") "__get__") (some (some (.builtin "getset_descriptor.__get__"))) && (decide (PySem.W.takesIn K (.builtin "object.__class__") = some true) && decide (PySem.W.mroIn K D (.type "object") = some true)))))))
theorem excB_ok {K : PySem.W.Frag} {D : Addr} (h : excB K D = true) : ExcC K D := by
  obtain ⟨h1, h⟩ := He.ba h
  obtain ⟨h2, h⟩ := He.ba h
  obtain ⟨h3, h⟩ := He.ba h
  obtain ⟨h4, h⟩ := He.ba h
  obtain ⟨h5, h⟩ := He.ba h
  obtain ⟨h6, h⟩ := He.ba h
  obtain ⟨h7, h8⟩ := He.ba h
  exact ⟨He.eqO_ok h1, He.eqO_ok h2, of_decide_eq_true h3, h4, He.eqO_ok h5, He.eqO_ok h6, of_decide_eq_true h7, of_decide_eq_true h8⟩
/-- a class that is raised without a field -/
def clsB0 (K : PySem.W.Frag) (x y : Str) : Bool := excB K (He.ga K x) && (PySem.W.excIn K (He.ga K x) He.veBase "ValueError.__new__" && (PySem.W.keepIn K (.ref (He.ga K x)) && (decide (PySem.W.typeIn K (.ref (He.ga K x)) = some (.type "type")) && decide (PySem.W.kitOne K (.ref (He.ga K x)) (.ref (He.ga K y)) = some true))))
structure Cls0 (K : PySem.W.Frag) (x y : Str) : Prop where
  e : ExcC K (He.ga K x)
  q : PySem.W.excIn K (He.ga K x) He.veBase "ValueError.__new__" = true
  k : PySem.W.keepIn K (.ref (He.ga K x)) = true
  t : PySem.W.typeIn K (.ref (He.ga K x)) = some (.type "type")
  i : PySem.W.kitOne K (.ref (He.ga K x)) (.ref (He.ga K y)) = some true
theorem clsB0_ok {K : PySem.W.Frag} {x y : Str} (h : clsB0 K x y = true) : Cls0 K x y := by
  obtain ⟨h1, h⟩ := He.ba h
  obtain ⟨h2, h⟩ := He.ba h
  obtain ⟨h3, h⟩ := He.ba h
  obtain ⟨h4, h5⟩ := He.ba h
  exact ⟨excB_ok h1, h2, h3, of_decide_eq_true h4, of_decide_eq_true h5⟩
theorem Cls0.rz {K : PySem.W.Frag} {mg : Str → Option Value} {G : Nat → Addr} {c : Nat} {x y : Str} (h : Cls0 K x y) (hG : G (c + 1) = He.ga K x) (hm : mg x = some (.ref (He.ga K x))) : Rz0 K mg G c x := by
  refine ⟨?_, ?_, ?_, ?_, ?_⟩ <;> rw [hG]
  · exact h.q
  · exact hm
  · exact h.k
  · exact h.e.hs
  · exact h.t
end Tw

set_option maxRecDepth 100000
set_option maxHeartbeats 4000000
namespace Tw
open PySem PySem.Spec PyProof.Rows L2
/-! ### a part moved out of a tuple -/
/-- a thing of which is known that it stands somewhere, no more -/
abbrev D.hol : D := .nd false .hole []
theorem rp_hol {K : Ct} {Z H : Hp} {a : Addr} : Rp K Z H .hol (.ref a) [] := ⟨a, [], rfl, trivial, ⟨rfl, rfl⟩, rfl⟩
theorem ref_of {K : Ct} {Z H : Hp} {d : D} {v : V} {fp : List Addr} (r : Rp K Z H d v fp) (h : isFrz d = false) : ∃ a, v = .ref a := by
  cases d with
  | tup ds => obtain ⟨a, vs, e, _⟩ := r; exact ⟨a, e⟩
  | nd m k ds =>
    cases m with
    | true => obtain ⟨a, vs, own, fp', e, _⟩ := r; exact ⟨a, e⟩
    | false => obtain ⟨a, vs, e, _⟩ := r; exact ⟨a, e⟩
  | non => cases h
  | bl _ => cases h
  | int _ => cases h
  | str _ => cases h
  | glb _ => cases h
/-- the k-th part out, a hole in its place -/
def dPartM (i k : Nat) : Env → R Env (D × Env) := fun ρ => match gVar i ρ with
  | some (.tup ds) => match ds[k]? with
    | some d => if isFrz d = true then .ok (d, ρ) else .ok (d, ρ.set i (some (.tup (ds.set k .hol))))
    | none => .stuck
  | _ => .stuck
theorem trs_hol {K : Ct} {Z H : Hp} : ∀ {ds : List D} {vs : List V} {k : Nat} {d : D}, ds.length = vs.length → ds[k]? = some d → ∃ v, vs[k]? = some v ∧ (trs ds vs).Perm (.tr d v :: (trs (ds.set k .hol) vs).eraseIdx k) ∧ (trs (ds.set k .hol) vs).Perm (.tr .hol v :: (trs (ds.set k .hol) vs).eraseIdx k)
  | d0 :: ds, v0 :: vs, 0, d, _, e => by
    simp at e; subst e
    exact ⟨v0, rfl, .refl _, .refl _⟩
  | d0 :: ds, v0 :: vs, k + 1, d, l, e => by
    obtain ⟨v, ev, p1, p2⟩ := trs_hol (K := K) (Z := Z) (H := H) (ds := ds) (vs := vs) (k := k) (d := d) (by simpa using l) (by simpa using e)
    refine ⟨v, by simpa using ev, ?_, ?_⟩
    · show (It.tr d0 v0 :: trs ds vs).Perm (.tr d v :: (It.tr d0 v0 :: trs (ds.set k .hol) vs).eraseIdx (k + 1))
      rw [List.eraseIdx_cons_succ]
      exact (p1.cons _).trans (.swap _ _ _)
    · show (It.tr d0 v0 :: trs (ds.set k .hol) vs).Perm (.tr .hol v :: (It.tr d0 v0 :: trs (ds.set k .hol) vs).eraseIdx (k + 1))
      rw [List.eraseIdx_cons_succ]
      exact (p2.cons _).trans (.swap _ _ _)
theorem atI_nth {vs : List V} {k : Nat} {v : V} (h : vs[k]? = some v) : L2.atI vs (k : Int) = some v := by
  have hk : k < vs.length := (List.getElem?_eq_some_iff.mp h).1
  unfold L2.atI
  rw [ixN_nat hk]; exact h
section
variable {X : Cx} {G : Nat → Addr} {W : WX} {fx : List Nat} {a tg iter e : Expr} {pos p q : Pos}
theorem ev_partM {i k : Nat} {j : _} (h : PE X a (tVar i)) (hs : PlainIx (.Constant (.int (k : Int)) j q)) : Ev X G W false (.Subscript a (.Constant (.int (k : Int)) j q) pos) (dPartM i k) := by
  refine ⟨fun z => (Bool.false_ne_true z).elim, fun σ H Z ρ T Q S P => ?_⟩
  unfold dPartM at P
  split at P
  · rename_i ds g1
    split at P
    · rename_i d e1
      have g2 := gVar_some g1
      obtain ⟨v, hv, S1⟩ := S.take g2
      have hl : i < σ.length := (List.getElem?_eq_some_iff.mp hv).1
      obtain ⟨b, vs, rfl, q1, l1, S2⟩ := S1.opnT
      obtain ⟨v1, ev, p1, p2⟩ := trs_hol (K := ⟨X.K, G⟩) (Z := Z) (H := H) l1 e1
      have S3 : Sa ⟨X.K, G⟩ Z H σ (ρ.set i none) (.tr d v1 :: ((trs (ds.set k .hol) vs).eraseIdx k ++ T)) := S2.perm (p1.append_right T)
      have run : Q v1 H → RunE X (.Subscript a (.Constant (.int (k : Int)) j q) pos) σ H Q := fun hq => toE (pe_ix ix_any h pe_int hs) ⟨.ref b, hv, .inl (.inr (.inl ⟨b, vs, k, v1, rfl, rfl, sqT_mono q1 S.si.zh, atI_nth ev, hq⟩))⟩
      by_cases fd : isFrz d = true
      · rw [if_pos fd] at P
        refine run (P v1 H Z (Same.refl _) (fun z => (Bool.false_ne_true z).elim) ?_)
        have S4 := S3.dup fd
        have e2 : ds.set k d = ds := set_self e1
        have S5 : Sa ⟨X.K, G⟩ Z H σ (ρ.set i none) (.tr d v1 :: (trs ds vs ++ T)) := S4.perm (List.Perm.cons _ ((p1.symm).append_right T))
        have S6 : Sa ⟨X.K, G⟩ Z H σ (ρ.set i none) (.tr (.tup ds) (.ref b) :: (.tr d v1 :: T)) := Sa.clsT q1 l1 (S5.perm (by exact List.perm_middle.symm))
        have S7 := S6.back hl hv
        rwa [show ρ.set i (some (.tup ds)) = ρ from set_self g2] at S7
      · have fd : isFrz d = false := by cases z : isFrz d <;> simp_all
        rw [if_neg (by rw [fd]; exact Bool.false_ne_true)] at P
        obtain ⟨fp, rd⟩ := S3.rp
        obtain ⟨a1, rfl⟩ := ref_of rd fd
        refine run (P _ H Z (Same.refl _) (fun z => (Bool.false_ne_true z).elim) ?_)
        have S4 : Sa ⟨X.K, G⟩ Z H σ (ρ.set i none) (.tr .hol (.ref a1) :: (.tr d (.ref a1) :: ((trs (ds.set k .hol) vs).eraseIdx k ++ T))) := Sa.of_front S3.ok (S3.si.add rp_hol)
        have S5 : Sa ⟨X.K, G⟩ Z H σ (ρ.set i none) (.tr d (.ref a1) :: (trs (ds.set k .hol) vs ++ T)) := (S4.perm (.swap _ _ _)).perm (List.Perm.cons _ ((p2.symm).append_right T))
        have S6 : Sa ⟨X.K, G⟩ Z H σ (ρ.set i none) (.tr (.tup (ds.set k .hol)) (.ref b) :: (.tr d (.ref a1) :: T)) := Sa.clsT q1 (by rw [List.length_set]; exact l1) (S5.perm (by exact List.perm_middle.symm))
        exact S6.back hl hv
    · exact P.elim
  · exact P.elim
/-! ### a loop over enumerate that eats -/
def sForCE (f : Env → R Env (D × Env)) (w : D → Env → Option Env) (g : Env → R Env Out) : Env → R Env Out := fun ρ => (f ρ).bind fun p => match p.1 with
  | .nd true .lst ds => forL w g (enuL 0 ds) p.2
  | _ => .stuck
theorem enuL_drop (ds : List D) (i : Nat) (h : i < ds.length) : (enuL 0 ds).drop i = .tup [.int (i : Nat), ds[i]] :: (enuL 0 ds).drop (i + 1) := by
  have hl : i < (enuL 0 ds).length := by rw [enuL_len]; exact h
  rw [List.drop_eq_getElem_cons hl]
  congr 1
  have := enuL_get (i := 0) (ds := ds) (j := i)
  rw [List.getElem?_eq_getElem hl, List.getElem?_eq_getElem h] at this
  have := Option.some.inj this
  rw [this, Nat.zero_add]
theorem sx_forCE {elts : List Expr} {kk : Nat} {tpos cpos : Pos} (O : XOk X W) {body : List Stmt} {b1 : Bool} {f : Env → R Env (D × Env)} {w : D → Env → Option Env} {g : Env → R Env Out} (hge : Gl X "enumerate") (hme : X.mg "enumerate" = none) (hi : Ev X G W b1 e f) (hg : Tg X G fx (.Tuple elts kk tpos) w) (hb : Bx X G W fx body g)
    (hse : starEach [e] X.env = [(false, eval e X.env)] := by rfl) (hs : ∀ x, foldedSetIterable (.Call (.Name "enumerate" p) [e] [] cpos) X.env x = pure x := by intro _; rfl) : Sx X G W fx (.For (.Tuple elts kk tpos) (.Call (.Name "enumerate" p) [e] [] cpos) body [] pos) (sForCE f w g) := by
  refine ⟨fun σ H Z ρ T D S P => toS (ps_for O.po O.calm (pi_enumA hge hme (pa_cons peR pa_nil hse) hse) (pgT hg) pbR hs) (hi.run σ H Z ρ T _ S ?_)⟩
  unfold sForCE at P
  cases e1 : f ρ with
  | stuck => rw [e1] at P; exact P
  | exc c fs ρ' => rw [e1] at P; exact YPost.x P
  | ok p =>
    obtain ⟨d, ρ1⟩ := p
    rw [e1] at P
    simp only [R.ok_bind] at P
    split at P
    · rename_i ds
      intro v H1 Z1 z1 _ S0
      obtain ⟨a, vs, rfl, lv, S1⟩ := S0.opn
      have seq : ∀ {Z' H' σ' ρ' L}, Sa ⟨X.K, G⟩ Z' H' σ' ρ' (.cl .lst a vs :: L) → SqL X.K H' a vs := fun S => by
        obtain ⟨own, c⟩ := S.front.cell
        exact SqL.of c.1
      refine .inl ⟨a, vs, rfl, seq S1, fun i m σ' H' => m = ds.length - i ∧ i ≤ ds.length ∧ ∃ Z' ρ', Same Z1 Z' ∧ Fx fx σ σ' ∧ Sa ⟨X.K, G⟩ Z' H' σ' ρ' (.cl .lst a vs :: (trs (ds.drop i) (vs.drop i) ++ T)) ∧ SPost ⟨X.K, G⟩ fx Z' σ' T W D (forL w g ((enuL 0 ds).drop i) ρ'),
        ⟨ds.length, rfl, Nat.zero_le _, Z1, ρ1, Same.refl _, .refl, S1, P.of z1 .refl⟩, ?_⟩
      rintro i m σ' H' ⟨rfl, hi', Z', ρ', z', f', S', P'⟩
      by_cases hlt : i < ds.length
      · have hlt2 : i < vs.length := by omega
        rw [trs_drop hlt hlt2] at S'
        rw [enuL_drop ds i hlt] at P'
        refine .inr ⟨⟨vs, vs[i], seq S', List.getElem?_eq_getElem hlt2⟩, fun σ2 H2 => ∃ Z2 ρ2, Same Z' Z2 ∧ Fx fx σ' σ2 ∧ Sa ⟨X.K, G⟩ Z2 H2 σ2 ρ2 (.cl .lst a vs :: (trs (ds.drop (i + 1)) (vs.drop (i + 1)) ++ T)) ∧ SPost ⟨X.K, G⟩ fx Z2 σ2 T W D (forL w g ((enuL 0 ds).drop (i + 1)) ρ2), ?_, ?_⟩
        · rintro σ2 H2 ⟨Z2, ρ2, z2, f2, S2, P2⟩
          exact ⟨ds.length - (i + 1), by omega, rfl, hlt, Z2, ρ2, z'.trans z2, f'.trans f2, S2, P2⟩
        · rintro x H2 ⟨A, y, rfl, hA, rfl, hy⟩
          have ex := hy vs (seq S')
          rw [List.getElem?_eq_getElem hlt2] at ex
          cases ex
          unfold forL at P'
          cases e2 : w (.tup [.int (i : Nat), ds[i]]) ρ' with
          | none => rw [e2] at P'; exact P'.elim
          | some ρ2 =>
            rw [e2] at P'
            simp only [oR_some, R.ok_bind] at P'
            have S5 : Sa ⟨X.K, G⟩ Z' H' σ' ρ' (.tr ds[i] vs[i] :: ((.cl .lst a vs :: trs (ds.drop (i + 1)) (vs.drop (i + 1))) ++ T)) := S'.perm (List.Perm.swap _ _ _)
            have s6 := S5.front.add (d := .int (i : Nat)) (v := .int (i : Nat)) ⟨rfl, rfl⟩
            obtain ⟨z6, s7⟩ := SI.newT (ds := [.int (i : Nat), ds[i]]) (vs := [.int (i : Nat), vs[i]]) (p := A) rfl s6 hA
            have S8 := Sa.of_front S5.ok s7
            refine ⟨_, ρ', (.cl .lst a vs :: trs (ds.drop (i + 1)) (vs.drop (i + 1))) ++ T, .tup [.int (i : Nat), ds[i]], ρ2, S8, e2, fun σ3 f3 S3 => ?_⟩
            refine hb.run σ3 _ _ ρ2 _ _ S3 ?_
            have P3 := P'.of z6 f3
            cases e3 : g ρ2 with
            | stuck => rw [e3] at P3; exact P3
            | exc c fs ρ' => rw [e3] at P3; exact fun dx σ' H' Z' z f S x => P3 dx σ' H' Z' z f S.dropL x
            | ok o =>
              rw [e3] at P3
              simp only [R.ok_bind] at P3
              cases o with
              | nx ρ4 => exact fun σ4 H4 Z4 z4 f4 S4 => ⟨Z4, ρ4, z6.trans z4, f3.trans f4, S4, P3.of z4 f4⟩
              | ct ρ4 => exact fun σ4 H4 Z4 z4 f4 S4 => ⟨Z4, ρ4, z6.trans z4, f3.trans f4, S4, P3.of z4 f4⟩
              | bk ρ4 => exact fun σ4 H4 Z4 z4 f4 S4 => P3 σ4 H4 Z4 z4 f4 S4.dropL
              | rt d ρ4 => exact fun v σ4 H4 Z4 z4 f4 S4 => P3 v σ4 H4 Z4 z4 f4 S4.dropM
      · have e : i = ds.length := by omega
        subst e
        rw [List.drop_of_length_le (by rw [enuL_len]; exact Nat.le_refl _)] at P'
        exact .inl ⟨⟨vs, seq S', by omega⟩, P' σ' H' Z' (Same.refl _) .refl (Sa.dropL (L := .cl .lst a vs :: trs (ds.drop ds.length) (vs.drop ds.length)) S')⟩
    · exact P.elim
end
def OnT (d : D) (Q : List D → Prop) (_ : Tag Q) : Prop := match d with | .tup ds => Q ds | _ => False
theorem onT_tup (ds : List D) (Q : List D → Prop) (t : Tag Q) : OnT (.tup ds) Q t = Q ds := rfl
section
variable {E : XQ Env} (ρ : Env)
theorem wp_dPartM {Q : D × Env → Prop} (t : Tag Q) (u : Tag E) (i k : Nat) : Wp (dPartM i k ρ) Q E t u = Op (gVar i ρ) (fun x => OnT x (fun ds => Op ds[k]? (fun d => Br (isFrz d) (Q (d, ρ)) (Q (d, ρ.set i (some (.tup (ds.set k .hol))))) .mk .mk) .mk) .mk) .mk := by
  unfold dPartM
  cases gVar i ρ with
  | none => rfl
  | some x =>
    cases x with
    | tup ds =>
      show Wp (match ds[k]? with
        | some d => if isFrz d = true then R.ok (d, ρ) else R.ok (d, ρ.set i (some (.tup (ds.set k .hol))))
        | none => R.stuck) Q E t u = Op ds[k]? _ .mk
      cases ds[k]? with
      | none => rfl
      | some d =>
        show Wp (if isFrz d = true then R.ok (d, ρ) else R.ok (d, ρ.set i (some (.tup (ds.set k .hol))))) Q E t u = Br (isFrz d) _ _ .mk .mk
        cases isFrz d <;> rfl
    | _ => rfl
theorem wp_sForCE {Q : Out → Prop} (t : Tag Q) (u : Tag E) (f : Env → R Env (D × Env)) (w : D → Env → Option Env) (g : Env → R Env Out) :
    Wp (sForCE f w g ρ) Q E t u = Wp (f ρ) (fun p => OnL (some p.1) (fun ds => Wp (forL w g (enuL 0 ds) p.2) Q E .mk .mk) .mk) E .mk .mk := by
  show Wp ((f ρ).bind _) Q E t u = _
  rw [wp_bind]
  refine wp_cg fun p => ?_
  obtain ⟨d, ρ2⟩ := p
  cases d with
  | nd m k ds => cases m <;> cases k <;> rfl
  | _ => rfl
end
end Tw

set_option maxRecDepth 100000
set_option maxHeartbeats 4000000
namespace Tw
open PySem PySem.Spec PyProof.Rows L2
/-! ### constants of the modules -/
structure KTup (K : PySem.W.Frag) (mg : Str → Option Value) (x : Str) (ds : List D) : Prop where
  ex : ∃ (a : Addr) (vs : List V), mg x = some (.ref a) ∧ (∀ H, SqT K H a vs) ∧ ∀ (C : Ct) Z H, Rps C Z H ds vs []
structure KStr (mg : Str → Option Value) (x : Str) (l : List Nat) : Prop where
  ex : ∃ t, mg x = some (.str (mkS l) t)
structure KInt (mg : Str → Option Value) (x : Str) (i : Int) : Prop where
  ex : ∃ t, mg x = some (.int i t)
section
variable {X : Cx} {G : Nat → Addr} {W : WX} {p : Pos}
theorem ev_ktup {x : Str} {ds : List D} (h : KTup X.K X.mg x ds) (hg : Gl X x) (hd : (x == ("__debug__" : Str)) = false := by decide) : Ev X G W true (.Name x p) (dC (.tup ds)) := by
  obtain ⟨a, vs, hm, s, r⟩ := h.ex
  exact ev_val (v := .ref a) (pe_glob (v := .ref a) hg hm rfl hd) (fun _ _ _ q => q) fun Z H => ⟨a, vs, rfl, s Z, r _ Z H⟩
theorem ev_kstr {x : Str} {l : List Nat} (h : KStr X.mg x l) (hg : Gl X x) (hd : (x == ("__debug__" : Str)) = false := by decide) : Ev X G W true (.Name x p) (dC (.str l)) := by
  obtain ⟨t, hm⟩ := h.ex
  exact ev_val (v := .str (mkS l)) (pe_glob (v := .str (mkS l)) hg hm ⟨_, rfl⟩ hd) (fun _ _ _ q => q) fun Z H => ⟨rfl, rfl⟩
theorem ev_kint {x : Str} {i : Int} (h : KInt X.mg x i) (hg : Gl X x) (hd : (x == ("__debug__" : Str)) = false := by decide) : Ev X G W true (.Name x p) (dC (.int i)) := by
  obtain ⟨t, hm⟩ := h.ex
  exact ev_val (v := .int i) (pe_glob (v := .int i) hg hm ⟨_, rfl⟩ hd) (fun _ _ _ q => q) fun Z H => ⟨rfl, rfl⟩
end
/-- written things, as the head tells them -/
def dvD : He.Dv → D
  | .bl b => .bl b
  | .int i => .int i
  | .str x => .str x.cps.toList
  | _ => .non
def dvOk : He.Dv → Bool
  | .bl _ => true
  | .int _ => true
  | .str _ => true
  | .non => true
  | _ => false
theorem dv_rps {K : PySem.W.Frag} {C : Ct} {Z H : Hp} : ∀ {l : List He.Dv}, l.all dvOk = true → Rps C Z H (l.map dvD) (l.map (He.Dv.v K)) []
  | [], _ => ⟨rfl, rfl⟩
  | d :: l, h => by
    simp only [List.all_cons, Bool.and_eq_true] at h
    refine ⟨He.Dv.v K d, _, [], [], rfl, rfl, ?_, dv_rps h.2⟩
    cases d with
    | non => exact ⟨rfl, rfl⟩
    | bl b => exact ⟨rfl, rfl⟩
    | int i => exact ⟨rfl, rfl⟩
    | str x => exact ⟨by show V.str x = .str (mkS x.cps.toList); rw [mkS_eq], rfl⟩
    | _ => cases h.1
theorem ktup_of {K : PySem.W.Frag} {h : Heap} {mg : Str → Option Value} {x : Str} (l : List He.Dv) (X : K.In h) (Gm : h.Ns mainGlobals mg) (g : (He.Fa.glo x).ok K = true) (t : He.tupB K x l = true) (hl : l.all dvOk = true) : KTup K mg x (l.map dvD) :=
  ⟨He.ga K x, l.map (He.Dv.v K), He.glo_ok X Gm g, fun H => He.tupB_ok t H, fun C Z H => dv_rps hl⟩
theorem kstr_of {K : PySem.W.Frag} {h : Heap} {mg : Str → Option Value} {x z : Str} {l : List Nat} (X : K.In h) (Gm : h.Ns mainGlobals mg) (g : (He.Fa.str x z).ok K = true) (e : z = mkS l) : KStr mg x l := by
  obtain ⟨t, hm⟩ := He.str_ok X Gm g
  exact ⟨t, by rw [hm, e]⟩
theorem kint_of {K : PySem.W.Frag} {h : Heap} {mg : Str → Option Value} {x : Str} {i : Int} (X : K.In h) (Gm : h.Ns mainGlobals mg) (g : (He.Fa.int x i).ok K = true) : KInt mg x i := ⟨He.int_ok X Gm g⟩
/-! ### methods of texts -/
def stripF : F2
  | .str a, .str b => if a.length ≤ lim then some (.str (Txt.stripChars (mkS a) (mkS b)).cps.toList) else none
  | _, _ => none
def lstripF : F2
  | .str a, .str b => if a.length ≤ lim then some (.str (Txt.lstripChars (mkS a) (mkS b)).cps.toList) else none
  | _, _ => none
def rstripF : F2
  | .str a, .str b => if a.length ≤ lim then some (.str (Txt.rstripChars (mkS a) (mkS b)).cps.toList) else none
  | _, _ => none
def endsF : F2
  | .str a, .str b => some (.bl (Txt.endswith (mkS a) (mkS b)))
  | _, _ => none
def startsF : F2
  | .str a, .str b => some (.bl (Txt.startswith (mkS a) (mkS b)))
  | _, _ => none
def findF : F2
  | .str a, .str b => some (.int (Txt.find (mkS a) (mkS b)))
  | _, _ => none
def countF : F2
  | .str a, .str b => some (.int (Txt.count (mkS a) (mkS b)))
  | _, _ => none
def splitF : F2
  | .str a, .str b => if b ≠ [] ∧ a.length ≤ lim then some (.lst true ((Txt.split (mkS a) (mkS b)).map fun z => .str z.cps.toList)) else none
  | _, _ => none
section
variable {X : Cx} {G : Nat → Addr}
theorem str_flat {K : Ct} {Z H : Hp} (z : Str) : Al K Z H Z H (.str z.cps.toList) (.str z) := Al.flat fun _ _ => ⟨by rw [mkS_eq], rfl⟩
theorem mkS_lim {l : List Nat} (h : l.length ≤ lim) : (mkS l).length ≤ sizeLine := by rw [mkS_len]; exact lim_of h
theorem two_str {x y d : D} {F : List Nat → List Nat → Option D} {G' : F2} (hG : ∀ x y, G' x y = match x, y with | .str a, .str b => F a b | _, _ => none) (e : G' x y = some d) : ∃ a b, x = .str a ∧ y = .str b ∧ F a b = some d := by
  rw [hG] at e
  cases x with
  | str a => cases y with
    | str b => exact ⟨a, b, rfl, rfl, e⟩
    | _ => cases e
  | _ => cases e
theorem opF_strip : OpF X G (fun x y H Q => ∃ a b, x = .str a ∧ [y] = [V.str b] ∧ a.length ≤ sizeLine ∧ Q (.str (Txt.stripChars a b)) H) stripF := by
  intro Z H x y v u fx fy d Q zh rx ry e q
  obtain ⟨a, b, rfl, rfl, e2⟩ := two_str (F := fun a b => if a.length ≤ lim then some (.str (Txt.stripChars (mkS a) (mkS b)).cps.toList) else none) (fun x y => by cases x <;> cases y <;> rfl) e
  obtain ⟨rfl, rfl⟩ := rx
  obtain ⟨rfl, rfl⟩ := ry
  split at e2
  · cases e2; rename_i h; exact ⟨_, _, rfl, rfl, mkS_lim h, q _ _ _ (str_flat _)⟩
  · cases e2
theorem opF_lstrip : OpF X G (fun x y H Q => ∃ a b, x = .str a ∧ [y] = [V.str b] ∧ a.length ≤ sizeLine ∧ Q (.str (Txt.lstripChars a b)) H) lstripF := by
  intro Z H x y v u fx fy d Q zh rx ry e q
  obtain ⟨a, b, rfl, rfl, e2⟩ := two_str (F := fun a b => if a.length ≤ lim then some (.str (Txt.lstripChars (mkS a) (mkS b)).cps.toList) else none) (fun x y => by cases x <;> cases y <;> rfl) e
  obtain ⟨rfl, rfl⟩ := rx
  obtain ⟨rfl, rfl⟩ := ry
  split at e2
  · cases e2; rename_i h; exact ⟨_, _, rfl, rfl, mkS_lim h, q _ _ _ (str_flat _)⟩
  · cases e2
theorem opF_rstrip : OpF X G (fun x y H Q => ∃ a b, x = .str a ∧ [y] = [V.str b] ∧ a.length ≤ sizeLine ∧ Q (.str (Txt.rstripChars a b)) H) rstripF := by
  intro Z H x y v u fx fy d Q zh rx ry e q
  obtain ⟨a, b, rfl, rfl, e2⟩ := two_str (F := fun a b => if a.length ≤ lim then some (.str (Txt.rstripChars (mkS a) (mkS b)).cps.toList) else none) (fun x y => by cases x <;> cases y <;> rfl) e
  obtain ⟨rfl, rfl⟩ := rx
  obtain ⟨rfl, rfl⟩ := ry
  split at e2
  · cases e2; rename_i h; exact ⟨_, _, rfl, rfl, mkS_lim h, q _ _ _ (str_flat _)⟩
  · cases e2
theorem bl_flat {K : Ct} {Z H : Hp} (b : Bool) : Al K Z H Z H (.bl b) (.bl b) := Al.flat fun _ _ => ⟨rfl, rfl⟩
theorem int_flat {K : Ct} {Z H : Hp} (b : Int) : Al K Z H Z H (.int b) (.int b) := Al.flat fun _ _ => ⟨rfl, rfl⟩
theorem opF_ends : OpF X G (fun x y H Q => ∃ a b, x = .str a ∧ [y] = [V.str b] ∧ Q (.bl (Txt.endswith a b)) H) endsF := by
  intro Z H x y v u fx fy d Q zh rx ry e q
  obtain ⟨a, b, rfl, rfl, e2⟩ := two_str (F := fun a b => some (.bl (Txt.endswith (mkS a) (mkS b)))) (fun x y => by cases x <;> cases y <;> rfl) e
  obtain ⟨rfl, rfl⟩ := rx
  obtain ⟨rfl, rfl⟩ := ry
  cases e2
  exact ⟨_, _, rfl, rfl, q _ _ _ (bl_flat _)⟩
theorem opF_starts : OpF X G (fun x y H Q => ∃ a b, x = .str a ∧ [y] = [V.str b] ∧ Q (.bl (Txt.startswith a b)) H) startsF := by
  intro Z H x y v u fx fy d Q zh rx ry e q
  obtain ⟨a, b, rfl, rfl, e2⟩ := two_str (F := fun a b => some (.bl (Txt.startswith (mkS a) (mkS b)))) (fun x y => by cases x <;> cases y <;> rfl) e
  obtain ⟨rfl, rfl⟩ := rx
  obtain ⟨rfl, rfl⟩ := ry
  cases e2
  exact ⟨_, _, rfl, rfl, q _ _ _ (bl_flat _)⟩
theorem opF_find : OpF X G (fun x y H Q => ∃ a b, x = .str a ∧ [y] = [V.str b] ∧ Q (.int (Txt.find a b)) H) findF := by
  intro Z H x y v u fx fy d Q zh rx ry e q
  obtain ⟨a, b, rfl, rfl, e2⟩ := two_str (F := fun a b => some (.int (Txt.find (mkS a) (mkS b)))) (fun x y => by cases x <;> cases y <;> rfl) e
  obtain ⟨rfl, rfl⟩ := rx
  obtain ⟨rfl, rfl⟩ := ry
  cases e2
  exact ⟨_, _, rfl, rfl, q _ _ _ (int_flat _)⟩
theorem opF_count : OpF X G (fun x y H Q => ∃ a b, x = .str a ∧ [y] = [V.str b] ∧ Q (.int (Txt.count a b)) H) countF := by
  intro Z H x y v u fx fy d Q zh rx ry e q
  obtain ⟨a, b, rfl, rfl, e2⟩ := two_str (F := fun a b => some (.int (Txt.count (mkS a) (mkS b)))) (fun x y => by cases x <;> cases y <;> rfl) e
  obtain ⟨rfl, rfl⟩ := rx
  obtain ⟨rfl, rfl⟩ := ry
  cases e2
  exact ⟨_, _, rfl, rfl, q _ _ _ (int_flat _)⟩
/-- sub in text -/
def inSF : F2
  | .str a, .str b => some (.bl (!(Builtin.Str.occurrences (mkS b) (mkS a) 0 (mkS b).length 1).isEmpty))
  | _, _ => none
def ninSF : F2
  | .str a, .str b => some (.bl (!(!(Builtin.Str.occurrences (mkS b) (mkS a) 0 (mkS b).length 1).isEmpty)))
  | _, _ => none
theorem opF_inS : OpF X G (fun x y H Q => ∃ i j, x = .str i ∧ y = .str j ∧ Q (.bl (!(Builtin.Str.occurrences j i 0 j.length 1).isEmpty)) H) inSF := by
  intro Z H x y v u fx fy d Q zh rx ry e q
  obtain ⟨a, b, rfl, rfl, e2⟩ := two_str (F := fun a b => some (.bl (!(Builtin.Str.occurrences (mkS b) (mkS a) 0 (mkS b).length 1).isEmpty))) (fun x y => by cases x <;> cases y <;> rfl) e
  obtain ⟨rfl, rfl⟩ := rx
  obtain ⟨rfl, rfl⟩ := ry
  cases e2
  exact ⟨_, _, rfl, rfl, q _ _ _ (bl_flat _)⟩
theorem opF_ninS : OpF X G (fun x y H Q => ∃ i j, x = .str i ∧ y = .str j ∧ Q (.bl (!(!(Builtin.Str.occurrences j i 0 j.length 1).isEmpty))) H) ninSF := by
  intro Z H x y v u fx fy d Q zh rx ry e q
  obtain ⟨a, b, rfl, rfl, e2⟩ := two_str (F := fun a b => some (.bl (!(!(Builtin.Str.occurrences (mkS b) (mkS a) 0 (mkS b).length 1).isEmpty)))) (fun x y => by cases x <;> cases y <;> rfl) e
  obtain ⟨rfl, rfl⟩ := rx
  obtain ⟨rfl, rfl⟩ := ry
  cases e2
  exact ⟨_, _, rfl, rfl, q _ _ _ (bl_flat _)⟩
theorem strs_rps {K : Ct} {Z H : Hp} : ∀ l : List Str, Rps K Z H (l.map fun z => D.str z.cps.toList) (l.map V.str) []
  | [] => ⟨rfl, rfl⟩
  | z :: l => ⟨_, _, [], [], rfl, rfl, ⟨by rw [mkS_eq], rfl⟩, strs_rps l⟩
theorem opF_split : OpF X G (fun x y H Q => ∃ a b, x = .str a ∧ [y] = [V.str b] ∧ (b.length == 0) = false ∧ a.length + 2 ≤ sizeLine ∧ rNewStrs (Txt.split a b) H Q) splitF := by
  intro Z H x y v u fx fy d Q zh rx ry e q
  obtain ⟨a, b, rfl, rfl, e2⟩ := two_str (F := fun a b => if b ≠ [] ∧ a.length ≤ lim then some (.lst true ((Txt.split (mkS a) (mkS b)).map fun z => .str z.cps.toList)) else none) (fun x y => by cases x <;> cases y <;> rfl) e
  obtain ⟨rfl, rfl⟩ := rx
  obtain ⟨rfl, rfl⟩ := ry
  split at e2
  · cases e2
    rename_i h
    refine ⟨_, _, rfl, rfl, ?_, ?_, fun p hp => q _ _ _ (Al.newL (strs_rps _) hp)⟩
    · rw [mkS_len]
      cases b with
      | nil => exact absurd rfl h.1
      | cons _ _ => rfl
    · rw [mkS_len, sizeLine_eq]
      have := h.2
      show a.length + 2 ≤ 16777216
      have : a.length ≤ 1000000 := this
      omega
  · cases e2
end
end Tw

set_option maxRecDepth 100000
set_option maxHeartbeats 4000000
namespace Tw
open PySem PySem.Spec PyProof.Rows L2
/-! ### s += text -/
def ipSF : F2
  | .str x, .str y => if x.length + y.length ≤ lim then some (.str (x ++ y)) else none
  | _, _ => none
section
variable {X : Cx} {G : Nat → Addr}
theorem ip_addS : PIp X .Add (fun x y H Q => ∃ i j, x = .str i ∧ y = .str j ∧ i.length + j.length ≤ sizeLine ∧ Q (.str (i ++ j)) H) := iop_add_str
theorem ipF_addS : IpF X G (fun x y H Q => ∃ i j, x = .str i ∧ y = .str j ∧ i.length + j.length ≤ sizeLine ∧ Q (.str (i ++ j)) H) ipSF := by
  intro Z H x y v u fx fy d Q zh rx ry e q
  unfold ipSF at e
  split at e
  · obtain ⟨rfl, rfl⟩ := rx
    obtain ⟨rfl, rfl⟩ := ry
    split at e
    · rename_i h; cases e
      refine ⟨_, _, rfl, rfl, by rw [mkS_len, mkS_len]; exact lim_of h, ?_⟩
      rw [mkS_app]; exact q_str q
    · cases e
  · cases e
end
end Tw

namespace Tw.Lw
open PySem PySem.Spec L2

abbrev c_BadCount : Nat := 0
abbrev c_BadRow : Nat := 1
abbrev c_BadName : Nat := 2
abbrev c_BadEnd : Nat := 3
abbrev c_NoPlace : Nat := 4
abbrev c_Clash : Nat := 5
abbrev c_BadForm : Nat := 6
abbrev c_BadChanges : Nat := 7
abbrev c_BadCodes : Nat := 8
def clT : List Cl := [(0, .fld [99, 111, 117, 110, 116] [99, 111, 117, 110, 116]), (2, .fld [110, 97, 109, 101] [110, 97, 109, 101]), (3, .fld [101, 110, 100] [101, 110, 100]), (1, .fld [114, 111, 119] [110, 117, 109, 98, 101, 114]), (6, .isi [102, 111, 114, 109]), (7, .isi [99, 104, 97, 110, 103, 101, 115]), (8, .isi [99, 111, 100, 101, 115]), (4, .fld [112, 108, 97, 99, 101] [110, 117, 109, 98, 101, 114]), (5, .fld [99, 108, 97, 115, 104] [110, 117, 109, 98, 101, 114])]
-- q_draws : 0=script 1=item
def e_q_draws : Env → R Env Out := (sRet (dLst (aCons (dComp [1] (iSeq (ofG (gVar 0))) (wName 1) (asB (g2 geF (gVar 1) (toG (d2 powF (dC (.int 10)) (dC (.int 18)))))) (ofG (gVar 1))) (aCons (dC (.int 0)) (aCons (dComp [1] (iSeq (ofG (gVar 0))) (wName 1) (asB (g2 ltF (gVar 1) (toG (d2 powF (dC (.int 10)) (dC (.int 18)))))) (ofG (gVar 1))) (aCons (dC (.int 0)) aNil))))))
def F_q_draws : List D → FR := defD 2 [false] e_q_draws
-- q_mixed : 0=seed 1=k 2=first
def e_q_mixed : Env → R Env Out := (sSeq (sAsg (d2 modF (g1 intF (toG (d2 powF (g2 addF (toG (g2 addF (toG (d2 modF (g1 intF (gVar 0)) (dC (.int 2147483647)))) (toG (g2 mulF (toG (dC (.int 7919))) (gVar 1))))) (toG (dC (.int 104729)))) (dC (.int 5))))) (dC (.int 2147483629))) (wName 2)) (sRet (d2 modF (g1 intF (toG (d2 powF (g2 addF (toG (g2 addF (toG (g2 mulF (gVar 2) (toG (dC (.int 48271))))) (toG (g2 mulF (toG (g2 mulF (toG (dC (.int 40503))) (gVar 1))) (gVar 1))))) (toG (dC (.int 13)))) (dC (.int 3))))) (dC (.int 1000000007)))))
def F_q_mixed : List D → FR := defD 3 [false, false] e_q_mixed
-- q_take : 0=draws_here 1=size 2=seed 3=found 4=reach
def e_q_take : Env → R Env Out := (sSeq (sAsg (g2 addF (gIx (gVar 0) (toG (dC (.int 3)))) (toG (dC (.int 1)))) (wSub (pVar 0) (toG (dC (.int 3))))) (sSeq (sIf (tAn (asB (g2 eqF (gIx (gVar 0) (toG (dC (.int 1)))) (toG (dC (.int 0))))) (asB (g2 neF (gIx (gVar 0) (toG (dC (.int 0)))) (toG (dLst aNil))))) (sAsg (mMe popAtM (pIx (pVar 0) (toG (dC (.int 0)))) (aCons (dC (.int 0)) aNil)) (wSub (pVar 0) (toG (dC (.int 1))))) sNil) (sSeq (sIf (asB (g2 gtF (gIx (gVar 0) (toG (dC (.int 1)))) (toG (dC (.int 0))))) (sSeq (sAsg (d2 modF (g1 intF (gIx (gVar 0) (toG (dC (.int 1))))) (ofG (gVar 1))) (wName 3)) (sSeq (sAsg (d2 divF (ofG (gIx (gVar 0) (toG (dC (.int 1))))) (ofG (gVar 1))) (wSub (pVar 0) (toG (dC (.int 1))))) (sRet (dVarM 3)))) sNil) (sSeq (sAsg (dC (.int 17)) (wName 2)) (sSeq (sIf (asB (g2 neF (gIx (gVar 0) (toG (dC (.int 2)))) (toG (dLst aNil)))) (sAsg (ofG (gIx (gIx (gVar 0) (toG (dC (.int 2)))) (toG (d2 modF (g1 intF (gIx (gVar 0) (toG (dC (.int 3))))) (g1 lenF (gIx (gVar 0) (toG (dC (.int 2))))))))) (wName 2)) sNil) (sSeq (sAsg (dC (.int 0)) (wName 3)) (sSeq (sAsg (dC (.int 1)) (wName 4)) (sSeq (whileN (asB (g2 ltF (gVar 4) (gVar 1))) (sSeq (sAsg (g2 addF (toG (g2 mulF (gVar 3) (toG (dC (.int 1000000007))))) (toG (dCallV [false, false] [] F_q_mixed (aCons (ofG (gVar 2)) (aCons (g2 addF (gIx (gVar 0) (toG (dC (.int 3)))) (toG (g2 mulF (toG (dC (.int 1009))) (toG (d2 modF (g1 intF (gVar 3)) (dC (.int 97))))))) aNil))))) (wName 3)) (sAsg (dFrz (g2 mulF (gVar 4) (toG (dC (.int 1000000007))))) (wName 4))) fuel) (sRet (d2 modF (g1 intF (gVar 3)) (ofG (gVar 1))))))))))))
def F_q_take : List D → FR := defD 5 [true, false] e_q_take
-- q_pick : 0=draws_here 1=some
def e_q_pick : Env → R Env Out := (sRet (dIxV 1 (dCall [true, false] [] F_q_take (aRef 0 (aCons (g1 lenF (gVar 1)) aNil)))))
def F_q_pick : List D → FR := defD 2 [true, false] e_q_pick
-- q_same : 0=found 1=due 2=one 3=other
def e_q_same (S : List D → FR) : Env → R Env Out := (sSeq (sIf (asB (g1 (isF1 ["list", "tuple"]) (gVar 1))) (sSeq (sIf (tOu (asB (g2 neF (toG (g1 (isF1 ["list"]) (gVar 0))) (toG (g1 (isF1 ["list"]) (gVar 1))))) (asB (g2 neF (toG (g1 (isF1 ["tuple"]) (gVar 0))) (toG (g1 (isF1 ["tuple"]) (gVar 1)))))) (sRet (dC (.bl false))) sNil) (sRet (dAnd (g2 eqF (toG (g1 lenF (gVar 0))) (toG (g1 lenF (gVar 1)))) (g1 allF (toG (dComp [2, 3] (iZpA (aCons (ofG (gVar 0)) (aCons (ofG (gVar 1)) aNil))) (wTup 2 (wCons (wName 2) (wCons (wName 3) wNil))) tYs (dCallV [false, false] [] S (aCons (ofG (gVar 2)) (aCons (ofG (gVar 3)) aNil))))))))) sNil) (sSeq (sIf (asB (g1 (isF1 ["bool", "int"]) (gVar 1))) (sRet (dAnd (g1 (isF1 ["int"]) (gVar 0)) (dAnd (g2 eqF (toG (g1 (isF1 ["bool"]) (gVar 0))) (toG (g1 (isF1 ["bool"]) (gVar 1)))) (g2 eqF (gVar 0) (gVar 1))))) sNil) (sRet (dAnd (dNot (g1 (isF1 ["bool", "int", "list", "tuple"]) (gVar 0))) (g2 eqF (gVar 0) (gVar 1))))))
def F_q_same : Nat → List D → FR
  | 0 => noF
  | n + 1 => defD 4 [false, false] (e_q_same (F_q_same n))
-- frozen : 0=thing 1=inner
def e_frozen (S : List D → FR) : Env → R Env Out := (sSeq (sIf (asB (g1 (isF1 ["list", "tuple"]) (gVar 0))) (sRet (g1 tupF2 (toG (dFrz (dComp [1] (iSeq (ofG (gVar 0))) (wName 1) tYs (dCallV [false] [] S (aCons (ofG (gVar 1)) aNil))))))) sNil) (sRet (dVarM 0)))
def F_frozen : Nat → List D → FR
  | 0 => noF
  | n + 1 => defD 2 [false] (e_frozen (F_frozen n))
-- rows_of_text : 0=text 1=pieces 2=found 3=ahead 4=number 5=piece
def e_rows_of_text : Env → R Env Out := (sSeq (sAsg (dComp [5] (iSeq (dM1 splitF (ofG (gVar 0)) (dC (.str [10])))) (wName 5) tYs (g2 addF (gVar 5) (toG (dC (.str [10]))))) (wName 1)) (sSeq (sAsg (gSl (gIx (gVar 1) (toG (dNeg (dC (.int 1))))) oNone (oSome (dNeg (dC (.int 1))))) (wSub (pVar 1) (toG (dNeg (dC (.int 1)))))) (sSeq (sIf (asB (g2 eqF (gIx (gVar 1) (toG (dNeg (dC (.int 1))))) (toG (dC (.str []))))) (sExp (mMe popM (pVar 1) aNil)) sNil) (sSeq (sPar [2, 3] (aCons (dLst aNil) (aCons (dC (.str [10])) aNil))) (sSeq (sFor (iEnA (aCons (dVarF 1) aNil)) (wTup 2 (wCons (wName 4) (wCons (wName 5) wNil))) (sIf (asB (g2 eqF (gIx (gVar 5) (toG (dC (.int 0)))) (toG (dC (.str [92]))))) (sSeq (sIf (tOu (asB (g2 neF (gVar 5) (toG (dC (.str [92, 32, 78, 111, 32, 110, 101, 119, 108, 105, 110, 101, 32, 97, 116, 32, 101, 110, 100, 32, 111, 102, 32, 102, 105, 108, 101, 10]))))) (asB (g2 eqF (gVar 3) (toG (dC (.str [10])))))) (sRaise 1 [110, 117, 109, 98, 101, 114] (F_frozen 6) (ofG (gVar 4))) sNil) (sSeq (sAsg (gSl (gIx (gVar 2) (toG (dNeg (dC (.int 1))))) oNone (oSome (dNeg (dC (.int 1))))) (wSub (pVar 2) (toG (dNeg (dC (.int 1)))))) (sAsg (dC (.str [10])) (wName 3)))) (sSeq (sExp (mMe appM (pVar 2) (aCons (ofG (gVar 5)) aNil))) (sAsg (ofG (gVar 5)) (wName 3))))) (sSeq (sIf (tAn (asB (g2 neF (gVar 1) (toG (dLst aNil)))) (asB (g2 neF (gIx (gIx (gVar 1) (toG (dNeg (dC (.int 1))))) (toG (dNeg (dC (.int 1))))) (toG (dC (.str [10])))))) (sRaise 1 [110, 117, 109, 98, 101, 114] (F_frozen 6) (d2 subF (g1 lenF (gVar 1)) (dC (.int 1)))) sNil) (sRet (dVarM 2))))))))
def F_rows_of_text : List D → FR := defD 6 [false] e_rows_of_text
-- is_line : 0=thing
def e_is_line : Env → R Env Out := (sRet (dAnd (g1 (isF1 ["str"]) (gVar 0)) (dAnd (g2 neF (gVar 0) (toG (dC (.str [])))) (g2 ninF (toG (dC (.str [10]))) (toG (gSl (gVar 0) oNone (oSome (dNeg (dC (.int 1))))))))))
def F_is_line : List D → FR := defD 1 [false] e_is_line
-- text_of_rows : 0=rows 1=found 2=number 3=row
def e_text_of_rows : Env → R Env Out := (sSeq (sAsg (dC (.str [])) (wName 1)) (sSeq (sFor (iEnA (aCons (ofG (gVar 0)) aNil)) (wTup 2 (wCons (wName 2) (wCons (wName 3) wNil))) (sSeq (sIf (tOu (tNt (asB (dCallV [false] [] F_is_line (aCons (ofG (gVar 3)) aNil)))) (asB (g2 eqF (gIx (gVar 3) (toG (dC (.int 0)))) (toG (dC (.str [92])))))) (sRaise 1 [110, 117, 109, 98, 101, 114] (F_frozen 6) (ofG (gVar 2))) sNil) (sAug 1 ipSF (dIf (asB (g2 eqF (gIx (gVar 3) (toG (dNeg (dC (.int 1))))) (toG (dC (.str [10]))))) (ofG (gVar 3)) (g2 addF (toG (g2 addF (gVar 3) (toG (dC (.str [10]))))) (toG (dC (.str [92, 32, 78, 111, 32, 110, 101, 119, 108, 105, 110, 101, 32, 97, 116, 32, 101, 110, 100, 32, 111, 102, 32, 102, 105, 108, 101, 10])))))))) (sRet (dVarM 1))))
def F_text_of_rows : List D → FR := defD 4 [false] e_text_of_rows
-- law : 0=script 1=draws_here 2=mark 3=turn 4=some 5=pieces 6=found 7=due 8=rows 9=k 10=piece 11=ahead
def e_law : Env → R Env Out := (sSeq (sAsg (dCallV [false] [] F_q_draws (aCons (ofG (gVar 0)) aNil)) (wName 1)) (sSeq (sAsg (dC (.str [92, 32, 78, 111, 32, 110, 101, 119, 108, 105, 110, 101, 32, 97, 116, 32, 101, 110, 100, 32, 111, 102, 32, 102, 105, 108, 101, 10])) (wName 2)) (sSeq (sFor (iRange1 (aCons (dC (.int 14)) aNil)) (wName 3) (sSeq (sAsg (dFrz (dLst (aCons (dC (.str [97, 10])) (aCons (dC (.str [98, 32, 99, 10])) (aCons (ofG (gVar 2)) (aCons (ofG (gVar 2)) (aCons (dC (.str [10])) (aCons (dC (.str [97, 10])) (aCons (dC (.str [32, 92, 10])) (aCons (dC (.str [92, 32, 110, 111, 32, 110, 101, 119, 108, 105, 110, 101, 32, 97, 116, 32, 101, 110, 100, 32, 111, 102, 32, 102, 105, 108, 101, 10])) (aCons (dC (.str [92, 10])) (aCons (dC (.str [120, 10])) aNil)))))))))))) (wName 4)) (sSeq (sAsg (dFrz (dComp [9] (iRange1 (aCons (dCall [true, false] [] F_q_take (aRef 1 (aCons (dC (.int 9)) aNil))) aNil)) (wName 9) tYs (dCall [true, false] [] F_q_pick (aRef 1 (aCons (ofG (gVar 4)) aNil))))) (wName 5)) (sSeq (sIf (asB (d2 eqF (dCall [true, false] [] F_q_take (aRef 1 (aCons (dC (.int 4)) aNil))) (dC (.int 0)))) (sAsg (dFrz (d2 addF (ofG (gVar 5)) (dFrz (dLst (aCons (dCall [true, false] [] F_q_pick (aRef 1 (aCons (dLst (aCons (dC (.str [97])) (aCons (gSl (gVar 2) oNone (oSome (dNeg (dC (.int 1))))) (aCons (dC (.str [92])) (aCons (dC (.str [32])) aNil))))) aNil))) aNil))))) (wName 5)) sNil) (sSeq (sPar [7, 8] (aCons (dC .non) (aCons (dFrz (dLst aNil)) aNil))) (sSeq (sFor (iEnA (aCons (ofG (gVar 5)) aNil)) (wTup 2 (wCons (wName 9) (wCons (wName 10) wNil))) (sSeq (sAsg (dIf (asB (g2 gtF (gVar 9) (toG (dC (.int 0))))) (ofG (gIx (gVar 5) (toG (d2 subF (ofG (gVar 9)) (dC (.int 1)))))) (dC (.str [10]))) (wName 11)) (sSeq (sIf (tAn (asB (g2 eqF (gIx (gVar 10) (toG (dC (.int 0)))) (toG (dC (.str [92]))))) (tAn (asB (g2 isF (gVar 7) (toG (dC .non)))) (tOu (asB (g2 neF (gVar 10) (gVar 2))) (asB (g2 inF (gVar 11) (toG (dTup (aCons (ofG (gVar 2)) (aCons (dC (.str [10])) aNil))))))))) (sAsg (ofG (gVar 9)) (wName 7)) sNil) (sAsg (dFrz (dIf (asB (g2 neF (gIx (gVar 10) (toG (dC (.int 0)))) (toG (dC (.str [92]))))) (g2 addF (gVar 8) (toG (dFrz (dLst (aCons (ofG (gVar 10)) aNil))))) (dIf (asB (g2 isF (gVar 7) (toG (dC .non)))) (g2 addF (toG (gSl (gVar 8) oNone (oSome (dNeg (dC (.int 1)))))) (toG (dFrz (dLst (aCons (gSl (gIx (gVar 8) (toG (dNeg (dC (.int 1))))) oNone (oSome (dNeg (dC (.int 1))))) aNil))))) (ofG (gVar 8))))) (wName 8))))) (sSeq (sIf (tAn (asB (g2 isF (gVar 7) (toG (dC .non)))) (tAn (asB (g2 neF (gVar 5) (toG (dLst aNil)))) (tNt (asB (dM1 endsF (ofG (gIx (gVar 5) (toG (dNeg (dC (.int 1)))))) (dC (.str [10]))))))) (sAsg (d2 subF (g1 lenF (gVar 5)) (dC (.int 1))) (wName 7)) sNil) (sSeq (sAsg (dFrz (dTold [116, 111, 108, 100] clT (dCallV [false] [] F_rows_of_text (aCons (dM1 joinF (dC (.str [])) (ofG (gVar 5))) aNil)))) (wName 6)) (sSeq (sIf (tNt (asB (dCallV [false, false] [] (F_q_same 6) (aCons (ofG (gVar 6)) (aCons (dIf (asB (g2 isF (gVar 7) (toG (dC .non)))) (dTup (aCons (dC (.str [116, 111, 108, 100])) (aCons (ofG (gVar 8)) aNil))) (dTup (aCons (dC (.str [114, 111, 119])) (aCons (ofG (gVar 7)) aNil)))) aNil))))) (sRet (dC (.bl false))) sNil) (sIf (tAn (asB (g2 isF (gVar 7) (toG (dC .non)))) (asB (g2 neF (toG (dCallV [false] [] F_text_of_rows (aCons (ofG (gVar 8)) aNil))) (toG (dM1 joinF (dC (.str [])) (ofG (gVar 5))))))) (sRet (dC (.bl false))) sNil)))))))))) (sRet (dC (.bl true))))))
def F_law : List D → FR := defD 12 [false] e_law
end Tw.Lw
namespace Tw.Lw
open PySem PySem.Spec L2

def top (i : Nat) : Stmt := PySem.Challenge.pw_twinseam_k74_texts_cut_into_rows.main.body.getD i (.Pass ⟨0, 0, 0, 0⟩)
structure Bl (K : PySem.W.Frag) (mg : Str → Option Value) : Prop where
  k_NO_END : KStr mg "NO_END" [92, 32, 78, 111, 32, 110, 101, 119, 108, 105, 110, 101, 32, 97, 116, 32, 101, 110, 100, 32, 111, 102, 32, 102, 105, 108, 101, 10]
  b_all : mg "all" = none
  b_bool : mg "bool" = none
  b_enumerate : mg "enumerate" = none
  b_int : mg "int" = none
  b_isinstance : mg "isinstance" = none
  b_len : mg "len" = none
  b_list : mg "list" = none
  b_range : mg "range" = none
  b_str : mg "str" = none
  b_tuple : mg "tuple" = none
  b_zip : mg "zip" = none
def si_BadRow : Stmt := match top 5 with
  | .ClassDef _ _ _ body _ _ _ _ _ _ _ => body.getD 0 (.Pass ⟨0, 0, 0, 0⟩)
  | _ => .Pass ⟨0, 0, 0, 0⟩
def si_BadCount : Stmt := match top 3 with
  | .ClassDef _ _ _ body _ _ _ _ _ _ _ => body.getD 0 (.Pass ⟨0, 0, 0, 0⟩)
  | _ => .Pass ⟨0, 0, 0, 0⟩
def si_BadName : Stmt := match top 6 with
  | .ClassDef _ _ _ body _ _ _ _ _ _ _ => body.getD 0 (.Pass ⟨0, 0, 0, 0⟩)
  | _ => .Pass ⟨0, 0, 0, 0⟩
def si_BadEnd : Stmt := match top 7 with
  | .ClassDef _ _ _ body _ _ _ _ _ _ _ => body.getD 0 (.Pass ⟨0, 0, 0, 0⟩)
  | _ => .Pass ⟨0, 0, 0, 0⟩
def si_NoPlace : Stmt := match top 10 with
  | .ClassDef _ _ _ body _ _ _ _ _ _ _ => body.getD 0 (.Pass ⟨0, 0, 0, 0⟩)
  | _ => .Pass ⟨0, 0, 0, 0⟩
def si_Clash : Stmt := match top 11 with
  | .ClassDef _ _ _ body _ _ _ _ _ _ _ => body.getD 0 (.Pass ⟨0, 0, 0, 0⟩)
  | _ => .Pass ⟨0, 0, 0, 0⟩
abbrev s_told : Stmt := top 24
abbrev s_q_told : Stmt := s_told
theorem sc_told : FnScope NTold ["_law_ask"] (defScope s_told) := ⟨rfl, rfl, rfl, by decide +kernel, rfl, by decide +kernel, by decide +kernel⟩
def tdH : List ExceptHandler := match (defBody s_told).getD 1 (.Pass ⟨0, 0, 0, 0⟩) with
  | .Try _ hs _ _ _ => hs
  | _ => []
structure ToldOk (K : PySem.W.Frag) (mg : Str → Option Value) (base : Heap) (G : Nat → Addr) (fT cT S : Addr) (fdT fd : FuncData) : Prop where
  g0 : G 0 ≠ 0
  hs : ∀ c ∈ clT.map Prod.fst, ∀ c' ∈ clT.map Prod.fst, PySem.W.exmOne K (.ref (G (c + 1))) (.ref (G (c' + 1))) = some (decide (c = c'))
  hI : ∀ p ∈ clT, ∀ w, p.2 = .isi w → PySem.W.kitOne K (.ref (G (p.1 + 1))) (.ref S) = some true
  U : Fun K "_law_told" "_law_told" s_told fT fdT
  m : mg "_law_told" = some (.ref fT)
  k : PySem.W.keepIn K (.ref fT) = true
  b : L2.Binds K fdT ["_law_ask"] []
  TB : LamX.TabB base mg cT (G 0)
  code : fd.code = .ref cT
  x_BadCount : XfC K (G 1) ∧ PySem.W.findIn K (.ref (G 1)) (mkS [99, 111, 117, 110, 116]) = some none ∧ mg "BadCount" = some (.ref (G 1))
  x_BadName : XfC K (G 3) ∧ PySem.W.findIn K (.ref (G 3)) (mkS [110, 97, 109, 101]) = some none ∧ mg "BadName" = some (.ref (G 3))
  x_BadEnd : XfC K (G 4) ∧ PySem.W.findIn K (.ref (G 4)) (mkS [101, 110, 100]) = some none ∧ mg "BadEnd" = some (.ref (G 4))
  x_BadRow : XfC K (G 2) ∧ PySem.W.findIn K (.ref (G 2)) (mkS [110, 117, 109, 98, 101, 114]) = some none ∧ mg "BadRow" = some (.ref (G 2))
  x_BadForm : ExcC K (G 7) ∧ mg "BadForm" = some (.ref (G 7))
  x_BadChanges : ExcC K (G 8) ∧ mg "BadChanges" = some (.ref (G 8))
  x_BadCodes : ExcC K (G 9) ∧ mg "BadCodes" = some (.ref (G 9))
  x_NoPlace : XfC K (G 5) ∧ PySem.W.findIn K (.ref (G 5)) (mkS [110, 117, 109, 98, 101, 114]) = some none ∧ mg "NoPlace" = some (.ref (G 5))
  x_Clash : XfC K (G 6) ∧ PySem.W.findIn K (.ref (G 6)) (mkS [110, 117, 109, 98, 101, 114]) = some none ∧ mg "Clash" = some (.ref (G 6))
  gi : mg "isinstance" = none
  mS : mg "SeamError" = some (.ref S)
theorem hcl_told {X : Cx} {G : Nat → Addr} {fT cT S : Addr} {fdT fd : FuncData} (T : ToldOk X.K X.mg X.base G fT cT S fdT fd) (cdg : Value) (s : Shared) (H : Hp) : Clauses (toldY X "_law_told" (defScope s_told) fT cdg s H) "e" tdH ((spOf G clT).map (suite X.K S)) :=
  have O : YOk (toldY X "_law_told" (defScope s_told) fT cdg s H) := ⟨(show NTold.Nodup by decide), rfl, rfl, rfl, rfl⟩
  (cl_fld O ⟨by exact rfl, by decide, .inl T.x_BadCount.2.2⟩ T.x_BadCount.1 T.x_BadCount.2.1
    (cl_fld O ⟨by exact rfl, by decide, .inl T.x_BadName.2.2⟩ T.x_BadName.1 T.x_BadName.2.1
    (cl_fld O ⟨by exact rfl, by decide, .inl T.x_BadEnd.2.2⟩ T.x_BadEnd.1 T.x_BadEnd.2.1
    (cl_fld O ⟨by exact rfl, by decide, .inl T.x_BadRow.2.2⟩ T.x_BadRow.1 T.x_BadRow.2.1
    (cl_isi (y := "SeamError") O ⟨by exact rfl, by decide, .inl T.x_BadForm.2⟩ T.x_BadForm.1 (by exact rfl) T.gi (by exact rfl) T.mS
    (cl_isi (y := "SeamError") O ⟨by exact rfl, by decide, .inl T.x_BadChanges.2⟩ T.x_BadChanges.1 (by exact rfl) T.gi (by exact rfl) T.mS
    (cl_isi (y := "SeamError") O ⟨by exact rfl, by decide, .inl T.x_BadCodes.2⟩ T.x_BadCodes.1 (by exact rfl) T.gi (by exact rfl) T.mS
    (cl_fld O ⟨by exact rfl, by decide, .inl T.x_NoPlace.2.2⟩ T.x_NoPlace.1 T.x_NoPlace.2.1
    (cl_fld O ⟨by exact rfl, by decide, .inl T.x_Clash.2.2⟩ T.x_Clash.1 T.x_Clash.2.1
    .none)))))))))
section
variable {P : Program} {w : World} {K : PySem.W.Frag} {mg : Str → Option Value} {base : Heap} {G : Nat → Addr}
abbrev s_q_draws : Stmt := top 19
theorem sc_q_draws : FnScope ["_law_script", "_law_item"] ["_law_script"] (defScope s_q_draws) := ⟨rfl, rfl, rfl, by decide +kernel, rfl, by decide +kernel, by decide +kernel⟩
theorem ok_q_draws {f : Addr} {fd : FuncData} (F : Fun K "_law_draws" "_law_draws" s_q_draws f fd) (B : Bl K mg)  : FnOk P w K mg base (L2.CX P w) 1 f fd ["_law_script"] (spT ⟨K, noT G⟩ [false] F_q_draws) :=
  fn_body (N := ["_law_script", "_law_item"]) (m := [false]) (k := 0) (g := e_q_draws) F sc_q_draws rfl (by decide) fun cdv A outer s H E O hr => (bx_one (sx_ret (ev_lst (ax_cons (ev_comp O (ix_seq' (ev_bo (bo_var (pv 0)))) (blkOk_by (own := [("_law_item", 1)]) (by exact rfl)) (own_name (by decide)) (fun s1 H1 C1 cl1 fp1 => (tg_name (pg_name (i := 1) O.nd (by exact rfl) (by first | exact .inl rfl | exact .inr rfl)) (by exact rfl) (nin (by exact rfl)))) (fun s1 H1 C1 cl1 fp1 => (txs_one (tx_cmpG op_ge opF_ge (nomark _) (bo_var (pv 1)) (bo_ev (W := W0) (ev_bin op_pow opF_pow ev_int ev_int))))) (fun s1 H1 C1 cl1 fp1 => (ev_bo (bo_var (pv 1))))) (ax_cons ev_int (ax_cons (ev_comp O (ix_seq' (ev_bo (bo_var (pv 0)))) (blkOk_by (own := [("_law_item", 1)]) (by exact rfl)) (own_name (by decide)) (fun s1 H1 C1 cl1 fp1 => (tg_name (pg_name (i := 1) O.nd (by exact rfl) (by first | exact .inl rfl | exact .inr rfl)) (by exact rfl) (nin (by exact rfl)))) (fun s1 H1 C1 cl1 fp1 => (txs_one (tx_cmpG op_lt opF_lt (nomark _) (bo_var (pv 1)) (bo_ev (W := W0) (ev_bin op_pow opF_pow ev_int ev_int))))) (fun s1 H1 C1 cl1 fp1 => (ev_bo (bo_var (pv 1))))) (ax_cons ev_int ax_nil)))))))
abbrev s_q_mixed : Stmt := top 20
theorem sc_q_mixed : FnScope ["_law_seed", "_law_k", "_law_first"] ["_law_seed", "_law_k"] (defScope s_q_mixed) := ⟨rfl, rfl, rfl, by decide +kernel, rfl, by decide +kernel, by decide +kernel⟩
theorem ok_q_mixed {f : Addr} {fd : FuncData} (F : Fun K "_law_mixed" "_law_mixed" s_q_mixed f fd) (B : Bl K mg)  : FnOk P w K mg base (L2.CX P w) 1 f fd ["_law_seed", "_law_k"] (spT ⟨K, noT G⟩ [false, false] F_q_mixed) :=
  fn_body (N := ["_law_seed", "_law_k", "_law_first"]) (m := [false, false]) (k := 0) (g := e_q_mixed) F sc_q_mixed rfl (by decide) fun cdv A outer s H E O hr => (bx_cons (sx_set (ev_bin op_mod opF_mod (ev_t1G (id := "int") call_int1 caF_int (by exact rfl) B.b_int (by decide +kernel) (bo_ev (W := W0) (ev_bin op_pow opF_pow (ev_binG op_add' opF_add (bo_ev (W := W0) (ev_binG op_add' opF_add (bo_ev (W := W0) (ev_bin op_mod opF_mod (ev_t1G (id := "int") call_int1 caF_int (by exact rfl) B.b_int (by decide +kernel) (bo_var (pv 0))) ev_int)) (bo_ev (W := W0) (ev_binG op_mul' opF_mul (bo_ev (W := W0) ev_int) (bo_var (pv 1)))))) (bo_ev (W := W0) ev_int)) ev_int))) ev_int) O.nd (by exact rfl) (by first | exact .inl rfl | exact .inr rfl) (nin (by exact rfl)))
    (bx_one (sx_ret (ev_bin op_mod opF_mod (ev_t1G (id := "int") call_int1 caF_int (by exact rfl) B.b_int (by decide +kernel) (bo_ev (W := W0) (ev_bin op_pow opF_pow (ev_binG op_add' opF_add (bo_ev (W := W0) (ev_binG op_add' opF_add (bo_ev (W := W0) (ev_binG op_mul' opF_mul (bo_var (pv 2)) (bo_ev (W := W0) ev_int))) (bo_ev (W := W0) (ev_binG op_mul' opF_mul (bo_ev (W := W0) (ev_binG op_mul' opF_mul (bo_ev (W := W0) ev_int) (bo_var (pv 1)))) (bo_var (pv 1)))))) (bo_ev (W := W0) ev_int)) ev_int))) ev_int))))
abbrev s_q_take : Stmt := top 21
theorem sc_q_take : FnScope ["_law_draws_here", "_law_size", "_law_seed", "_law_found", "_law_reach"] ["_law_draws_here", "_law_size"] (defScope s_q_take) := ⟨rfl, rfl, rfl, by decide +kernel, rfl, by decide +kernel, by decide +kernel⟩
theorem ok_q_take {f : Addr} {fd : FuncData} (F : Fun K "_law_take" "_law_take" s_q_take f fd) (B : Bl K mg) (C_q_mixed : Fk P w ⟨K, noT G⟩ mg base 1 "_law_mixed" [false, false] [] F_q_mixed) : FnOk P w K mg base (L2.CX P w) 2 f fd ["_law_draws_here", "_law_size"] (spT ⟨K, noT G⟩ [true, false] F_q_take) :=
  fn_body (N := ["_law_draws_here", "_law_size", "_law_seed", "_law_found", "_law_reach"]) (m := [true, false]) (k := 1) (g := e_q_take) F sc_q_take rfl (by decide) fun cdv A outer s H E O hr => (bx_cons (sx_asgW (ev_binG op_add' opF_add (bo_ix (bo_var (pv 0)) (bo_ev (W := W0) ev_int) (fun _ _ => rfl)) (bo_ev (W := W0) ev_int)) (tg_sub (pl_var (pv 0)) (bo_ev (W := W0) ev_int)))
    (bx_cons (sx_if (tw_and (tx_cmpG (op_eq' hr.units) opF_eq (nomark _) (bo_ix (bo_var (pv 0)) (bo_ev (W := W0) ev_int) (fun _ _ => rfl)) (bo_ev (W := W0) ev_int)) (tw_and1 (tx_cmpG (op_ne' hr.units) opF_ne (nomark _) (bo_ix (bo_var (pv 0)) (bo_ev (W := W0) ev_int) (fun _ _ => rfl)) (bo_ev (W := W0) (ev_lst ax_nil))))).tx (bx_one (sx_asgW (ev_me PySem.F.slot_list_pop PySem.F.type_list_pop mt_popAt muF_popAt (pl_ix (pl_var (pv 0)) (bo_ev (W := W0) ev_int) (fun _ _ => rfl)) (ax_cons ev_int ax_nil) (.inl rfl)) (tg_sub (pl_var (pv 0)) (bo_ev (W := W0) ev_int)))) bx_nil)
    (bx_cons (sx_if (tx_cmpG op_gt opF_gt (nomark _) (bo_ix (bo_var (pv 0)) (bo_ev (W := W0) ev_int) (fun _ _ => rfl)) (bo_ev (W := W0) ev_int)) (bx_cons (sx_set (ev_bin op_mod opF_mod (ev_t1G (id := "int") call_int1 caF_int (by exact rfl) B.b_int (by decide +kernel) (bo_ix (bo_var (pv 0)) (bo_ev (W := W0) ev_int) (fun _ _ => rfl))) (ev_bo (bo_var (pv 1)))) O.nd (by exact rfl) (by first | exact .inl rfl | exact .inr rfl) (nin (by exact rfl)))
    (bx_cons (sx_asgW (ev_bin op_fdiv opF_div (ev_bo (bo_ix (bo_var (pv 0)) (bo_ev (W := W0) ev_int) (fun _ _ => rfl))) (ev_bo (bo_var (pv 1)))) (tg_sub (pl_var (pv 0)) (bo_ev (W := W0) ev_int)))
    (bx_one (sx_ret (ev_varM (pv 3)))))) bx_nil)
    (bx_cons (sx_set ev_int O.nd (by exact rfl) (by first | exact .inl rfl | exact .inr rfl) (nin (by exact rfl)))
    (bx_cons (sx_if (tx_cmpG (op_ne' hr.units) opF_ne (nomark _) (bo_ix (bo_var (pv 0)) (bo_ev (W := W0) ev_int) (fun _ _ => rfl)) (bo_ev (W := W0) (ev_lst ax_nil))) (bx_one (sx_set (ev_bo (bo_ix (bo_ix (bo_var (pv 0)) (bo_ev (W := W0) ev_int) (fun _ _ => rfl)) (bo_ev (W := W0) (ev_bin op_mod opF_mod (ev_t1G (id := "int") call_int1 caF_int (by exact rfl) B.b_int (by decide +kernel) (bo_ix (bo_var (pv 0)) (bo_ev (W := W0) ev_int) (fun _ _ => rfl))) (ev_b1G (id := "len") call_len caF_len (by exact rfl) B.b_len (by decide +kernel) (bo_ix (bo_var (pv 0)) (bo_ev (W := W0) ev_int) (fun _ _ => rfl))))) (fun _ _ => rfl))) O.nd (by exact rfl) (by first | exact .inl rfl | exact .inr rfl) (nin (by exact rfl)))) bx_nil)
    (bx_cons (sx_set ev_int O.nd (by exact rfl) (by first | exact .inl rfl | exact .inr rfl) (nin (by exact rfl)))
    (bx_cons (sx_set ev_int O.nd (by exact rfl) (by first | exact .inl rfl | exact .inr rfl) (nin (by exact rfl)))
    (bx_cons (sx_while O fuel (tx_cmpG op_lt opF_lt (nomark _) (bo_var (pv 4)) (bo_var (pv 1))) (bx_cons (sx_set (ev_binG op_add' opF_add (bo_ev (W := W0) (ev_binG op_mul' opF_mul (bo_var (pv 3)) (bo_ev (W := W0) ev_int))) (bo_ev (W := W0) (ev_callV O.q C_q_mixed (hr.mono (by decide)) (by exact rfl) (ax_cons (ev_bo (bo_var (pv 2))) (ax_cons (ev_binG op_add' opF_add (bo_ix (bo_var (pv 0)) (bo_ev (W := W0) ev_int) (fun _ _ => rfl)) (bo_ev (W := W0) (ev_binG op_mul' opF_mul (bo_ev (W := W0) ev_int) (bo_ev (W := W0) (ev_bin op_mod opF_mod (ev_t1G (id := "int") call_int1 caF_int (by exact rfl) B.b_int (by decide +kernel) (bo_var (pv 3))) ev_int))))) ax_nil))))) O.nd (by exact rfl) (by first | exact .inl rfl | exact .inr rfl) (nin (by exact rfl)))
    (bx_one (sx_frzSet (sx_set (ev_binG op_mul' opF_mul (bo_var (pv 4)) (bo_ev (W := W0) ev_int)) O.nd (by exact rfl) (by first | exact .inl rfl | exact .inr rfl) (nin (by exact rfl)))))))
    (bx_one (sx_ret (ev_bin op_mod opF_mod (ev_t1G (id := "int") call_int1 caF_int (by exact rfl) B.b_int (by decide +kernel) (bo_var (pv 3))) (ev_bo (bo_var (pv 1))))))))))))))
abbrev s_q_pick : Stmt := top 22
theorem sc_q_pick : FnScope ["_law_draws_here", "_law_some"] ["_law_draws_here", "_law_some"] (defScope s_q_pick) := ⟨rfl, rfl, rfl, by decide +kernel, rfl, by decide +kernel, by decide +kernel⟩
theorem ok_q_pick {f : Addr} {fd : FuncData} (F : Fun K "_law_pick" "_law_pick" s_q_pick f fd) (B : Bl K mg) (C_q_take : Fk P w ⟨K, noT G⟩ mg base 2 "_law_take" [true, false] [] F_q_take) : FnOk P w K mg base (L2.CX P w) 3 f fd ["_law_draws_here", "_law_some"] (spT ⟨K, noT G⟩ [true, false] F_q_pick) :=
  fn_body (N := ["_law_draws_here", "_law_some"]) (m := [true, false]) (k := 2) (g := e_q_pick) F sc_q_pick rfl (by decide) fun cdv A outer s H E O hr => (bx_one (sx_ret (ev_ixV (pv 1) (ev_call O C_q_take (hr.mono (by decide)) (by exact rfl) (ax_ref (pv 0) (ax_cons (ev_b1G (id := "len") call_len caF_len (by exact rfl) B.b_len (by decide +kernel) (bo_var (pv 1))) ax_nil))) (fun _ _ => rfl))))
abbrev s_q_same : Stmt := top 23
theorem sc_q_same : FnScope ["_law_found", "_law_due", "_law_one", "_law_other"] ["_law_found", "_law_due"] (defScope s_q_same) := ⟨rfl, rfl, rfl, by decide +kernel, rfl, by decide +kernel, by decide +kernel⟩
theorem ok_q_same {f : Addr} {fd : FuncData} (F : Fun K "_law_same" "_law_same" s_q_same f fd) (B : Bl K mg)  (hm : mg "_law_same" = some (.ref f)) (hk : PySem.W.keepIn K (.ref f) = true) (hb : Binds K fd ["_law_found", "_law_due"] []) : ∀ n : Nat, FnOk P w K mg base (L2.CX P w) (1 + n) f fd ["_law_found", "_law_due"] (spT ⟨K, noT G⟩ [false, false] (F_q_same n))
  | 0 => fn_none
  | n + 1 => by
    have C_q_same : Fk P w ⟨K, noT G⟩ mg base (1 + n) "_law_same" [false, false] [] (F_q_same n) := Fk.of (ok_q_same F B  hm hk hb n) hm hk hb
    exact fn_body (N := ["_law_found", "_law_due", "_law_one", "_law_other"]) (m := [false, false]) (k := 1 + n) (g := e_q_same (F_q_same n)) F sc_q_same rfl (by decide) fun cdv A outer s H E O hr => (bx_cons (sx_if (tx_val (ev_isiT (ns := ["list", "tuple"]) (by decide) (by exact rfl) B.b_isinstance (.cons (pe_bltn (by exact rfl) B.b_list (by decide +kernel) rfl) rfl (.cons (pe_bltn (by exact rfl) B.b_tuple (by decide +kernel) rfl) rfl .nil)) (by decide) (bo_var (pv 1)))) (bx_cons (sx_if (tw_or (tx_cmpG (op_ne' hr.units) opF_ne (nomark _) (bo_ev (W := W0) (ev_isi (by decide) (by exact rfl) B.b_isinstance (pe_bltn (by exact rfl) B.b_list (by decide +kernel) rfl) (bo_var (pv 0)))) (bo_ev (W := W0) (ev_isi (by decide) (by exact rfl) B.b_isinstance (pe_bltn (by exact rfl) B.b_list (by decide +kernel) rfl) (bo_var (pv 1))))) (tw_or1 (tx_cmpG (op_ne' hr.units) opF_ne (nomark _) (bo_ev (W := W0) (ev_isi (by decide) (by exact rfl) B.b_isinstance (pe_bltn (by exact rfl) B.b_tuple (by decide +kernel) rfl) (bo_var (pv 0)))) (bo_ev (W := W0) (ev_isi (by decide) (by exact rfl) B.b_isinstance (pe_bltn (by exact rfl) B.b_tuple (by decide +kernel) rfl) (bo_var (pv 1))))))).tx (bx_one (sx_ret ev_bl)) bx_nil)
    (bx_one (sx_ret (ev_and (ev_cmpG (op_eq' hr.units) opF_eq (nomark _) (bo_ev (W := W0) (ev_b1G (id := "len") call_len caF_len (by exact rfl) B.b_len (by decide +kernel) (bo_var (pv 0)))) (bo_ev (W := W0) (ev_b1G (id := "len") call_len caF_len (by exact rfl) B.b_len (by decide +kernel) (bo_var (pv 1))))) (ev_one (ev_b1G (id := "all") (cr_all O.calm) caF_all (by exact rfl) B.b_all (by decide +kernel) (bo_ev (W := W0) (ev_comp O.q (ix_zipA (by exact rfl) B.b_zip (ax_cons (ev_bo (bo_var (pv 0))) (ax_cons (ev_bo (bo_var (pv 1))) ax_nil))) (blkOk_by (own := [("_law_one", 2), ("_law_other", 3)]) (by exact rfl)) (own_tup (owns_cons (own_name (by decide)) (owns_cons (own_name (by decide)) owns_nil))) (fun s1 H1 C1 cl1 fp1 => (tg_tup (blkO O.q s1 H1 C1 cl1 fp1).calm (tgs_cons (tg_name (pg_name (i := 2) O.nd (by exact rfl) (by first | exact .inl rfl | exact .inr rfl)) (by exact rfl) (nin (by exact rfl))) (tgs_cons (tg_name (pg_name (i := 3) O.nd (by exact rfl) (by first | exact .inl rfl | exact .inr rfl)) (by exact rfl) (nin (by exact rfl))) tgs_nil)))) (fun s1 H1 C1 cl1 fp1 => txs_nil) (fun s1 H1 C1 cl1 fp1 => (ev_callV (blkO O.q s1 H1 C1 cl1 fp1) C_q_same (hr.mono (by omega)) (by exact rfl) (ax_cons (ev_bo (bo_var (pv 2))) (ax_cons (ev_bo (bo_var (pv 3))) ax_nil)))))))))))) bx_nil)
    (bx_cons (sx_if (tx_val (ev_isiT (ns := ["bool", "int"]) (by decide) (by exact rfl) B.b_isinstance (.cons (pe_bltn (by exact rfl) B.b_bool (by decide +kernel) rfl) rfl (.cons (pe_bltn (by exact rfl) B.b_int (by decide +kernel) rfl) rfl .nil)) (by decide) (bo_var (pv 1)))) (bx_one (sx_ret (ev_and (ev_isi (by decide) (by exact rfl) B.b_isinstance (pe_bltn (by exact rfl) B.b_int (by decide +kernel) rfl) (bo_var (pv 0))) (ev_and (ev_cmpG (op_eq' hr.units) opF_eq (nomark _) (bo_ev (W := W0) (ev_isi (by decide) (by exact rfl) B.b_isinstance (pe_bltn (by exact rfl) B.b_bool (by decide +kernel) rfl) (bo_var (pv 0)))) (bo_ev (W := W0) (ev_isi (by decide) (by exact rfl) B.b_isinstance (pe_bltn (by exact rfl) B.b_bool (by decide +kernel) rfl) (bo_var (pv 1))))) (ev_one (ev_cmpG (op_eq' hr.units) opF_eq (nomark _) (bo_var (pv 0)) (bo_var (pv 1)))))))) bx_nil)
    (bx_one (sx_ret (ev_and (ev_not (ev_isiT (ns := ["bool", "int", "list", "tuple"]) (by decide) (by exact rfl) B.b_isinstance (.cons (pe_bltn (by exact rfl) B.b_bool (by decide +kernel) rfl) rfl (.cons (pe_bltn (by exact rfl) B.b_int (by decide +kernel) rfl) rfl (.cons (pe_bltn (by exact rfl) B.b_list (by decide +kernel) rfl) rfl (.cons (pe_bltn (by exact rfl) B.b_tuple (by decide +kernel) rfl) rfl .nil)))) (by decide) (bo_var (pv 0)))) (ev_one (ev_cmpG (op_eq' hr.units) opF_eq (nomark _) (bo_var (pv 0)) (bo_var (pv 1)))))))))
abbrev s_frozen : Stmt := top 1
theorem sc_frozen : FnScope ["thing", "inner"] ["thing"] (defScope s_frozen) := ⟨rfl, rfl, rfl, by decide +kernel, rfl, by decide +kernel, by decide +kernel⟩
theorem ok_frozen {f : Addr} {fd : FuncData} (F : Fun K "frozen" "frozen" s_frozen f fd) (B : Bl K mg)  (hm : mg "frozen" = some (.ref f)) (hk : PySem.W.keepIn K (.ref f) = true) (hb : Binds K fd ["thing"] []) : ∀ n : Nat, FnOk P w K mg base (L2.CX P w) (1 + n) f fd ["thing"] (spT ⟨K, noT G⟩ [false] (F_frozen n))
  | 0 => fn_none
  | n + 1 => by
    have C_frozen : Fk P w ⟨K, noT G⟩ mg base (1 + n) "frozen" [false] [] (F_frozen n) := Fk.of (ok_frozen F B  hm hk hb n) hm hk hb
    exact fn_body (N := ["thing", "inner"]) (m := [false]) (k := 1 + n) (g := e_frozen (F_frozen n)) F sc_frozen rfl (by decide) fun cdv A outer s H E O hr => (bx_cons (sx_if (tx_val (ev_isiT (ns := ["list", "tuple"]) (by decide) (by exact rfl) B.b_isinstance (.cons (pe_bltn (by exact rfl) B.b_list (by decide +kernel) rfl) rfl (.cons (pe_bltn (by exact rfl) B.b_tuple (by decide +kernel) rfl) rfl .nil)) (by decide) (bo_var (pv 0)))) (bx_one (sx_ret (ev_t1G (id := "tuple") (call_tup2 O.calm) caF_tup2 (by exact rfl) B.b_tuple (by decide +kernel) (bo_ev (W := W0) (ev_frz (ev_comp O.q (ix_seq' (ev_bo (bo_var (pv 0)))) (blkOk_by (own := [("inner", 1)]) (by exact rfl)) (own_name (by decide)) (fun s1 H1 C1 cl1 fp1 => (tg_name (pg_name (i := 1) O.nd (by exact rfl) (by first | exact .inl rfl | exact .inr rfl)) (by exact rfl) (nin (by exact rfl)))) (fun s1 H1 C1 cl1 fp1 => txs_nil) (fun s1 H1 C1 cl1 fp1 => (ev_callV (blkO O.q s1 H1 C1 cl1 fp1) C_frozen (hr.mono (by omega)) (by exact rfl) (ax_cons (ev_bo (bo_var (pv 1))) ax_nil))))))))) bx_nil)
    (bx_one (sx_ret (ev_varM (pv 0)))))
abbrev s_rows_of_text : Stmt := top 17
theorem sc_rows_of_text : FnScope ["text", "pieces", "found", "ahead", "number", "piece"] ["text"] (defScope s_rows_of_text) := ⟨rfl, rfl, rfl, by decide +kernel, rfl, by decide +kernel, by decide +kernel⟩
theorem ok_rows_of_text {f : Addr} {fd : FuncData} (F : Fun K "rows_of_text" "rows_of_text" s_rows_of_text f fd) (B : Bl K mg)  (R_BadRow : Rz P w K mg base G 8 1 "BadRow" [110, 117, 109, 98, 101, 114] (F_frozen 6)) : FnOk P w K mg base (L2.CX P w) 10 f fd ["text"] (spT ⟨K, noT G⟩ [false] F_rows_of_text) :=
  fn_body (N := ["text", "pieces", "found", "ahead", "number", "piece"]) (m := [false]) (k := 9) (g := e_rows_of_text) F sc_rows_of_text rfl (by decide) fun cdv A outer s H E O hr => (bx_cons (sx_setLc O rfl rfl (by decide) (sw_true rfl rfl rfl (by exact rfl)) (ix_seq' (ev_m1 PySem.F.slot_str_split PySem.F.type_str_split mt_split opF_split (ev_bo (bo_var (pv 0))) (ev_str [10] rfl))) (blkOk_by (own := [("piece", 5)]) (by exact rfl)) (own_name (by decide)) (fun s1 H1 C1 cl1 fp1 => (tg_name (pg_name (i := 5) O.nd (by exact rfl) (by first | exact .inl rfl | exact .inr rfl)) (by exact rfl) (nin (by exact rfl)))) (fun s1 H1 C1 cl1 fp1 => txs_nil) (fun s1 H1 C1 cl1 fp1 => (ev_binG op_add' opF_add (bo_var (pv 5)) (bo_ev (W := W0) (ev_str [10] rfl)))))
    (bx_cons (sx_asgW (ev_slG (bo_ix (bo_var (pv 1)) (bo_ev (W := W0) (ev_neg ev_int)) (fun _ _ => rfl)) ox_none (ox_some (ev_neg ev_int))) (tg_sub (pl_var (pv 1)) (bo_ev (W := W0) (ev_neg ev_int))))
    (bx_cons (sx_if (tx_cmpG (op_eq' hr.units) opF_eq (nomark _) (bo_ix (bo_var (pv 1)) (bo_ev (W := W0) (ev_neg ev_int)) (fun _ _ => rfl)) (bo_ev (W := W0) (ev_str [] rfl))) (bx_one (sx_expr (ev_me0 PySem.F.slot_list_pop PySem.F.type_list_pop mt_pop muF_pop (pl_var (pv 1))))) bx_nil)
    (bx_cons (sx_par O.calm O.nd (by exact rfl) (by exact rfl) (by decide) (by exact rfl) (by exact rfl) (nin (by exact rfl)) (nin (by exact rfl)) (ax_cons (ev_lst ax_nil) (ax_cons (ev_str [10] rfl) ax_nil)) (by exact rfl))
    (bx_cons (sx_for O (ix_enumA (by exact rfl) B.b_enumerate (ax_cons (ev_varF (pv 1)) ax_nil)) (tg_tup O.calm (tgs_cons (tg_name (pg_name (i := 4) O.nd (by exact rfl) (by first | exact .inl rfl | exact .inr rfl)) (by exact rfl) (nin (by exact rfl))) (tgs_cons (tg_name (pg_name (i := 5) O.nd (by exact rfl) (by first | exact .inl rfl | exact .inr rfl)) (by exact rfl) (nin (by exact rfl))) tgs_nil))) (bx_one (sx_if (tx_cmpG (op_eq' hr.units) opF_eq (nomark _) (bo_ix (bo_var (pv 5)) (bo_ev (W := W0) ev_int) (fun _ _ => rfl)) (bo_ev (W := W0) (ev_str [92] rfl))) (bx_cons (sx_if (tw_or (tx_cmpG (op_ne' hr.units) opF_ne (nomark _) (bo_var (pv 5)) (bo_ev (W := W0) (ev_kstr (by exact B.k_NO_END) (by exact rfl)))) (tw_or1 (tx_cmpG (op_eq' hr.units) opF_eq (nomark _) (bo_var (pv 3)) (bo_ev (W := W0) (ev_str [10] rfl))))).tx (bx_one (sx_raiseR O R_BadRow (hr.mono (by decide)) (by exact rfl) (ev_bo (bo_var (pv 4))))) bx_nil)
    (bx_cons (sx_asgW (ev_slG (bo_ix (bo_var (pv 2)) (bo_ev (W := W0) (ev_neg ev_int)) (fun _ _ => rfl)) ox_none (ox_some (ev_neg ev_int))) (tg_sub (pl_var (pv 2)) (bo_ev (W := W0) (ev_neg ev_int))))
    (bx_one (sx_set (ev_str [10] rfl) O.nd (by exact rfl) (by first | exact .inl rfl | exact .inr rfl) (nin (by exact rfl)))))) (bx_cons (sx_expr (ev_me PySem.F.slot_list_append PySem.F.type_list_append mt_append muF_app (pl_var (pv 2)) (ax_cons (ev_bo (bo_var (pv 5))) ax_nil) (.inr fun ρ i q h => pv_nil h)))
    (bx_one (sx_set (ev_bo (bo_var (pv 5))) O.nd (by exact rfl) (by first | exact .inl rfl | exact .inr rfl) (nin (by exact rfl))))))))
    (bx_cons (sx_if (tw_and (tx_cmpG (op_ne' hr.units) opF_ne (nomark _) (bo_var (pv 1)) (bo_ev (W := W0) (ev_lst ax_nil))) (tw_and1 (tx_cmpG (op_ne' hr.units) opF_ne (nomark _) (bo_ix (bo_ix (bo_var (pv 1)) (bo_ev (W := W0) (ev_neg ev_int)) (fun _ _ => rfl)) (bo_ev (W := W0) (ev_neg ev_int)) (fun _ _ => rfl)) (bo_ev (W := W0) (ev_str [10] rfl))))).tx (bx_one (sx_raiseR O R_BadRow (hr.mono (by decide)) (by exact rfl) (ev_bin op_sub opF_sub (ev_b1G (id := "len") call_len caF_len (by exact rfl) B.b_len (by decide +kernel) (bo_var (pv 1))) ev_int))) bx_nil)
    (bx_one (sx_ret (ev_varM (pv 2))))))))))
abbrev s_is_line : Stmt := top 13
theorem sc_is_line : FnScope ["thing"] ["thing"] (defScope s_is_line) := ⟨rfl, rfl, rfl, by decide +kernel, rfl, by decide +kernel, by decide +kernel⟩
theorem ok_is_line {f : Addr} {fd : FuncData} (F : Fun K "is_line" "is_line" s_is_line f fd) (B : Bl K mg)  : FnOk P w K mg base (L2.CX P w) 1 f fd ["thing"] (spT ⟨K, noT G⟩ [false] F_is_line) :=
  fn_body (N := ["thing"]) (m := [false]) (k := 0) (g := e_is_line) F sc_is_line rfl (by decide) fun cdv A outer s H E O hr => (bx_one (sx_ret (ev_and (ev_isi (by decide) (by exact rfl) B.b_isinstance (pe_bltn (by exact rfl) B.b_str (by decide +kernel) rfl) (bo_var (pv 0))) (ev_and (ev_cmpG (op_ne' hr.units) opF_ne (nomark _) (bo_var (pv 0)) (bo_ev (W := W0) (ev_str [] rfl))) (ev_one (ev_cmpG op_nin' opF_nin (by rfl) (bo_ev (W := W0) (ev_str [10] rfl)) (bo_ev (W := W0) (ev_slG (bo_var (pv 0)) ox_none (ox_some (ev_neg ev_int))))))))))
abbrev s_text_of_rows : Stmt := top 16
theorem sc_text_of_rows : FnScope ["rows", "found", "number", "row"] ["rows"] (defScope s_text_of_rows) := ⟨rfl, rfl, rfl, by decide +kernel, rfl, by decide +kernel, by decide +kernel⟩
theorem ok_text_of_rows {f : Addr} {fd : FuncData} (F : Fun K "text_of_rows" "text_of_rows" s_text_of_rows f fd) (B : Bl K mg) (C_is_line : Fk P w ⟨K, noT G⟩ mg base 1 "is_line" [false] [] F_is_line) (R_BadRow : Rz P w K mg base G 8 1 "BadRow" [110, 117, 109, 98, 101, 114] (F_frozen 6)) : FnOk P w K mg base (L2.CX P w) 10 f fd ["rows"] (spT ⟨K, noT G⟩ [false] F_text_of_rows) :=
  fn_body (N := ["rows", "found", "number", "row"]) (m := [false]) (k := 9) (g := e_text_of_rows) F sc_text_of_rows rfl (by decide) fun cdv A outer s H E O hr => (bx_cons (sx_set (ev_str [] rfl) O.nd (by exact rfl) (by first | exact .inl rfl | exact .inr rfl) (nin (by exact rfl)))
    (bx_cons (sx_for O (ix_enumA (by exact rfl) B.b_enumerate (ax_cons (ev_bo (bo_var (pv 0))) ax_nil)) (tg_tup O.calm (tgs_cons (tg_name (pg_name (i := 2) O.nd (by exact rfl) (by first | exact .inl rfl | exact .inr rfl)) (by exact rfl) (nin (by exact rfl))) (tgs_cons (tg_name (pg_name (i := 3) O.nd (by exact rfl) (by first | exact .inl rfl | exact .inr rfl)) (by exact rfl) (nin (by exact rfl))) tgs_nil))) (bx_cons (sx_if (tw_or (tx_not (tx_val (ev_callV O C_is_line (hr.mono (by decide)) (by exact rfl) (ax_cons (ev_bo (bo_var (pv 3))) ax_nil)))) (tw_or1 (tx_cmpG (op_eq' hr.units) opF_eq (nomark _) (bo_ix (bo_var (pv 3)) (bo_ev (W := W0) ev_int) (fun _ _ => rfl)) (bo_ev (W := W0) (ev_str [92] rfl))))).tx (bx_one (sx_raiseR O R_BadRow (hr.mono (by decide)) (by exact rfl) (ev_bo (bo_var (pv 2))))) bx_nil)
    (bx_one (sx_aug O.nd (by exact rfl) (by first | exact .inl rfl | exact .inr rfl) (nin (by exact rfl)) (ev_if (tx_cmpG (op_eq' hr.units) opF_eq (nomark _) (bo_ix (bo_var (pv 3)) (bo_ev (W := W0) (ev_neg ev_int)) (fun _ _ => rfl)) (bo_ev (W := W0) (ev_str [10] rfl))) (ev_bo (bo_var (pv 3))) (ev_binG op_add' opF_add (bo_ev (W := W0) (ev_binG op_add' opF_add (bo_var (pv 3)) (bo_ev (W := W0) (ev_str [10] rfl)))) (bo_ev (W := W0) (ev_kstr (by exact B.k_NO_END) (by exact rfl))))) ip_addS ipF_addS))))
    (bx_one (sx_ret (ev_varM (pv 1))))))
abbrev s_law : Stmt := top 25
theorem sc_law : FnScope ["_law_script", "_law_draws_here", "_law_mark", "_law_turn", "_law_some", "_law_pieces", "_law_found", "_law_due", "_law_rows", "_law_k", "_law_piece", "_law_ahead"] ["_law_script"] (defScope s_law) := ⟨rfl, rfl, rfl, by decide +kernel, rfl, by decide +kernel, by decide +kernel⟩
theorem ok_law {f fT cT S : Addr} {fd fdT : FuncData} (F : Fun K "law" "law" s_law f fd) (B : Bl K mg) (C_q_draws : Fk P w ⟨K, noT G⟩ mg base 1 "_law_draws" [false] [] F_q_draws) (C_q_pick : Fk P w ⟨K, noT G⟩ mg base 3 "_law_pick" [true, false] [] F_q_pick) (C_q_take : Fk P w ⟨K, noT G⟩ mg base 2 "_law_take" [true, false] [] F_q_take) (C_q_same : Fk P w ⟨K, noT G⟩ mg base 7 "_law_same" [false, false] [] (F_q_same 6)) (C_rows_of_text : Fk P w ⟨K, noT G⟩ mg base 10 "rows_of_text" [false] [] F_rows_of_text) (C_text_of_rows : Fk P w ⟨K, noT G⟩ mg base 10 "text_of_rows" [false] [] F_text_of_rows) (T_told : ToldOk K mg base G fT cT S fdT fd) : FnOk P w K mg base (L2.CX P w) 13 f fd ["_law_script"] (spT ⟨K, G⟩ [false] F_law) :=
  fn_bodyL (N := ["_law_script", "_law_draws_here", "_law_mark", "_law_turn", "_law_some", "_law_pieces", "_law_found", "_law_due", "_law_rows", "_law_k", "_law_piece", "_law_ahead"]) (m := [false]) (k := 12) (g := e_law) F sc_law rfl (by decide) fun cdv hcd A outer s H E O hr => (bx_cons (sx_set (ev_callV O C_q_draws (hr.mono (by decide)) (by exact rfl) (ax_cons (ev_bo (bo_var (pv 0))) ax_nil)) O.nd (by exact rfl) (by first | exact .inl rfl | exact .inr rfl) (nin (by exact rfl)))
    (bx_cons (sx_set (ev_str [92, 32, 78, 111, 32, 110, 101, 119, 108, 105, 110, 101, 32, 97, 116, 32, 101, 110, 100, 32, 111, 102, 32, 102, 105, 108, 101, 10] rfl) O.nd (by exact rfl) (by first | exact .inl rfl | exact .inr rfl) (nin (by exact rfl)))
    (bx_cons (sx_for O (ix_range1 (by exact rfl) B.b_range (ax_cons ev_int ax_nil)) (tg_name (pg_name (i := 3) O.nd (by exact rfl) (by first | exact .inl rfl | exact .inr rfl)) (by exact rfl) (nin (by exact rfl))) (bx_cons (sx_frzSet (sx_set (ev_lst (ax_cons (ev_str [97, 10] rfl) (ax_cons (ev_str [98, 32, 99, 10] rfl) (ax_cons (ev_bo (bo_var (pv 2))) (ax_cons (ev_bo (bo_var (pv 2))) (ax_cons (ev_str [10] rfl) (ax_cons (ev_str [97, 10] rfl) (ax_cons (ev_str [32, 92, 10] rfl) (ax_cons (ev_str [92, 32, 110, 111, 32, 110, 101, 119, 108, 105, 110, 101, 32, 97, 116, 32, 101, 110, 100, 32, 111, 102, 32, 102, 105, 108, 101, 10] rfl) (ax_cons (ev_str [92, 10] rfl) (ax_cons (ev_str [120, 10] rfl) ax_nil))))))))))) O.nd (by exact rfl) (by first | exact .inl rfl | exact .inr rfl) (nin (by exact rfl))))
    (bx_cons (sx_frzSet (sx_set (ev_comp O (ix_range1 (by exact rfl) B.b_range (ax_cons (ev_call O C_q_take (hr.mono (by decide)) (by exact rfl) (ax_ref (pv 1) (ax_cons ev_int ax_nil))) ax_nil)) (blkOk_by (own := [("_law_k", 9)]) (by exact rfl)) (own_name (by decide)) (fun s1 H1 C1 cl1 fp1 => (tg_name (pg_name (i := 9) O.nd (by exact rfl) (by first | exact .inl rfl | exact .inr rfl)) (by exact rfl) (nin (by exact rfl)))) (fun s1 H1 C1 cl1 fp1 => txs_nil) (fun s1 H1 C1 cl1 fp1 => (ev_call (blkO O s1 H1 C1 cl1 fp1) C_q_pick (hr.mono (by decide)) (by exact rfl) (ax_ref (pv 1) (ax_cons (ev_bo (bo_var (pv 4))) ax_nil))))) O.nd (by exact rfl) (by first | exact .inl rfl | exact .inr rfl) (nin (by exact rfl))))
    (bx_cons (sx_if (tx_cmp (op_eq' hr.units) opF_eq (nomark _) (ev_call O C_q_take (hr.mono (by decide)) (by exact rfl) (ax_ref (pv 1) (ax_cons ev_int ax_nil))) ev_int) (bx_one (sx_frzSet (sx_set (ev_bin op_add' opF_add (ev_bo (bo_var (pv 5))) (ev_frz (ev_lst (ax_cons (ev_call O C_q_pick (hr.mono (by decide)) (by exact rfl) (ax_ref (pv 1) (ax_cons (ev_lst (ax_cons (ev_str [97] rfl) (ax_cons (ev_slG (bo_var (pv 2)) ox_none (ox_some (ev_neg ev_int))) (ax_cons (ev_str [92] rfl) (ax_cons (ev_str [32] rfl) ax_nil))))) ax_nil))) ax_nil)))) O.nd (by exact rfl) (by first | exact .inl rfl | exact .inr rfl) (nin (by exact rfl))))) bx_nil)
    (bx_cons (sx_par O.calm O.nd (by exact rfl) (by exact rfl) (by decide) (by exact rfl) (by exact rfl) (nin (by exact rfl)) (nin (by exact rfl)) (ax_cons ev_non (ax_cons (ev_frz (ev_lst ax_nil)) ax_nil)) (by exact rfl))
    (bx_cons (sx_for O (ix_enumA (by exact rfl) B.b_enumerate (ax_cons (ev_bo (bo_var (pv 5))) ax_nil)) (tg_tup O.calm (tgs_cons (tg_name (pg_name (i := 9) O.nd (by exact rfl) (by first | exact .inl rfl | exact .inr rfl)) (by exact rfl) (nin (by exact rfl))) (tgs_cons (tg_name (pg_name (i := 10) O.nd (by exact rfl) (by first | exact .inl rfl | exact .inr rfl)) (by exact rfl) (nin (by exact rfl))) tgs_nil))) (bx_cons (sx_set (ev_if (tx_cmpG op_gt opF_gt (nomark _) (bo_var (pv 9)) (bo_ev (W := W0) ev_int)) (ev_bo (bo_ix (bo_var (pv 5)) (bo_ev (W := W0) (ev_bin op_sub opF_sub (ev_bo (bo_var (pv 9))) ev_int)) (fun _ _ => rfl))) (ev_str [10] rfl)) O.nd (by exact rfl) (by first | exact .inl rfl | exact .inr rfl) (nin (by exact rfl)))
    (bx_cons (sx_if (tw_and (tx_cmpG (op_eq' hr.units) opF_eq (nomark _) (bo_ix (bo_var (pv 10)) (bo_ev (W := W0) ev_int) (fun _ _ => rfl)) (bo_ev (W := W0) (ev_str [92] rfl))) (tw_and (tx_cmpG op_is' opF_is (nomark _) (bo_var (pv 7)) (bo_ev (W := W0) ev_non)) (tw_and1 (tw_or (tx_cmpG (op_ne' hr.units) opF_ne (nomark _) (bo_var (pv 10)) (bo_var (pv 2))) (tw_or1 (tx_cmpG op_in' opF_in (by rfl) (bo_var (pv 11)) (bo_ev (W := W0) (ev_tup (ax_cons (ev_bo (bo_var (pv 2))) (ax_cons (ev_str [10] rfl) ax_nil))))))).tx))).tx (bx_one (sx_set (ev_bo (bo_var (pv 9))) O.nd (by exact rfl) (by first | exact .inl rfl | exact .inr rfl) (nin (by exact rfl)))) bx_nil)
    (bx_one (sx_frzSet (sx_set (ev_if (tx_cmpG (op_ne' hr.units) opF_ne (nomark _) (bo_ix (bo_var (pv 10)) (bo_ev (W := W0) ev_int) (fun _ _ => rfl)) (bo_ev (W := W0) (ev_str [92] rfl))) (ev_binG op_add' opF_add (bo_var (pv 8)) (bo_ev (W := W0) (ev_frz (ev_lst (ax_cons (ev_bo (bo_var (pv 10))) ax_nil))))) (ev_if (tx_cmpG op_is' opF_is (nomark _) (bo_var (pv 7)) (bo_ev (W := W0) ev_non)) (ev_binG op_add' opF_add (bo_ev (W := W0) (ev_slG (bo_var (pv 8)) ox_none (ox_some (ev_neg ev_int)))) (bo_ev (W := W0) (ev_frz (ev_lst (ax_cons (ev_slG (bo_ix (bo_var (pv 8)) (bo_ev (W := W0) (ev_neg ev_int)) (fun _ _ => rfl)) ox_none (ox_some (ev_neg ev_int))) ax_nil))))) (ev_bo (bo_var (pv 8))))) O.nd (by exact rfl) (by first | exact .inl rfl | exact .inr rfl) (nin (by exact rfl))))))))
    (bx_cons (sx_if (tw_and (tx_cmpG op_is' opF_is (nomark _) (bo_var (pv 7)) (bo_ev (W := W0) ev_non)) (tw_and (tx_cmpG (op_ne' hr.units) opF_ne (nomark _) (bo_var (pv 5)) (bo_ev (W := W0) (ev_lst ax_nil))) (tw_and1 (tx_not (tx_val (ev_m1 PySem.F.slot_str_endswith PySem.F.type_str_endswith mt_endswith opF_ends (ev_bo (bo_ix (bo_var (pv 5)) (bo_ev (W := W0) (ev_neg ev_int)) (fun _ _ => rfl))) (ev_str [10] rfl))))))).tx (bx_one (sx_set (ev_bin op_sub opF_sub (ev_b1G (id := "len") call_len caF_len (by exact rfl) B.b_len (by decide +kernel) (bo_var (pv 5))) ev_int) O.nd (by exact rfl) (by first | exact .inl rfl | exact .inr rfl) (nin (by exact rfl)))) bx_nil)
    (bx_cons (sx_frzSet (sx_set (ev_toldF (k := 10) (cl := clT) T_told.g0 (by rfl) T_told.hs T_told.hI T_told.U T_told.m T_told.k T_told.b sc_told (by exact rfl) (by exact rfl) (by exact rfl) (by exact rfl) (hcl_told T_told) (by exact rfl) T_told.TB (by exact hcd.symm.trans T_told.code) (hr.mono (by decide)) (LamX.lamS_by (sc := defScope s_law) (by decide +kernel)) (by rfl) (fun _ _ _ _ _ => by rfl) (fun A outer s H E f2 c2 hr => have O := lam_ok (X := cxOf _ _ _ _ _ _ _ _ _ _ _ _ _ _ _ _) O.nd; (ev_callV O C_rows_of_text (hr.mono (by decide)) (by exact rfl) (ax_cons (ev_m1 PySem.F.slot_str_join PySem.F.type_str_join mt_join opF_join (ev_str [] rfl) (ev_bo (bo_var (pv 5)))) ax_nil)))) O.nd (by exact rfl) (by first | exact .inl rfl | exact .inr rfl) (nin (by exact rfl))))
    (bx_cons (sx_if (tx_not (tx_val (ev_callV O C_q_same (hr.mono (by decide)) (by exact rfl) (ax_cons (ev_bo (bo_var (pv 6))) (ax_cons (ev_if (tx_cmpG op_is' opF_is (nomark _) (bo_var (pv 7)) (bo_ev (W := W0) ev_non)) (ev_tup (ax_cons (ev_str [116, 111, 108, 100] rfl) (ax_cons (ev_bo (bo_var (pv 8))) ax_nil))) (ev_tup (ax_cons (ev_str [114, 111, 119] rfl) (ax_cons (ev_bo (bo_var (pv 7))) ax_nil)))) ax_nil))))) (bx_one (sx_ret ev_bl)) bx_nil)
    (bx_one (sx_if (tw_and (tx_cmpG op_is' opF_is (nomark _) (bo_var (pv 7)) (bo_ev (W := W0) ev_non)) (tw_and1 (tx_cmpG (op_ne' hr.units) opF_ne (nomark _) (bo_ev (W := W0) (ev_callV O.q C_text_of_rows (hr.mono (by decide)) (by exact rfl) (ax_cons (ev_bo (bo_var (pv 8))) ax_nil))) (bo_ev (W := W0) (ev_m1 PySem.F.slot_str_join PySem.F.type_str_join mt_join opF_join (ev_str [] rfl) (ev_bo (bo_var (pv 5)))))))).tx (bx_one (sx_ret ev_bl)) bx_nil)))))))))))
    (bx_one (sx_ret ev_bl)))))
end
def fnL : List He.DefD := [dfD "_law_draws" s_q_draws, dfD "_law_mixed" s_q_mixed, dfD "_law_take" s_q_take, dfD "_law_pick" s_q_pick, dfD "_law_same" s_q_same, dfD "frozen" s_frozen, dfD "rows_of_text" s_rows_of_text, dfD "is_line" s_is_line, dfD "text_of_rows" s_text_of_rows, dfD "law" s_law, dfD "_law_told" s_q_told, mtD "BadRow" "__init__" "BadRow.__init__" si_BadRow, mtD "BadCount" "__init__" "BadCount.__init__" si_BadCount, mtD "BadName" "__init__" "BadName.__init__" si_BadName, mtD "BadEnd" "__init__" "BadEnd.__init__" si_BadEnd, mtD "NoPlace" "__init__" "NoPlace.__init__" si_NoPlace, mtD "Clash" "__init__" "Clash.__init__" si_Clash]
def faL : List He.Fa := [.glo "_law_draws", .glo "_law_mixed", .glo "_law_take", .glo "_law_pick", .glo "_law_same", .glo "frozen", .glo "rows_of_text", .glo "is_line", .glo "text_of_rows", .glo "law", .glo "_law_told", .glo "BadRow", .glo "BadCount", .glo "BadName", .glo "BadEnd", .glo "BadForm", .glo "BadChanges", .glo "BadCodes", .glo "NoPlace", .glo "Clash", .glo "SeamError", .str "NO_END" (mkS [92, 32, 78, 111, 32, 110, 101, 119, 108, 105, 110, 101, 32, 97, 116, 32, 101, 110, 100, 32, 111, 102, 32, 102, 105, 108, 101, 10]), .free "all", .free "bool", .free "enumerate", .free "int", .free "isinstance", .free "len", .free "list", .free "range", .free "str", .free "tuple", .free "zip"]
def exL (K : PySem.W.Frag) : Bool := [clsB K "BadRow" "number", clsB K "BadCount" "count", clsB K "BadName" "name", clsB K "BadEnd" "end", clsB K "NoPlace" "number", clsB K "Clash" "number", clsB0 K "BadForm" "SeamError", clsB0 K "BadChanges" "SeamError", clsB0 K "BadCodes" "SeamError", exmB K ["BadCount", "BadRow", "BadName", "BadEnd", "NoPlace", "Clash", "BadForm", "BadChanges", "BadCodes"], decide ((He.cT K ("law", none)).2 ≠ 0)].all id
abbrev tfL : List He.Defn := [("law", none)]
def GL (K : PySem.W.Frag) : Nat → Addr := Gx (He.cT K ("law", none)).2 K ["BadCount", "BadRow", "BadName", "BadEnd", "NoPlace", "Clash", "BadForm", "BadChanges", "BadCodes"]
set_option maxHeartbeats 4000000 in
theorem law_main {P : Program} {w : World} {K : PySem.W.Frag} {h : Heap} {mg : Str → Option Value} {fa : Addr} (X : K.In h) (Gm : h.Ns mainGlobals mg) (c : He.SaysX faL fnL [] tfL exL w h K) (hmg : mg "law" = some (.ref fa)) :
    ∃ (K : PySem.W.Frag) (G : Nat → Addr) (fd : FuncData) (cs : List (Addr × Addr)), K.In h ∧ (∀ p ∈ cs, h.get? p.2 = some { cls := .none, data := .fields #[] }) ∧ (∀ p ∈ cs, K.lookup p.2 = none) ∧ (∀ p ∈ cs, PySem.W.CodeHd h p.1 p.2) ∧ (G 0 = 0 ∨ ∃ c, (c, G 0) ∈ cs) ∧
      (∀ (s : Shared) (u : Value), BindsTo s fd ⟨[u], []⟩ [("_law_script", u)]) ∧ ∀ base : Heap, K.In base → base.Ns mainGlobals mg → (∀ p ∈ cs, LamX.TabB base mg p.1 p.2) → FnOk P w K mg base (L2.CX P w) 13 fa fd ["_law_script"] (spT ⟨K, G⟩ [false] F_law) := by
  obtain ⟨f_q_draws, fd_q_draws, U_q_draws, m_q_draws, k_q_draws, b_q_draws⟩ := (dfx (x := "_law_draws") (st := s_q_draws) (ps := ["_law_script"]) c.t.d X Gm 0 0 rfl rfl (fun _ _ _ _ _ _ us hl => match us, hl with | [_], _ => rfl)).ex
  obtain ⟨f_q_mixed, fd_q_mixed, U_q_mixed, m_q_mixed, k_q_mixed, b_q_mixed⟩ := (dfx (x := "_law_mixed") (st := s_q_mixed) (ps := ["_law_seed", "_law_k"]) c.t.d X Gm 1 1 rfl rfl (fun _ _ _ _ _ _ us hl => match us, hl with | [_, _], _ => rfl)).ex
  obtain ⟨f_q_take, fd_q_take, U_q_take, m_q_take, k_q_take, b_q_take⟩ := (dfx (x := "_law_take") (st := s_q_take) (ps := ["_law_draws_here", "_law_size"]) c.t.d X Gm 2 2 rfl rfl (fun _ _ _ _ _ _ us hl => match us, hl with | [_, _], _ => rfl)).ex
  obtain ⟨f_q_pick, fd_q_pick, U_q_pick, m_q_pick, k_q_pick, b_q_pick⟩ := (dfx (x := "_law_pick") (st := s_q_pick) (ps := ["_law_draws_here", "_law_some"]) c.t.d X Gm 3 3 rfl rfl (fun _ _ _ _ _ _ us hl => match us, hl with | [_, _], _ => rfl)).ex
  obtain ⟨f_q_same, fd_q_same, U_q_same, m_q_same, k_q_same, b_q_same⟩ := (dfx (x := "_law_same") (st := s_q_same) (ps := ["_law_found", "_law_due"]) c.t.d X Gm 4 4 rfl rfl (fun _ _ _ _ _ _ us hl => match us, hl with | [_, _], _ => rfl)).ex
  obtain ⟨f_frozen, fd_frozen, U_frozen, m_frozen, k_frozen, b_frozen⟩ := (dfx (x := "frozen") (st := s_frozen) (ps := ["thing"]) c.t.d X Gm 5 5 rfl rfl (fun _ _ _ _ _ _ us hl => match us, hl with | [_], _ => rfl)).ex
  obtain ⟨f_rows_of_text, fd_rows_of_text, U_rows_of_text, m_rows_of_text, k_rows_of_text, b_rows_of_text⟩ := (dfx (x := "rows_of_text") (st := s_rows_of_text) (ps := ["text"]) c.t.d X Gm 6 6 rfl rfl (fun _ _ _ _ _ _ us hl => match us, hl with | [_], _ => rfl)).ex
  obtain ⟨f_is_line, fd_is_line, U_is_line, m_is_line, k_is_line, b_is_line⟩ := (dfx (x := "is_line") (st := s_is_line) (ps := ["thing"]) c.t.d X Gm 7 7 rfl rfl (fun _ _ _ _ _ _ us hl => match us, hl with | [_], _ => rfl)).ex
  obtain ⟨f_text_of_rows, fd_text_of_rows, U_text_of_rows, m_text_of_rows, k_text_of_rows, b_text_of_rows⟩ := (dfx (x := "text_of_rows") (st := s_text_of_rows) (ps := ["rows"]) c.t.d X Gm 8 8 rfl rfl (fun _ _ _ _ _ _ us hl => match us, hl with | [_], _ => rfl)).ex
  obtain ⟨f_law, fd_law, U_law, m_law, k_law, b_law⟩ := (dfx (x := "law") (st := s_law) (ps := ["_law_script"]) c.t.d X Gm 9 9 rfl rfl (fun _ _ _ _ _ _ us hl => match us, hl with | [_], _ => rfl)).ex
  obtain ⟨f_q_told, fd_q_told, U_q_told, m_q_told, k_q_told, b_q_told⟩ := (dfx (x := "_law_told") (st := s_q_told) (ps := ["_law_ask"]) c.t.d X Gm 10 10 rfl rfl (fun _ _ _ _ _ _ us hl => match us, hl with | [_], _ => rfl)).ex
  have B : Bl K mg := ⟨kstr_of X Gm (c.t.d.fact 21 rfl) rfl, He.free_ok X Gm (c.t.d.fact 22 rfl), He.free_ok X Gm (c.t.d.fact 23 rfl), He.free_ok X Gm (c.t.d.fact 24 rfl), He.free_ok X Gm (c.t.d.fact 25 rfl), He.free_ok X Gm (c.t.d.fact 26 rfl), He.free_ok X Gm (c.t.d.fact 27 rfl), He.free_ok X Gm (c.t.d.fact 28 rfl), He.free_ok X Gm (c.t.d.fact 29 rfl), He.free_ok X Gm (c.t.d.fact 30 rfl), He.free_ok X Gm (c.t.d.fact 31 rfl), He.free_ok X Gm (c.t.d.fact 32 rfl)⟩
  have e := m_law.symm.trans hmg
  cases e
  have c_BadRow : ClsF K "BadRow" "number" := clsB_ok (all_at c.more 0 rfl)
  have g_BadRow : mg "BadRow" = some (.ref (He.ga K "BadRow")) := He.glo_ok X Gm (c.t.d.fact 11 rfl)
  obtain ⟨fd_BadRow, D_BadRow⟩ := c.t.d.def_ 11 (d := mtD "BadRow" "__init__" "BadRow.__init__" si_BadRow) rfl
  have D_BadRow : FunD K "__init__" "BadRow.__init__" (defArgs si_BadRow) (defBody si_BadRow) (defScope si_BadRow) [] [] (He.ma K (He.ga K "BadRow") "__init__") fd_BadRow := D_BadRow
  have b_BadRow : Binds K fd_BadRow ["self", "number"] [] := D_BadRow.bindsN fun _ _ _ _ _ _ us hl => match us, hl with | [_, _], _ => rfl
  have c_BadCount : ClsF K "BadCount" "count" := clsB_ok (all_at c.more 1 rfl)
  have g_BadCount : mg "BadCount" = some (.ref (He.ga K "BadCount")) := He.glo_ok X Gm (c.t.d.fact 12 rfl)
  obtain ⟨fd_BadCount, D_BadCount⟩ := c.t.d.def_ 12 (d := mtD "BadCount" "__init__" "BadCount.__init__" si_BadCount) rfl
  have D_BadCount : FunD K "__init__" "BadCount.__init__" (defArgs si_BadCount) (defBody si_BadCount) (defScope si_BadCount) [] [] (He.ma K (He.ga K "BadCount") "__init__") fd_BadCount := D_BadCount
  have b_BadCount : Binds K fd_BadCount ["self", "count"] [] := D_BadCount.bindsN fun _ _ _ _ _ _ us hl => match us, hl with | [_, _], _ => rfl
  have c_BadName : ClsF K "BadName" "name" := clsB_ok (all_at c.more 2 rfl)
  have g_BadName : mg "BadName" = some (.ref (He.ga K "BadName")) := He.glo_ok X Gm (c.t.d.fact 13 rfl)
  obtain ⟨fd_BadName, D_BadName⟩ := c.t.d.def_ 13 (d := mtD "BadName" "__init__" "BadName.__init__" si_BadName) rfl
  have D_BadName : FunD K "__init__" "BadName.__init__" (defArgs si_BadName) (defBody si_BadName) (defScope si_BadName) [] [] (He.ma K (He.ga K "BadName") "__init__") fd_BadName := D_BadName
  have b_BadName : Binds K fd_BadName ["self", "name"] [] := D_BadName.bindsN fun _ _ _ _ _ _ us hl => match us, hl with | [_, _], _ => rfl
  have c_BadEnd : ClsF K "BadEnd" "end" := clsB_ok (all_at c.more 3 rfl)
  have g_BadEnd : mg "BadEnd" = some (.ref (He.ga K "BadEnd")) := He.glo_ok X Gm (c.t.d.fact 14 rfl)
  obtain ⟨fd_BadEnd, D_BadEnd⟩ := c.t.d.def_ 14 (d := mtD "BadEnd" "__init__" "BadEnd.__init__" si_BadEnd) rfl
  have D_BadEnd : FunD K "__init__" "BadEnd.__init__" (defArgs si_BadEnd) (defBody si_BadEnd) (defScope si_BadEnd) [] [] (He.ma K (He.ga K "BadEnd") "__init__") fd_BadEnd := D_BadEnd
  have b_BadEnd : Binds K fd_BadEnd ["self", "end"] [] := D_BadEnd.bindsN fun _ _ _ _ _ _ us hl => match us, hl with | [_, _], _ => rfl
  have c_NoPlace : ClsF K "NoPlace" "number" := clsB_ok (all_at c.more 4 rfl)
  have g_NoPlace : mg "NoPlace" = some (.ref (He.ga K "NoPlace")) := He.glo_ok X Gm (c.t.d.fact 18 rfl)
  obtain ⟨fd_NoPlace, D_NoPlace⟩ := c.t.d.def_ 15 (d := mtD "NoPlace" "__init__" "NoPlace.__init__" si_NoPlace) rfl
  have D_NoPlace : FunD K "__init__" "NoPlace.__init__" (defArgs si_NoPlace) (defBody si_NoPlace) (defScope si_NoPlace) [] [] (He.ma K (He.ga K "NoPlace") "__init__") fd_NoPlace := D_NoPlace
  have b_NoPlace : Binds K fd_NoPlace ["self", "number"] [] := D_NoPlace.bindsN fun _ _ _ _ _ _ us hl => match us, hl with | [_, _], _ => rfl
  have c_Clash : ClsF K "Clash" "number" := clsB_ok (all_at c.more 5 rfl)
  have g_Clash : mg "Clash" = some (.ref (He.ga K "Clash")) := He.glo_ok X Gm (c.t.d.fact 19 rfl)
  obtain ⟨fd_Clash, D_Clash⟩ := c.t.d.def_ 16 (d := mtD "Clash" "__init__" "Clash.__init__" si_Clash) rfl
  have D_Clash : FunD K "__init__" "Clash.__init__" (defArgs si_Clash) (defBody si_Clash) (defScope si_Clash) [] [] (He.ma K (He.ga K "Clash") "__init__") fd_Clash := D_Clash
  have b_Clash : Binds K fd_Clash ["self", "number"] [] := D_Clash.bindsN fun _ _ _ _ _ _ us hl => match us, hl with | [_, _], _ => rfl
  have c_BadForm : Cls0 K "BadForm" "SeamError" := clsB0_ok (all_at c.more 6 rfl)
  have g_BadForm : mg "BadForm" = some (.ref (He.ga K "BadForm")) := He.glo_ok X Gm (c.t.d.fact 15 rfl)
  have Z_BadForm : Rz0 K mg (noT (GL K)) 6 "BadForm" := c_BadForm.rz rfl g_BadForm
  have c_BadChanges : Cls0 K "BadChanges" "SeamError" := clsB0_ok (all_at c.more 7 rfl)
  have g_BadChanges : mg "BadChanges" = some (.ref (He.ga K "BadChanges")) := He.glo_ok X Gm (c.t.d.fact 16 rfl)
  have Z_BadChanges : Rz0 K mg (noT (GL K)) 7 "BadChanges" := c_BadChanges.rz rfl g_BadChanges
  have c_BadCodes : Cls0 K "BadCodes" "SeamError" := clsB0_ok (all_at c.more 8 rfl)
  have g_BadCodes : mg "BadCodes" = some (.ref (He.ga K "BadCodes")) := He.glo_ok X Gm (c.t.d.fact 17 rfl)
  have Z_BadCodes : Rz0 K mg (noT (GL K)) 8 "BadCodes" := c_BadCodes.rz rfl g_BadCodes
  have mS : mg "SeamError" = some (.ref (He.ga K "SeamError")) := He.glo_ok X Gm (c.t.d.fact 20 rfl)
  have e0 : fa = He.ga K "law" := by
    have e := m_law.symm.trans (He.glo_ok X Gm (c.t.d.fact 9 rfl))
    exact PySem.Value.ref.inj (Option.some.inj e)
  have ec : fd_law.code = .ref (He.cT K ("law", none)).1 := by
    subst e0
    exact lawCode U_law
  refine ⟨K, GL K, fd_law, [He.cT K ("law", none)], X, fun p hp => ?_, fun p hp => ?_, fun p hp => ?_, .inr ⟨_, List.mem_singleton.mpr rfl⟩, fun s u => .of_eq (b_law [u] rfl), fun base _ _ TB => ?_⟩
  · rw [List.mem_singleton.mp hp]; exact c.empty _ (List.mem_singleton.mpr rfl)
  · rw [List.mem_singleton.mp hp]; exact c.out _ (List.mem_singleton.mpr rfl)
  · rw [List.mem_singleton.mp hp]; exact PySem.W.codeHd_of_K X (c.hd _ (List.mem_singleton.mpr rfl))
  have C_q_draws := Fk.of (P := P) (w := w) (base := base) (G := noT (GL K)) (ok_q_draws (G := GL K) U_q_draws B ) m_q_draws k_q_draws (.all b_q_draws)
  have C_q_mixed := Fk.of (P := P) (w := w) (base := base) (G := noT (GL K)) (ok_q_mixed (G := GL K) U_q_mixed B ) m_q_mixed k_q_mixed (.all b_q_mixed)
  have C_q_take := Fk.of (P := P) (w := w) (base := base) (G := noT (GL K)) (ok_q_take (G := GL K) U_q_take B C_q_mixed) m_q_take k_q_take (.all b_q_take)
  have C_q_pick := Fk.of (P := P) (w := w) (base := base) (G := noT (GL K)) (ok_q_pick (G := GL K) U_q_pick B C_q_take) m_q_pick k_q_pick (.all b_q_pick)
  have C_q_same := Fk.of (P := P) (w := w) (base := base) (G := noT (GL K)) (ok_q_same (G := GL K) U_q_same B  m_q_same k_q_same (.all b_q_same) 6) m_q_same k_q_same (.all b_q_same)
  have C_frozen := Fk.of (P := P) (w := w) (base := base) (G := noT (GL K)) (ok_frozen (G := GL K) U_frozen B  m_frozen k_frozen (.all b_frozen) 6) m_frozen k_frozen (.all b_frozen)
  have R_BadRow : Rz P w K mg base (GL K) 8 1 "BadRow" [110, 117, 109, 98, 101, 114] (F_frozen 6) := ⟨_, fd_BadRow, "number", c_BadRow.o, c_BadRow.i, c_BadRow.t, init_ok (P := P) (w := w) (base := base) (G := GL K) (funOf D_BadRow) ⟨rfl, rfl, rfl, by decide +kernel, rfl, by decide +kernel, by decide +kernel⟩ C_frozen (by exact rfl) c_BadRow.o (by exact c_BadRow.n) (by decide) (by decide) (.inl rfl) (.inl rfl) (by exact rfl), b_BadRow, g_BadRow⟩
  have C_rows_of_text := Fk.of (P := P) (w := w) (base := base) (G := noT (GL K)) (ok_rows_of_text (G := GL K) U_rows_of_text B R_BadRow) m_rows_of_text k_rows_of_text (.all b_rows_of_text)
  have C_is_line := Fk.of (P := P) (w := w) (base := base) (G := noT (GL K)) (ok_is_line (G := GL K) U_is_line B ) m_is_line k_is_line (.all b_is_line)
  have C_text_of_rows := Fk.of (P := P) (w := w) (base := base) (G := noT (GL K)) (ok_text_of_rows (G := GL K) U_text_of_rows B C_is_line R_BadRow) m_text_of_rows k_text_of_rows (.all b_text_of_rows)
  have hI : ∀ p ∈ clT, ∀ w, p.2 = .isi w → PySem.W.kitOne K (.ref (GL K (p.1 + 1))) (.ref (He.ga K "SeamError")) = some true := by
    intro p hp w e
    simp only [clT, List.mem_cons, List.not_mem_nil, or_false] at hp
    rcases hp with rfl | rfl | rfl | rfl | rfl | rfl | rfl | rfl | rfl
    · cases e
    · cases e
    · cases e
    · cases e
    · exact c_BadForm.i
    · exact c_BadChanges.i
    · exact c_BadCodes.i
    · cases e
    · cases e
  have xg : GL K 0 ≠ 0 := of_decide_eq_true (all_at c.more 10 rfl)
  have xh : ∀ c ∈ clT.map Prod.fst, ∀ c' ∈ clT.map Prod.fst, PySem.W.exmOne K (.ref (GL K (c + 1))) (.ref (GL K (c' + 1))) = some (decide (c = c')) := fun c1 hc c2 hc' => exmB_ok (xs := ["BadCount", "BadRow", "BadName", "BadEnd", "NoPlace", "Clash", "BadForm", "BadChanges", "BadCodes"]) (all_at c.more 9 rfl) (lt_of_all (n := 9) (by decide) hc) (lt_of_all (n := 9) (by decide) hc')
  exact ok_law U_law B C_q_draws C_q_pick C_q_take C_q_same C_rows_of_text C_text_of_rows (S := (He.ga K "SeamError")) ⟨xg, xh, hI, U_q_told, m_q_told, k_q_told, (.all b_q_told), TB _ (List.mem_singleton.mpr rfl), ec, ⟨c_BadCount.xf, c_BadCount.n, g_BadCount⟩, ⟨c_BadName.xf, c_BadName.n, g_BadName⟩, ⟨c_BadEnd.xf, c_BadEnd.n, g_BadEnd⟩, ⟨c_BadRow.xf, c_BadRow.n, g_BadRow⟩, ⟨c_BadForm.e, g_BadForm⟩, ⟨c_BadChanges.e, g_BadChanges⟩, ⟨c_BadCodes.e, g_BadCodes⟩, ⟨c_NoPlace.xf, c_NoPlace.n, g_NoPlace⟩, ⟨c_Clash.xf, c_Clash.n, g_Clash⟩, B.b_isinstance, mS⟩
def nm0 : List PySem.Str := ["frozen", "SeamError", "BadCount", "BadCodes", "BadRow", "BadName", "BadEnd", "BadForm", "BadChanges", "NoPlace", "Clash", "is_line", "NO_END", "text_of_rows", "rows_of_text", "_law_draws", "_law_mixed", "_law_take", "_law_pick", "_law_same", "_law_told"]
def nmL : List PySem.Str := nm0
abbrev hkL : PySem.W.Hook := He.hookX 6 faL fnL [] tfL exL
def obL (s : PySem.W.SharedT) : He.AlX := He.obsX 6 faL fnL [] tfL exL (HandSHeadRun.getT s)
theorem obL_eq (s : PySem.W.SharedT) : obL s = hkL.obs s.abs := He.obsX_eq (HandSHeadRun.getT_eq s)
abbrev RL : PySem.W.OpenRow := PySem.W.OpenLaw.row PySem.Challenge.rw_twinseam_k74_texts_cut_into_rows
end Tw.Lw
namespace Tw.Lw
open PySem PySem.Spec L2

set_option maxHeartbeats 0 in
theorem runL (w : World) : HandSHeadRun.RunEq RL (PySem.W.view RL.prog [25]) hkL obL 30000 nmL w := by
  intro os
  kernel_rfl
end Tw.Lw
namespace Tw.Lw
open PySem PySem.Spec L2
theorem R.bind_congr {ε α β : Type} {x x' : R ε α} {f : α → R ε β} (h : x = x') : R.bind x f = R.bind x' f := by rw [h]
def outV (x : FR) (ρ : Env) : R Env (D × Env) := match x with
  | .ok (r, _) => .ok (r, ρ)
  | .exc c fs _ => .exc c fs ρ
  | .stuck => .stuck
theorem outV_ok (r : D) (os : List D) (ρ : Env) : outV (.ok (r, os)) ρ = .ok (r, ρ) := rfl
theorem callV_1 (F : List D → FR) (a : D) (ρ : Env) : callV [false] [] F [.v a] ρ = outV (F [frz a]) ρ := rfl
theorem callV_2 (F : List D → FR) (a b : D) (ρ : Env) : callV [false, false] [] F [.v a, .v b] ρ = outV (F [frz a, frz b]) ρ := rfl
theorem callV_3 (F : List D → FR) (a b c : D) (ρ : Env) : callV [false, false, false] [] F [.v a, .v b, .v c] ρ = outV (F [frz a, frz b, frz c]) ρ := rfl
def outM (i : Nat) (x : FR) (ρ : Env) : R Env (D × Env) := match x with
  | .ok (r, os) => .ok (r, putA [.m i] os (ρ.set i none))
  | .exc c fs os => .exc c fs (putA [.m i] os (ρ.set i none))
  | .stuck => .stuck
theorem outM_ok (i : Nat) (r d : D) (ρ : Env) : outM i (.ok (r, [d])) ρ = .ok (r, ρ.set i (some d)) := by
  show R.ok (r, (ρ.set i none).set i (some d)) = _
  rw [List.set_set]
theorem putA_tail (i : Nat) (as : List Ag) (os : List D) (ρ : Env) (h : mask as = as.map fun _ => false) : putA (.m i :: as) os ρ = putA [.m i] os ρ := by
  cases os with
  | nil => rfl
  | cons d os =>
    show putA as os _ = putA [] os _
    generalize ρ.set i (some d) = ρ'
    induction as generalizing os with
    | nil => rfl
    | cons a as ih => cases a with
      | v x => have h2 : mask as = as.map fun _ => false := by simpa [mask] using h
               show putA as os ρ' = _
               exact ih h2 os
      | m j => simp [mask] at h
theorem callD_t (F : List D → FR) (i : Nat) (ρ : Env) : callD [true] [] F [.m i] ρ = match gVar i ρ with
    | some d => outM i (F [d]) ρ
    | none => .stuck := by
  unfold callD fillA
  cases gVar i ρ with
  | none => rfl
  | some d =>
    show (match F [d] with | .ok (r, outs) => R.ok (r, putA [.m i] outs (ρ.set i none)) | .exc c fs outs => .exc c fs (putA [.m i] outs (ρ.set i none)) | .stuck => .stuck) = outM i (F [d]) ρ
    unfold outM
    rfl
theorem callD_tf (F : List D → FR) (i : Nat) (a : D) (ρ : Env) : callD [true, false] [] F [.m i, .v a] ρ = match gVar i ρ with
    | some d => outM i (F [d, frz a]) ρ
    | none => .stuck := by
  unfold callD fillA
  cases gVar i ρ with
  | none => rfl
  | some d =>
    show (match F [d, frz a] with | .ok (r, outs) => R.ok (r, putA [.m i, .v a] outs (ρ.set i none)) | .exc c fs outs => .exc c fs (putA [.m i, .v a] outs (ρ.set i none)) | .stuck => .stuck) = outM i (F [d, frz a]) ρ
    unfold outM
    generalize F [d, frz a] = x
    cases x with
    | ok p => show R.ok _ = R.ok _; rw [putA_tail _ _ _ _ rfl]
    | exc c fs p => show R.exc _ _ _ = R.exc _ _ _; rw [putA_tail _ _ _ _ rfl]
    | stuck => rfl
theorem callD_tff (F : List D → FR) (i : Nat) (a b : D) (ρ : Env) : callD [true, false, false] [] F [.m i, .v a, .v b] ρ = match gVar i ρ with
    | some d => outM i (F [d, frz a, frz b]) ρ
    | none => .stuck := by
  unfold callD fillA
  cases gVar i ρ with
  | none => rfl
  | some d =>
    show (match F [d, frz a, frz b] with | .ok (r, outs) => R.ok (r, putA [.m i, .v a, .v b] outs (ρ.set i none)) | .exc c fs outs => .exc c fs (putA [.m i, .v a, .v b] outs (ρ.set i none)) | .stuck => .stuck) = outM i (F [d, frz a, frz b]) ρ
    unfold outM
    generalize F [d, frz a, frz b] = x
    cases x with
    | ok p => show R.ok _ = R.ok _; rw [putA_tail _ _ _ _ rfl]
    | exc c fs p => show R.exc _ _ _ = R.exc _ _ _; rw [putA_tail _ _ _ _ rfl]
    | stuck => rfl
theorem frz_int (i : Int) : frz (.int i) = .int i := rfl
theorem frz_bl (i : Bool) : frz (.bl i) = .bl i := rfl
theorem frz_str (i : List Nat) : frz (.str i) = .str i := rfl
theorem frz_non : frz .non = .non := rfl
theorem dVarF_eq (i : Nat) (ρ : Env) : dVarF i ρ = match gVar i ρ with
  | some d => .ok (frz d, ρ.set i (some (frz d)))
  | none => .stuck := rfl
theorem asB_eq (f : Env → R Env (D × Env)) (ρ : Env) : asB f ρ = (f ρ).bind fun p => match p.1 with
  | .bl c => .ok (c, p.2)
  | _ => .stuck := rfl
theorem dVarM_eq (i : Nat) (ρ : Env) : dVarM i ρ = match gVar i ρ with
  | some d => .ok (d, ρ.set i none)
  | none => .stuck := rfl
/-! ### the draws -/
@[simp] theorem addF_int (i j : Int) : addF (.int i) (.int j) = some (.int (i + j)) := rfl
@[simp] theorem subF_int (i j : Int) : subF (.int i) (.int j) = some (.int (i - j)) := rfl
@[simp] theorem ltF_int (i j : Int) : ltF (.int i) (.int j) = some (.bl (decide (i < j))) := rfl
@[simp] theorem leF_int (i j : Int) : leF (.int i) (.int j) = some (.bl (decide (i ≤ j))) := rfl
@[simp] theorem gtF_int (i j : Int) : gtF (.int i) (.int j) = some (.bl (decide (i > j))) := rfl
@[simp] theorem geF_int (i j : Int) : geF (.int i) (.int j) = some (.bl (decide (i ≥ j))) := rfl
@[simp] theorem intF_int (i : Int) : intF (.int i) = some (.int i) := rfl
@[simp] theorem eqF_int (i j : Int) : eqF (.int i) (.int j) = some (.bl (i == j)) := rfl
theorem modF_int {i j : Int} (h : 0 < j) : modF (.int i) (.int j) = some (.int (i % j)) := by unfold modF; simp [h]
theorem divF_int {i j : Int} (h : 0 < j) (h2 : j < 1073741824) : divF (.int i) (.int j) = some (.int (i / j)) := by unfold divF; simp [h, h2]
theorem powF_int {i j : Int} (h : 0 ≤ j) (h1 : j ≤ 1000000) (h2 : i.natAbs < 18446744073709551616) : powF (.int i) (.int j) = some (.int (i ^ j.toNat)) := by unfold powF; simp [h, h1, h2]
theorem mulF_r {i j : Int} (h : -18446744073709551616 < j) (h2 : j < 18446744073709551616) : mulF (.int i) (.int j) = some (.int (i * j)) := by unfold mulF; simp [h, h2]
theorem mulF_l {i j : Int} (h : -18446744073709551616 < i) (h2 : i < 18446744073709551616) : mulF (.int i) (.int j) = some (.int (i * j)) := by unfold mulF; simp [h, h2]
def mix (seed k : Int) : Int := (((seed % 2147483647 + 7919 * k + 104729) ^ 5 % 2147483629 * 48271 + 40503 * k * k + 13) ^ 3) % 1000000007
theorem mixed_ok {seed k : Int} (h : 0 ≤ k) (h2 : k < 1048576) : F_q_mixed [.int seed, .int k] = .ok (.int (mix seed k), []) := by
  have a1 : 0 ≤ 40503 * k * k := Int.mul_nonneg (by omega) h
  have a2 : 40503 * k * k ≤ 40503 * k * 1048576 := Int.mul_le_mul_of_nonneg_left (by omega) (by omega)
  have a3 : 0 ≤ (seed % 2147483647 + 7919 * k + 104729) ^ 5 % 2147483629 := Int.emod_nonneg _ (by decide)
  have a4 : (seed % 2147483647 + 7919 * k + 104729) ^ 5 % 2147483629 < 2147483629 := Int.emod_lt_of_pos _ (by decide)
  unfold F_q_mixed defD e_q_mixed mix
  generalize e : (seed % 2147483647 + 7919 * k + 104729) ^ 5 % 2147483629 = f at *
  rw [show ini 3 [D.int seed, D.int k] = [some (D.int seed), some (D.int k), none] from rfl]
  simp (disch := omega) [modF_int, powF_int, mulF_l, mulF_r, outsOf, e, List.getElem?_cons_zero, List.getElem?_cons_succ]
def St (b : List Int) (c : Int) (s : List Int) (k : Int) : D := .lst true [.lst true (b.map .int), .int c, .lst true (s.map .int), .int k]
theorem okDs_ints : ∀ (b : List Int) (n : Nat), okDs n (b.map .int) = true
  | [], n => rfl
  | i :: b, n => by show (okD n (.int i) && okDs n (b.map .int)) = true; rw [okDs_ints b n]; cases n <;> rfl
theorem neF_nil (m m' : Bool) (b : List Int) : neF (.lst m (b.map .int)) (.lst m' []) = some (.bl (!b.isEmpty)) := by
  show (if okDs 63 (b.map .int) = true ∧ okDs 63 [] = true then some (D.bl (!eqvDs (b.map .int) [])) else none) = _
  rw [if_pos ⟨okDs_ints b 63, rfl⟩]
  cases b <;> rfl
theorem getIx_lst (m : Bool) (ds : List D) (i : Int) : getIx (.nd m .lst ds) (.int i) = L2.atI ds i := by cases m <;> rfl
theorem ixN_ok {n : Nat} {i : Int} (h : 0 ≤ i) (h2 : i < n) : L2.ixN n i = some i.toNat := by unfold L2.ixN; rw [if_pos h, if_pos h2]
theorem atI_ok {α : Type} {l : List α} {i : Int} (h : 0 ≤ i) (h2 : i < l.length) : L2.atI l i = l[i.toNat]? := by unfold L2.atI; rw [ixN_ok h h2]; rfl
theorem Nat.cast_ofNat_Int {n : Nat} : ((OfNat.ofNat n : Nat) : Int) = OfNat.ofNat n := rfl
theorem atI_nat {α : Type} (l : List α) (n : Nat) : L2.atI l (n : Int) = l[n]? := by
  unfold L2.atI L2.ixN
  rw [if_pos (by omega)]
  by_cases h : (n : Int) < (l.length : Int)
  · rw [if_pos h]; rfl
  · rw [if_neg h, List.getElem?_eq_none (by omega)]; rfl
theorem atI_0 {α : Type} (l : List α) : L2.atI l 0 = l[0]? := atI_nat l 0
theorem atI_1 {α : Type} (l : List α) : L2.atI l 1 = l[1]? := atI_nat l 1
theorem atI_2 {α : Type} (l : List α) : L2.atI l 2 = l[2]? := atI_nat l 2
theorem atI_3 {α : Type} (l : List α) : L2.atI l 3 = l[3]? := atI_nat l 3
theorem atI_4 {α : Type} (l : List α) : L2.atI l 4 = l[4]? := atI_nat l 4
theorem atI_5 {α : Type} (l : List α) : L2.atI l 5 = l[5]? := atI_nat l 5
theorem atI_6 {α : Type} (l : List α) : L2.atI l 6 = l[6]? := atI_nat l 6
theorem atI_7 {α : Type} (l : List α) : L2.atI l 7 = l[7]? := atI_nat l 7
theorem ini5 (x y : D) : ini 5 [x, y] = [some x, some y, none, none, none] := rfl
theorem defD_of {n : Nat} {m : List Bool} {g : Env → R Env Out} {ds os : List D} {d : D} {ρ : Env} (h : g (ini n ds) = .ok (.rt d ρ)) (h2 : outsOf m ρ = some os) : defD n m g ds = .ok (d, os) := by unfold defD; rw [h]; simp only [h2]
theorem seq_nx {g h : Env → R Env Out} {ρ ρ' : Env} {r : R Env Out} (a : g ρ = .ok (.nx ρ')) (b : h ρ' = r) : sSeq g h ρ = r := by rw [sSeq_eq, a]; exact b
theorem seq_rt {g h : Env → R Env Out} {ρ ρ' : Env} {d : D} (a : g ρ = .ok (.rt d ρ')) : sSeq g h ρ = .ok (.rt d ρ') := by rw [sSeq_eq, a]; rfl
theorem if_t {t : Env → R Env (Bool × Env)} {g h : Env → R Env Out} {ρ ρ' : Env} {r : R Env Out} (a : t ρ = .ok (true, ρ')) (b : g ρ' = r) : sIf t g h ρ = r := by rw [sIf_eq, a]; exact b
theorem if_f {t : Env → R Env (Bool × Env)} {g h : Env → R Env Out} {ρ ρ' : Env} {r : R Env Out} (a : t ρ = .ok (false, ρ')) (b : h ρ' = r) : sIf t g h ρ = r := by rw [sIf_eq, a]; exact b
theorem take_a {b s : List Int} {c k n : Int} (hc : 0 < c) (h1 : 1 ≤ n) (h2 : n ≤ 1000000007) : F_q_take [St b c s k, .int n] = .ok (.int (c % n), [St b (c / n) s (k + 1)]) := by
  unfold F_q_take St
  have c0 : (c == 0) = false := by simp; omega
  have c1 : decide (c > 0) = true := by simp; omega
  refine' defD_of (ρ := [some _, _, _, _, _]) (_ : e_q_take _ = _) rfl
  rotate_left 4
  unfold e_q_take
  rw [ini5]
  refine seq_nx (by simp (config := { maxSteps := 400000 }) (disch := omega) only [sSeq_eq, dFrz_eq, sAsg_eq, g2_eq, gIx_eq, toG_eq, dC_eq, gVar_eq, R.ok_bind, oR_some, Option.bind_some, addF_int, eqF_int, sIf_eq, asB_eq, sNil_eq, tAn_eq, wSub_eq, pVar_eq, Option.map_some, Option.getD_some, gtF_int, d2_eq, g1_eq, intF_int, ofG_eq, wName_eq, sRet_eq, dVarM_eq, modF_int, divF_int, mulF_l, mulF_r, outsOf, List.getElem?_cons_zero, List.getElem?_cons_succ, getIx_lst, atI_0, atI_1, atI_2, atI_3, atI_4, atI_5, atI_6, atI_7, ixN_ok, putP, getP, setP, atP, isFrz, List.set_cons_zero, List.set_cons_succ, List.length_cons, List.length_nil, Nat.zero_add, Nat.reduceAdd, Int.reduceToNat, dLst_eq, dTup_eq, aNil_eq, aCons_eq, aRef_eq, vals, lim, Nat.reduceLeDiff, dCallV_eq, dCall_eq, callV_1, callV_2, callV_3, outV_ok, callD_tf, callD_tff, callD_t, outM_ok, ltF_int, leF_int, geF_int, subF_int, Int.zero_mul, Int.zero_add, Int.add_zero, Int.mul_zero, Int.reduceMod, Int.reduceMul, Int.reduceAdd, frz_int, frz_str, frz_bl, frz_non, d1_eq, dM1_eq, dIf_eq, dAnd_eq, dOr_eq, dNot_eq, dNeg_eq, gSl_eq, dSl_eq, oNone_eq, oSome_eq, iSeq_eq, iRange1_eq, iRange2_eq, sFor_eq, tNt_eq, tOu_eq, tYs_eq, dIx_eq, dIxV_eq, sExp_eq, sRetN_eq, mMe_eq, pIx_eq, dVarF_eq, dComp_eq, sAug_eq, sBrk_eq, sCnt_eq, Bool.and_self, Bool.and_true, Bool.true_and, and_self, true_and, and_true, Bool.false_and, Bool.and_false, Bool.not_true, Bool.not_false, Bool.false_eq_true, ↓reduceIte, c0, c1]; rfl) ?_
  refine seq_nx (by simp (config := { maxSteps := 400000 }) (disch := omega) only [sSeq_eq, dFrz_eq, sAsg_eq, g2_eq, gIx_eq, toG_eq, dC_eq, gVar_eq, R.ok_bind, oR_some, Option.bind_some, addF_int, eqF_int, sIf_eq, asB_eq, sNil_eq, tAn_eq, wSub_eq, pVar_eq, Option.map_some, Option.getD_some, gtF_int, d2_eq, g1_eq, intF_int, ofG_eq, wName_eq, sRet_eq, dVarM_eq, modF_int, divF_int, mulF_l, mulF_r, outsOf, List.getElem?_cons_zero, List.getElem?_cons_succ, getIx_lst, atI_0, atI_1, atI_2, atI_3, atI_4, atI_5, atI_6, atI_7, ixN_ok, putP, getP, setP, atP, isFrz, List.set_cons_zero, List.set_cons_succ, List.length_cons, List.length_nil, Nat.zero_add, Nat.reduceAdd, Int.reduceToNat, dLst_eq, dTup_eq, aNil_eq, aCons_eq, aRef_eq, vals, lim, Nat.reduceLeDiff, dCallV_eq, dCall_eq, callV_1, callV_2, callV_3, outV_ok, callD_tf, callD_tff, callD_t, outM_ok, ltF_int, leF_int, geF_int, subF_int, Int.zero_mul, Int.zero_add, Int.add_zero, Int.mul_zero, Int.reduceMod, Int.reduceMul, Int.reduceAdd, frz_int, frz_str, frz_bl, frz_non, d1_eq, dM1_eq, dIf_eq, dAnd_eq, dOr_eq, dNot_eq, dNeg_eq, gSl_eq, dSl_eq, oNone_eq, oSome_eq, iSeq_eq, iRange1_eq, iRange2_eq, sFor_eq, tNt_eq, tOu_eq, tYs_eq, dIx_eq, dIxV_eq, sExp_eq, sRetN_eq, mMe_eq, pIx_eq, dVarF_eq, dComp_eq, sAug_eq, sBrk_eq, sCnt_eq, Bool.and_self, Bool.and_true, Bool.true_and, and_self, true_and, and_true, Bool.false_and, Bool.and_false, Bool.not_true, Bool.not_false, Bool.false_eq_true, ↓reduceIte, c0, c1]; rfl) ?_
  refine seq_rt ?_
  refine if_t (by simp (config := { maxSteps := 400000 }) (disch := omega) only [sSeq_eq, dFrz_eq, sAsg_eq, g2_eq, gIx_eq, toG_eq, dC_eq, gVar_eq, R.ok_bind, oR_some, Option.bind_some, addF_int, eqF_int, sIf_eq, asB_eq, sNil_eq, tAn_eq, wSub_eq, pVar_eq, Option.map_some, Option.getD_some, gtF_int, d2_eq, g1_eq, intF_int, ofG_eq, wName_eq, sRet_eq, dVarM_eq, modF_int, divF_int, mulF_l, mulF_r, outsOf, List.getElem?_cons_zero, List.getElem?_cons_succ, getIx_lst, atI_0, atI_1, atI_2, atI_3, atI_4, atI_5, atI_6, atI_7, ixN_ok, putP, getP, setP, atP, isFrz, List.set_cons_zero, List.set_cons_succ, List.length_cons, List.length_nil, Nat.zero_add, Nat.reduceAdd, Int.reduceToNat, dLst_eq, dTup_eq, aNil_eq, aCons_eq, aRef_eq, vals, lim, Nat.reduceLeDiff, dCallV_eq, dCall_eq, callV_1, callV_2, callV_3, outV_ok, callD_tf, callD_tff, callD_t, outM_ok, ltF_int, leF_int, geF_int, subF_int, Int.zero_mul, Int.zero_add, Int.add_zero, Int.mul_zero, Int.reduceMod, Int.reduceMul, Int.reduceAdd, frz_int, frz_str, frz_bl, frz_non, d1_eq, dM1_eq, dIf_eq, dAnd_eq, dOr_eq, dNot_eq, dNeg_eq, gSl_eq, dSl_eq, oNone_eq, oSome_eq, iSeq_eq, iRange1_eq, iRange2_eq, sFor_eq, tNt_eq, tOu_eq, tYs_eq, dIx_eq, dIxV_eq, sExp_eq, sRetN_eq, mMe_eq, pIx_eq, dVarF_eq, dComp_eq, sAug_eq, sBrk_eq, sCnt_eq, Bool.and_self, Bool.and_true, Bool.true_and, and_self, true_and, and_true, Bool.false_and, Bool.and_false, Bool.not_true, Bool.not_false, Bool.false_eq_true, ↓reduceIte, c0, c1]; rfl) ?_
  refine seq_nx (by simp (config := { maxSteps := 400000 }) (disch := omega) only [sSeq_eq, dFrz_eq, sAsg_eq, g2_eq, gIx_eq, toG_eq, dC_eq, gVar_eq, R.ok_bind, oR_some, Option.bind_some, addF_int, eqF_int, sIf_eq, asB_eq, sNil_eq, tAn_eq, wSub_eq, pVar_eq, Option.map_some, Option.getD_some, gtF_int, d2_eq, g1_eq, intF_int, ofG_eq, wName_eq, sRet_eq, dVarM_eq, modF_int, divF_int, mulF_l, mulF_r, outsOf, List.getElem?_cons_zero, List.getElem?_cons_succ, getIx_lst, atI_0, atI_1, atI_2, atI_3, atI_4, atI_5, atI_6, atI_7, ixN_ok, putP, getP, setP, atP, isFrz, List.set_cons_zero, List.set_cons_succ, List.length_cons, List.length_nil, Nat.zero_add, Nat.reduceAdd, Int.reduceToNat, dLst_eq, dTup_eq, aNil_eq, aCons_eq, aRef_eq, vals, lim, Nat.reduceLeDiff, dCallV_eq, dCall_eq, callV_1, callV_2, callV_3, outV_ok, callD_tf, callD_tff, callD_t, outM_ok, ltF_int, leF_int, geF_int, subF_int, Int.zero_mul, Int.zero_add, Int.add_zero, Int.mul_zero, Int.reduceMod, Int.reduceMul, Int.reduceAdd, frz_int, frz_str, frz_bl, frz_non, d1_eq, dM1_eq, dIf_eq, dAnd_eq, dOr_eq, dNot_eq, dNeg_eq, gSl_eq, dSl_eq, oNone_eq, oSome_eq, iSeq_eq, iRange1_eq, iRange2_eq, sFor_eq, tNt_eq, tOu_eq, tYs_eq, dIx_eq, dIxV_eq, sExp_eq, sRetN_eq, mMe_eq, pIx_eq, dVarF_eq, dComp_eq, sAug_eq, sBrk_eq, sCnt_eq, Bool.and_self, Bool.and_true, Bool.true_and, and_self, true_and, and_true, Bool.false_and, Bool.and_false, Bool.not_true, Bool.not_false, Bool.false_eq_true, ↓reduceIte, c0, c1]; rfl) ?_
  refine seq_nx (by simp (config := { maxSteps := 400000 }) (disch := omega) only [sSeq_eq, dFrz_eq, sAsg_eq, g2_eq, gIx_eq, toG_eq, dC_eq, gVar_eq, R.ok_bind, oR_some, Option.bind_some, addF_int, eqF_int, sIf_eq, asB_eq, sNil_eq, tAn_eq, wSub_eq, pVar_eq, Option.map_some, Option.getD_some, gtF_int, d2_eq, g1_eq, intF_int, ofG_eq, wName_eq, sRet_eq, dVarM_eq, modF_int, divF_int, mulF_l, mulF_r, outsOf, List.getElem?_cons_zero, List.getElem?_cons_succ, getIx_lst, atI_0, atI_1, atI_2, atI_3, atI_4, atI_5, atI_6, atI_7, ixN_ok, putP, getP, setP, atP, isFrz, List.set_cons_zero, List.set_cons_succ, List.length_cons, List.length_nil, Nat.zero_add, Nat.reduceAdd, Int.reduceToNat, dLst_eq, dTup_eq, aNil_eq, aCons_eq, aRef_eq, vals, lim, Nat.reduceLeDiff, dCallV_eq, dCall_eq, callV_1, callV_2, callV_3, outV_ok, callD_tf, callD_tff, callD_t, outM_ok, ltF_int, leF_int, geF_int, subF_int, Int.zero_mul, Int.zero_add, Int.add_zero, Int.mul_zero, Int.reduceMod, Int.reduceMul, Int.reduceAdd, frz_int, frz_str, frz_bl, frz_non, d1_eq, dM1_eq, dIf_eq, dAnd_eq, dOr_eq, dNot_eq, dNeg_eq, gSl_eq, dSl_eq, oNone_eq, oSome_eq, iSeq_eq, iRange1_eq, iRange2_eq, sFor_eq, tNt_eq, tOu_eq, tYs_eq, dIx_eq, dIxV_eq, sExp_eq, sRetN_eq, mMe_eq, pIx_eq, dVarF_eq, dComp_eq, sAug_eq, sBrk_eq, sCnt_eq, Bool.and_self, Bool.and_true, Bool.true_and, and_self, true_and, and_true, Bool.false_and, Bool.and_false, Bool.not_true, Bool.not_false, Bool.false_eq_true, ↓reduceIte, c0, c1]; rfl) ?_
  simp (config := { maxSteps := 400000 }) (disch := omega) only [sSeq_eq, dFrz_eq, sAsg_eq, g2_eq, gIx_eq, toG_eq, dC_eq, gVar_eq, R.ok_bind, oR_some, Option.bind_some, addF_int, eqF_int, sIf_eq, asB_eq, sNil_eq, tAn_eq, wSub_eq, pVar_eq, Option.map_some, Option.getD_some, gtF_int, d2_eq, g1_eq, intF_int, ofG_eq, wName_eq, sRet_eq, dVarM_eq, modF_int, divF_int, mulF_l, mulF_r, outsOf, List.getElem?_cons_zero, List.getElem?_cons_succ, getIx_lst, atI_0, atI_1, atI_2, atI_3, atI_4, atI_5, atI_6, atI_7, ixN_ok, putP, getP, setP, atP, isFrz, List.set_cons_zero, List.set_cons_succ, List.length_cons, List.length_nil, Nat.zero_add, Nat.reduceAdd, Int.reduceToNat, dLst_eq, dTup_eq, aNil_eq, aCons_eq, aRef_eq, vals, lim, Nat.reduceLeDiff, dCallV_eq, dCall_eq, callV_1, callV_2, callV_3, outV_ok, callD_tf, callD_tff, callD_t, outM_ok, ltF_int, leF_int, geF_int, subF_int, Int.zero_mul, Int.zero_add, Int.add_zero, Int.mul_zero, Int.reduceMod, Int.reduceMul, Int.reduceAdd, frz_int, frz_str, frz_bl, frz_non, d1_eq, dM1_eq, dIf_eq, dAnd_eq, dOr_eq, dNot_eq, dNeg_eq, gSl_eq, dSl_eq, oNone_eq, oSome_eq, iSeq_eq, iRange1_eq, iRange2_eq, sFor_eq, tNt_eq, tOu_eq, tYs_eq, dIx_eq, dIxV_eq, sExp_eq, sRetN_eq, mMe_eq, pIx_eq, dVarF_eq, dComp_eq, sAug_eq, sBrk_eq, sCnt_eq, Bool.and_self, Bool.and_true, Bool.true_and, and_self, true_and, and_true, Bool.false_and, Bool.and_false, Bool.not_true, Bool.not_false, Bool.false_eq_true, ↓reduceIte, c0, c1]
  rfl
theorem while_t {t : Env → R Env (Bool × Env)} {g : Env → R Env Out} {n : Nat} {ρ ρ1 ρ2 : Env} {r : R Env Out} (a : t ρ = .ok (true, ρ1)) (b : g ρ1 = .ok (.nx ρ2)) (c : whileN t g n ρ2 = r) : whileN t g (n + 1) ρ = r := by
  unfold whileN
  rw [a]
  simp only [R.ok_bind, if_true, b]
  exact c
theorem while_f {t : Env → R Env (Bool × Env)} {g : Env → R Env Out} {n : Nat} {ρ ρ1 : Env} (a : t ρ = .ok (false, ρ1)) : whileN t g (n + 1) ρ = .ok (.nx ρ1) := by
  unfold whileN
  rw [a]
  rfl
theorem lenF_lst (m : Bool) (ds : List D) : lenF (.nd m .lst ds) = some (.int ds.length) := by cases m <;> rfl
theorem popAt0 (x : Int) (b : List Int) : popAtM (List.map D.int (x :: b)) [.int 0] = some (.int x, List.map D.int b) := by
  show (if (-(2 ^ 63) : Int) ≤ 0 ∧ (0 : Int) < 2 ^ 63 then _ else none) = _
  rw [if_pos (by decide), ixN_ok (by decide) (by rw [List.length_map, List.length_cons]; omega)]
  rfl
theorem atI_some {α : Type} {l : List α} {i : Int} (h : 0 ≤ i) (h2 : i < l.length) : ∃ v, L2.atI l i = some v := by
  rw [atI_ok h h2, List.getElem?_eq_getElem (by omega)]
  exact ⟨_, rfl⟩
set_option maxHeartbeats 1000000 in
theorem take_b {s : List Int} {k n : Int} (hk : 0 ≤ k) (hk2 : k < 1048575) (h1 : 1 ≤ n) (h2 : n ≤ 1000000007) : ∃ r : Int, F_q_take [St [] 0 s k, .int n] = .ok (.int r, [St [] 0 s (k + 1)]) ∧ 0 ≤ r ∧ r < n := by
  obtain ⟨sd, hsd⟩ : ∃ sd : Int, ∀ y, (sIf (asB (g2 neF (gIx (gVar 0) (toG (dC (.int 2)))) (toG (dLst aNil)))) (sAsg (ofG (gIx (gIx (gVar 0) (toG (dC (.int 2)))) (toG (d2 modF (g1 intF (gIx (gVar 0) (toG (dC (.int 3))))) (g1 lenF (gIx (gVar 0) (toG (dC (.int 2))))))))) (wName 2)) sNil) [some (St [] 0 s (k + 1)), y, some (.int 17), none, none] = .ok (.nx [some (St [] 0 s (k + 1)), y, some (.int sd), none, none]) := by
    cases s with
    | nil =>
      refine ⟨17, fun y => if_f (ρ' := [some (St [] 0 [] (k + 1)), y, some (.int 17), none, none]) ?_ rfl⟩
      unfold St
      simp (config := { maxSteps := 400000 }) (disch := omega) only [sSeq_eq, dFrz_eq, sAsg_eq, g2_eq, gIx_eq, toG_eq, dC_eq, gVar_eq, R.ok_bind, oR_some, Option.bind_some, addF_int, eqF_int, sIf_eq, asB_eq, sNil_eq, tAn_eq, wSub_eq, pVar_eq, Option.map_some, Option.getD_some, gtF_int, d2_eq, g1_eq, intF_int, ofG_eq, wName_eq, sRet_eq, dVarM_eq, modF_int, divF_int, mulF_l, mulF_r, outsOf, List.getElem?_cons_zero, List.getElem?_cons_succ, getIx_lst, atI_0, atI_1, atI_2, atI_3, atI_4, atI_5, atI_6, atI_7, ixN_ok, putP, getP, setP, atP, isFrz, List.set_cons_zero, List.set_cons_succ, List.length_cons, List.length_nil, Nat.zero_add, Nat.reduceAdd, Int.reduceToNat, dLst_eq, dTup_eq, aNil_eq, aCons_eq, aRef_eq, vals, lim, Nat.reduceLeDiff, dCallV_eq, dCall_eq, callV_1, callV_2, callV_3, outV_ok, callD_tf, callD_tff, callD_t, outM_ok, ltF_int, leF_int, geF_int, subF_int, Int.zero_mul, Int.zero_add, Int.add_zero, Int.mul_zero, Int.reduceMod, Int.reduceMul, Int.reduceAdd, frz_int, frz_str, frz_bl, frz_non, d1_eq, dM1_eq, dIf_eq, dAnd_eq, dOr_eq, dNot_eq, dNeg_eq, gSl_eq, dSl_eq, oNone_eq, oSome_eq, iSeq_eq, iRange1_eq, iRange2_eq, sFor_eq, tNt_eq, tOu_eq, tYs_eq, dIx_eq, dIxV_eq, sExp_eq, sRetN_eq, mMe_eq, pIx_eq, dVarF_eq, dComp_eq, sAug_eq, sBrk_eq, sCnt_eq, Bool.and_self, Bool.and_true, Bool.true_and, and_self, true_and, and_true, Bool.false_and, Bool.and_false, Bool.not_true, Bool.not_false, Bool.false_eq_true, ↓reduceIte, neF_nil]
      rfl
    | cons x s =>
      obtain ⟨v, hv⟩ := atI_some (l := List.map D.int (x :: s)) (i := (k + 1) % ((s.length + 1 : Nat) : Int)) (Int.emod_nonneg _ (by omega)) (by rw [List.length_map]; exact Int.emod_lt_of_pos _ (by omega))
      have hm := List.mem_iff_getElem?.mpr ⟨_, (atI_ok (Int.emod_nonneg _ (by omega)) (by rw [List.length_map]; exact Int.emod_lt_of_pos _ (by omega))).symm.trans hv⟩
      obtain ⟨sd, _, rfl⟩ := List.mem_map.mp hm
      refine ⟨sd, fun y => if_t (ρ' := [some (St [] 0 (x :: s) (k + 1)), y, some (.int 17), none, none]) ?_ ?_⟩
      · unfold St
        simp (config := { maxSteps := 400000 }) (disch := omega) only [sSeq_eq, dFrz_eq, sAsg_eq, g2_eq, gIx_eq, toG_eq, dC_eq, gVar_eq, R.ok_bind, oR_some, Option.bind_some, addF_int, eqF_int, sIf_eq, asB_eq, sNil_eq, tAn_eq, wSub_eq, pVar_eq, Option.map_some, Option.getD_some, gtF_int, d2_eq, g1_eq, intF_int, ofG_eq, wName_eq, sRet_eq, dVarM_eq, modF_int, divF_int, mulF_l, mulF_r, outsOf, List.getElem?_cons_zero, List.getElem?_cons_succ, getIx_lst, atI_0, atI_1, atI_2, atI_3, atI_4, atI_5, atI_6, atI_7, ixN_ok, putP, getP, setP, atP, isFrz, List.set_cons_zero, List.set_cons_succ, List.length_cons, List.length_nil, Nat.zero_add, Nat.reduceAdd, Int.reduceToNat, dLst_eq, dTup_eq, aNil_eq, aCons_eq, aRef_eq, vals, lim, Nat.reduceLeDiff, dCallV_eq, dCall_eq, callV_1, callV_2, callV_3, outV_ok, callD_tf, callD_tff, callD_t, outM_ok, ltF_int, leF_int, geF_int, subF_int, Int.zero_mul, Int.zero_add, Int.add_zero, Int.mul_zero, Int.reduceMod, Int.reduceMul, Int.reduceAdd, frz_int, frz_str, frz_bl, frz_non, d1_eq, dM1_eq, dIf_eq, dAnd_eq, dOr_eq, dNot_eq, dNeg_eq, gSl_eq, dSl_eq, oNone_eq, oSome_eq, iSeq_eq, iRange1_eq, iRange2_eq, sFor_eq, tNt_eq, tOu_eq, tYs_eq, dIx_eq, dIxV_eq, sExp_eq, sRetN_eq, mMe_eq, pIx_eq, dVarF_eq, dComp_eq, sAug_eq, sBrk_eq, sCnt_eq, Bool.and_self, Bool.and_true, Bool.true_and, and_self, true_and, and_true, Bool.false_and, Bool.and_false, Bool.not_true, Bool.not_false, Bool.false_eq_true, ↓reduceIte, neF_nil]
        rfl
      · unfold St
        simp (config := { maxSteps := 400000 }) (disch := omega) only [sSeq_eq, dFrz_eq, sAsg_eq, g2_eq, gIx_eq, toG_eq, dC_eq, gVar_eq, R.ok_bind, oR_some, Option.bind_some, addF_int, eqF_int, sIf_eq, asB_eq, sNil_eq, tAn_eq, wSub_eq, pVar_eq, Option.map_some, Option.getD_some, gtF_int, d2_eq, g1_eq, intF_int, ofG_eq, wName_eq, sRet_eq, dVarM_eq, modF_int, divF_int, mulF_l, mulF_r, outsOf, List.getElem?_cons_zero, List.getElem?_cons_succ, getIx_lst, atI_0, atI_1, atI_2, atI_3, atI_4, atI_5, atI_6, atI_7, ixN_ok, putP, getP, setP, atP, isFrz, List.set_cons_zero, List.set_cons_succ, List.length_cons, List.length_nil, Nat.zero_add, Nat.reduceAdd, Int.reduceToNat, dLst_eq, dTup_eq, aNil_eq, aCons_eq, aRef_eq, vals, lim, Nat.reduceLeDiff, dCallV_eq, dCall_eq, callV_1, callV_2, callV_3, outV_ok, callD_tf, callD_tff, callD_t, outM_ok, ltF_int, leF_int, geF_int, subF_int, Int.zero_mul, Int.zero_add, Int.add_zero, Int.mul_zero, Int.reduceMod, Int.reduceMul, Int.reduceAdd, frz_int, frz_str, frz_bl, frz_non, d1_eq, dM1_eq, dIf_eq, dAnd_eq, dOr_eq, dNot_eq, dNeg_eq, gSl_eq, dSl_eq, oNone_eq, oSome_eq, iSeq_eq, iRange1_eq, iRange2_eq, sFor_eq, tNt_eq, tOu_eq, tYs_eq, dIx_eq, dIxV_eq, sExp_eq, sRetN_eq, mMe_eq, pIx_eq, dVarF_eq, dComp_eq, sAug_eq, sBrk_eq, sCnt_eq, Bool.and_self, Bool.and_true, Bool.true_and, and_self, true_and, and_true, Bool.false_and, Bool.and_false, Bool.not_true, Bool.not_false, Bool.false_eq_true, ↓reduceIte, neF_nil, lenF_lst, List.length_map, hv]
  refine ⟨if n = 1 then 0 else mix sd (k + 1) % n, ?_, ?_⟩
  · unfold F_q_take
    refine defD_of (ρ := [some (St [] 0 s (k + 1)), some (.int n), some (.int sd), some (.int (if n = 1 then 0 else mix sd (k + 1))), some (.int (if n = 1 then 1 else 1000000007))]) (?_ : e_q_take _ = _) rfl
    unfold e_q_take
    rw [ini5]
    refine seq_nx (ρ' := [some (St [] 0 s (k + 1)), some (.int n), none, none, none]) (by unfold St; simp (config := { maxSteps := 400000 }) (disch := omega) only [sSeq_eq, dFrz_eq, sAsg_eq, g2_eq, gIx_eq, toG_eq, dC_eq, gVar_eq, R.ok_bind, oR_some, Option.bind_some, addF_int, eqF_int, sIf_eq, asB_eq, sNil_eq, tAn_eq, wSub_eq, pVar_eq, Option.map_some, Option.getD_some, gtF_int, d2_eq, g1_eq, intF_int, ofG_eq, wName_eq, sRet_eq, dVarM_eq, modF_int, divF_int, mulF_l, mulF_r, outsOf, List.getElem?_cons_zero, List.getElem?_cons_succ, getIx_lst, atI_0, atI_1, atI_2, atI_3, atI_4, atI_5, atI_6, atI_7, ixN_ok, putP, getP, setP, atP, isFrz, List.set_cons_zero, List.set_cons_succ, List.length_cons, List.length_nil, Nat.zero_add, Nat.reduceAdd, Int.reduceToNat, dLst_eq, dTup_eq, aNil_eq, aCons_eq, aRef_eq, vals, lim, Nat.reduceLeDiff, dCallV_eq, dCall_eq, callV_1, callV_2, callV_3, outV_ok, callD_tf, callD_tff, callD_t, outM_ok, ltF_int, leF_int, geF_int, subF_int, Int.zero_mul, Int.zero_add, Int.add_zero, Int.mul_zero, Int.reduceMod, Int.reduceMul, Int.reduceAdd, frz_int, frz_str, frz_bl, frz_non, d1_eq, dM1_eq, dIf_eq, dAnd_eq, dOr_eq, dNot_eq, dNeg_eq, gSl_eq, dSl_eq, oNone_eq, oSome_eq, iSeq_eq, iRange1_eq, iRange2_eq, sFor_eq, tNt_eq, tOu_eq, tYs_eq, dIx_eq, dIxV_eq, sExp_eq, sRetN_eq, mMe_eq, pIx_eq, dVarF_eq, dComp_eq, sAug_eq, sBrk_eq, sCnt_eq, Bool.and_self, Bool.and_true, Bool.true_and, and_self, true_and, and_true, Bool.false_and, Bool.and_false, Bool.not_true, Bool.not_false, Bool.false_eq_true, ↓reduceIte, R.ok_bind] ) ?_
    refine seq_nx (ρ' := [some (St [] 0 s (k + 1)), some (.int n), none, none, none]) rfl ?_
    refine seq_nx (ρ' := [some (St [] 0 s (k + 1)), some (.int n), none, none, none]) rfl ?_
    refine seq_nx (ρ' := [some (St [] 0 s (k + 1)), some (.int n), some (.int 17), none, none]) rfl ?_
    refine seq_nx (hsd _) ?_
    refine seq_nx (ρ' := [some (St [] 0 s (k + 1)), some (.int n), some (.int sd), some (.int 0), none]) rfl ?_
    refine seq_nx (ρ' := [some (St [] 0 s (k + 1)), some (.int n), some (.int sd), some (.int 0), some (.int 1)]) rfl ?_
    by_cases hn : n = 1
    · subst hn
      rfl
    · have e1 : decide (1 < n) = true := by simp; omega
      have e2 : decide (1000000007 < n) = false := by simp; omega
      refine seq_nx (while_t (ρ1 := [some (St [] 0 s (k + 1)), some (.int n), some (.int sd), some (.int 0), some (.int 1)]) (ρ2 := [some (St [] 0 s (k + 1)), some (.int n), some (.int sd), some (.int (mix sd (k + 1))), some (.int 1000000007)]) ?_ ?_ (while_f (ρ1 := [some (St [] 0 s (k + 1)), some (.int n), some (.int sd), some (.int (mix sd (k + 1))), some (.int 1000000007)]) ?_)) ?_
      · simp (config := { maxSteps := 400000 }) (disch := omega) only [sSeq_eq, dFrz_eq, sAsg_eq, g2_eq, gIx_eq, toG_eq, dC_eq, gVar_eq, R.ok_bind, oR_some, Option.bind_some, addF_int, eqF_int, sIf_eq, asB_eq, sNil_eq, tAn_eq, wSub_eq, pVar_eq, Option.map_some, Option.getD_some, gtF_int, d2_eq, g1_eq, intF_int, ofG_eq, wName_eq, sRet_eq, dVarM_eq, modF_int, divF_int, mulF_l, mulF_r, outsOf, List.getElem?_cons_zero, List.getElem?_cons_succ, getIx_lst, atI_0, atI_1, atI_2, atI_3, atI_4, atI_5, atI_6, atI_7, ixN_ok, putP, getP, setP, atP, isFrz, List.set_cons_zero, List.set_cons_succ, List.length_cons, List.length_nil, Nat.zero_add, Nat.reduceAdd, Int.reduceToNat, dLst_eq, dTup_eq, aNil_eq, aCons_eq, aRef_eq, vals, lim, Nat.reduceLeDiff, dCallV_eq, dCall_eq, callV_1, callV_2, callV_3, outV_ok, callD_tf, callD_tff, callD_t, outM_ok, ltF_int, leF_int, geF_int, subF_int, Int.zero_mul, Int.zero_add, Int.add_zero, Int.mul_zero, Int.reduceMod, Int.reduceMul, Int.reduceAdd, frz_int, frz_str, frz_bl, frz_non, d1_eq, dM1_eq, dIf_eq, dAnd_eq, dOr_eq, dNot_eq, dNeg_eq, gSl_eq, dSl_eq, oNone_eq, oSome_eq, iSeq_eq, iRange1_eq, iRange2_eq, sFor_eq, tNt_eq, tOu_eq, tYs_eq, dIx_eq, dIxV_eq, sExp_eq, sRetN_eq, mMe_eq, pIx_eq, dVarF_eq, dComp_eq, sAug_eq, sBrk_eq, sCnt_eq, Bool.and_self, Bool.and_true, Bool.true_and, and_self, true_and, and_true, Bool.false_and, Bool.and_false, Bool.not_true, Bool.not_false, Bool.false_eq_true, ↓reduceIte, e1]
      · refine seq_nx (ρ' := [some (St [] 0 s (k + 1)), some (.int n), some (.int sd), some (.int (mix sd (k + 1))), some (.int 1)]) ?_ ?_
        · unfold St
          simp (config := { maxSteps := 400000 }) (disch := omega) only [sSeq_eq, dFrz_eq, sAsg_eq, g2_eq, gIx_eq, toG_eq, dC_eq, gVar_eq, R.ok_bind, oR_some, Option.bind_some, addF_int, eqF_int, sIf_eq, asB_eq, sNil_eq, tAn_eq, wSub_eq, pVar_eq, Option.map_some, Option.getD_some, gtF_int, d2_eq, g1_eq, intF_int, ofG_eq, wName_eq, sRet_eq, dVarM_eq, modF_int, divF_int, mulF_l, mulF_r, outsOf, List.getElem?_cons_zero, List.getElem?_cons_succ, getIx_lst, atI_0, atI_1, atI_2, atI_3, atI_4, atI_5, atI_6, atI_7, ixN_ok, putP, getP, setP, atP, isFrz, List.set_cons_zero, List.set_cons_succ, List.length_cons, List.length_nil, Nat.zero_add, Nat.reduceAdd, Int.reduceToNat, dLst_eq, dTup_eq, aNil_eq, aCons_eq, aRef_eq, vals, lim, Nat.reduceLeDiff, dCallV_eq, dCall_eq, callV_1, callV_2, callV_3, outV_ok, callD_tf, callD_tff, callD_t, outM_ok, ltF_int, leF_int, geF_int, subF_int, Int.zero_mul, Int.zero_add, Int.add_zero, Int.mul_zero, Int.reduceMod, Int.reduceMul, Int.reduceAdd, frz_int, frz_str, frz_bl, frz_non, d1_eq, dM1_eq, dIf_eq, dAnd_eq, dOr_eq, dNot_eq, dNeg_eq, gSl_eq, dSl_eq, oNone_eq, oSome_eq, iSeq_eq, iRange1_eq, iRange2_eq, sFor_eq, tNt_eq, tOu_eq, tYs_eq, dIx_eq, dIxV_eq, sExp_eq, sRetN_eq, mMe_eq, pIx_eq, dVarF_eq, dComp_eq, sAug_eq, sBrk_eq, sCnt_eq, Bool.and_self, Bool.and_true, Bool.true_and, and_self, true_and, and_true, Bool.false_and, Bool.and_false, Bool.not_true, Bool.not_false, Bool.false_eq_true, ↓reduceIte, mixed_ok]
        · simp (config := { maxSteps := 400000 }) (disch := omega) only [sSeq_eq, dFrz_eq, sAsg_eq, g2_eq, gIx_eq, toG_eq, dC_eq, gVar_eq, R.ok_bind, oR_some, Option.bind_some, addF_int, eqF_int, sIf_eq, asB_eq, sNil_eq, tAn_eq, wSub_eq, pVar_eq, Option.map_some, Option.getD_some, gtF_int, d2_eq, g1_eq, intF_int, ofG_eq, wName_eq, sRet_eq, dVarM_eq, modF_int, divF_int, mulF_l, mulF_r, outsOf, List.getElem?_cons_zero, List.getElem?_cons_succ, getIx_lst, atI_0, atI_1, atI_2, atI_3, atI_4, atI_5, atI_6, atI_7, ixN_ok, putP, getP, setP, atP, isFrz, List.set_cons_zero, List.set_cons_succ, List.length_cons, List.length_nil, Nat.zero_add, Nat.reduceAdd, Int.reduceToNat, dLst_eq, dTup_eq, aNil_eq, aCons_eq, aRef_eq, vals, lim, Nat.reduceLeDiff, dCallV_eq, dCall_eq, callV_1, callV_2, callV_3, outV_ok, callD_tf, callD_tff, callD_t, outM_ok, ltF_int, leF_int, geF_int, subF_int, Int.zero_mul, Int.zero_add, Int.add_zero, Int.mul_zero, Int.reduceMod, Int.reduceMul, Int.reduceAdd, frz_int, frz_str, frz_bl, frz_non, d1_eq, dM1_eq, dIf_eq, dAnd_eq, dOr_eq, dNot_eq, dNeg_eq, gSl_eq, dSl_eq, oNone_eq, oSome_eq, iSeq_eq, iRange1_eq, iRange2_eq, sFor_eq, tNt_eq, tOu_eq, tYs_eq, dIx_eq, dIxV_eq, sExp_eq, sRetN_eq, mMe_eq, pIx_eq, dVarF_eq, dComp_eq, sAug_eq, sBrk_eq, sCnt_eq, Bool.and_self, Bool.and_true, Bool.true_and, and_self, true_and, and_true, Bool.false_and, Bool.and_false, Bool.not_true, Bool.not_false, Bool.false_eq_true, ↓reduceIte, R.ok_bind]
      · simp (config := { maxSteps := 400000 }) (disch := omega) only [sSeq_eq, dFrz_eq, sAsg_eq, g2_eq, gIx_eq, toG_eq, dC_eq, gVar_eq, R.ok_bind, oR_some, Option.bind_some, addF_int, eqF_int, sIf_eq, asB_eq, sNil_eq, tAn_eq, wSub_eq, pVar_eq, Option.map_some, Option.getD_some, gtF_int, d2_eq, g1_eq, intF_int, ofG_eq, wName_eq, sRet_eq, dVarM_eq, modF_int, divF_int, mulF_l, mulF_r, outsOf, List.getElem?_cons_zero, List.getElem?_cons_succ, getIx_lst, atI_0, atI_1, atI_2, atI_3, atI_4, atI_5, atI_6, atI_7, ixN_ok, putP, getP, setP, atP, isFrz, List.set_cons_zero, List.set_cons_succ, List.length_cons, List.length_nil, Nat.zero_add, Nat.reduceAdd, Int.reduceToNat, dLst_eq, dTup_eq, aNil_eq, aCons_eq, aRef_eq, vals, lim, Nat.reduceLeDiff, dCallV_eq, dCall_eq, callV_1, callV_2, callV_3, outV_ok, callD_tf, callD_tff, callD_t, outM_ok, ltF_int, leF_int, geF_int, subF_int, Int.zero_mul, Int.zero_add, Int.add_zero, Int.mul_zero, Int.reduceMod, Int.reduceMul, Int.reduceAdd, frz_int, frz_str, frz_bl, frz_non, d1_eq, dM1_eq, dIf_eq, dAnd_eq, dOr_eq, dNot_eq, dNeg_eq, gSl_eq, dSl_eq, oNone_eq, oSome_eq, iSeq_eq, iRange1_eq, iRange2_eq, sFor_eq, tNt_eq, tOu_eq, tYs_eq, dIx_eq, dIxV_eq, sExp_eq, sRetN_eq, mMe_eq, pIx_eq, dVarF_eq, dComp_eq, sAug_eq, sBrk_eq, sCnt_eq, Bool.and_self, Bool.and_true, Bool.true_and, and_self, true_and, and_true, Bool.false_and, Bool.and_false, Bool.not_true, Bool.not_false, Bool.false_eq_true, ↓reduceIte, e2]
      · simp (config := { maxSteps := 400000 }) (disch := omega) only [sSeq_eq, dFrz_eq, sAsg_eq, g2_eq, gIx_eq, toG_eq, dC_eq, gVar_eq, R.ok_bind, oR_some, Option.bind_some, addF_int, eqF_int, sIf_eq, asB_eq, sNil_eq, tAn_eq, wSub_eq, pVar_eq, Option.map_some, Option.getD_some, gtF_int, d2_eq, g1_eq, intF_int, ofG_eq, wName_eq, sRet_eq, dVarM_eq, modF_int, divF_int, mulF_l, mulF_r, outsOf, List.getElem?_cons_zero, List.getElem?_cons_succ, getIx_lst, atI_0, atI_1, atI_2, atI_3, atI_4, atI_5, atI_6, atI_7, ixN_ok, putP, getP, setP, atP, isFrz, List.set_cons_zero, List.set_cons_succ, List.length_cons, List.length_nil, Nat.zero_add, Nat.reduceAdd, Int.reduceToNat, dLst_eq, dTup_eq, aNil_eq, aCons_eq, aRef_eq, vals, lim, Nat.reduceLeDiff, dCallV_eq, dCall_eq, callV_1, callV_2, callV_3, outV_ok, callD_tf, callD_tff, callD_t, outM_ok, ltF_int, leF_int, geF_int, subF_int, Int.zero_mul, Int.zero_add, Int.add_zero, Int.mul_zero, Int.reduceMod, Int.reduceMul, Int.reduceAdd, frz_int, frz_str, frz_bl, frz_non, d1_eq, dM1_eq, dIf_eq, dAnd_eq, dOr_eq, dNot_eq, dNeg_eq, gSl_eq, dSl_eq, oNone_eq, oSome_eq, iSeq_eq, iRange1_eq, iRange2_eq, sFor_eq, tNt_eq, tOu_eq, tYs_eq, dIx_eq, dIxV_eq, sExp_eq, sRetN_eq, mMe_eq, pIx_eq, dVarF_eq, dComp_eq, sAug_eq, sBrk_eq, sCnt_eq, Bool.and_self, Bool.and_true, Bool.true_and, and_self, true_and, and_true, Bool.false_and, Bool.and_false, Bool.not_true, Bool.not_false, Bool.false_eq_true, ↓reduceIte, if_neg hn]
  · split
    · omega
    · exact ⟨Int.emod_nonneg _ (by omega), Int.emod_lt_of_pos _ (by omega)⟩
theorem take_c {b s : List Int} {x k n : Int} (hc : 0 < x) (h1 : 1 ≤ n) (h2 : n ≤ 1000000007) : F_q_take [St (x :: b) 0 s k, .int n] = .ok (.int (x % n), [St b (x / n) s (k + 1)]) := by
  unfold F_q_take
  have c1 : decide (x > 0) = true := by simp; omega
  refine defD_of (ρ := [some (St b (x / n) s (k + 1)), some (.int n), none, none, none]) (?_ : e_q_take _ = _) rfl
  unfold e_q_take
  rw [ini5]
  refine seq_nx (ρ' := [some (St (x :: b) 0 s (k + 1)), some (.int n), none, none, none]) (by unfold St; simp (config := { maxSteps := 400000 }) (disch := omega) only [sSeq_eq, dFrz_eq, sAsg_eq, g2_eq, gIx_eq, toG_eq, dC_eq, gVar_eq, R.ok_bind, oR_some, Option.bind_some, addF_int, eqF_int, sIf_eq, asB_eq, sNil_eq, tAn_eq, wSub_eq, pVar_eq, Option.map_some, Option.getD_some, gtF_int, d2_eq, g1_eq, intF_int, ofG_eq, wName_eq, sRet_eq, dVarM_eq, modF_int, divF_int, mulF_l, mulF_r, outsOf, List.getElem?_cons_zero, List.getElem?_cons_succ, getIx_lst, atI_0, atI_1, atI_2, atI_3, atI_4, atI_5, atI_6, atI_7, ixN_ok, putP, getP, setP, atP, isFrz, List.set_cons_zero, List.set_cons_succ, List.length_cons, List.length_nil, Nat.zero_add, Nat.reduceAdd, Int.reduceToNat, dLst_eq, dTup_eq, aNil_eq, aCons_eq, aRef_eq, vals, lim, Nat.reduceLeDiff, dCallV_eq, dCall_eq, callV_1, callV_2, callV_3, outV_ok, callD_tf, callD_tff, callD_t, outM_ok, ltF_int, leF_int, geF_int, subF_int, Int.zero_mul, Int.zero_add, Int.add_zero, Int.mul_zero, Int.reduceMod, Int.reduceMul, Int.reduceAdd, frz_int, frz_str, frz_bl, frz_non, d1_eq, dM1_eq, dIf_eq, dAnd_eq, dOr_eq, dNot_eq, dNeg_eq, gSl_eq, dSl_eq, oNone_eq, oSome_eq, iSeq_eq, iRange1_eq, iRange2_eq, sFor_eq, tNt_eq, tOu_eq, tYs_eq, dIx_eq, dIxV_eq, sExp_eq, sRetN_eq, mMe_eq, pIx_eq, dVarF_eq, dComp_eq, sAug_eq, sBrk_eq, sCnt_eq, Bool.and_self, Bool.and_true, Bool.true_and, and_self, true_and, and_true, Bool.false_and, Bool.and_false, Bool.not_true, Bool.not_false, Bool.false_eq_true, ↓reduceIte, R.ok_bind]) ?_
  refine seq_nx (ρ' := [some (St b x s (k + 1)), some (.int n), none, none, none]) (if_t (ρ' := [some (St (x :: b) 0 s (k + 1)), some (.int n), none, none, none]) ?_ ?_) ?_
  · unfold St
    simp (config := { maxSteps := 400000 }) (disch := omega) only [sSeq_eq, dFrz_eq, sAsg_eq, g2_eq, gIx_eq, toG_eq, dC_eq, gVar_eq, R.ok_bind, oR_some, Option.bind_some, addF_int, eqF_int, sIf_eq, asB_eq, sNil_eq, tAn_eq, wSub_eq, pVar_eq, Option.map_some, Option.getD_some, gtF_int, d2_eq, g1_eq, intF_int, ofG_eq, wName_eq, sRet_eq, dVarM_eq, modF_int, divF_int, mulF_l, mulF_r, outsOf, List.getElem?_cons_zero, List.getElem?_cons_succ, getIx_lst, atI_0, atI_1, atI_2, atI_3, atI_4, atI_5, atI_6, atI_7, ixN_ok, putP, getP, setP, atP, isFrz, List.set_cons_zero, List.set_cons_succ, List.length_cons, List.length_nil, Nat.zero_add, Nat.reduceAdd, Int.reduceToNat, dLst_eq, dTup_eq, aNil_eq, aCons_eq, aRef_eq, vals, lim, Nat.reduceLeDiff, dCallV_eq, dCall_eq, callV_1, callV_2, callV_3, outV_ok, callD_tf, callD_tff, callD_t, outM_ok, ltF_int, leF_int, geF_int, subF_int, Int.zero_mul, Int.zero_add, Int.add_zero, Int.mul_zero, Int.reduceMod, Int.reduceMul, Int.reduceAdd, frz_int, frz_str, frz_bl, frz_non, d1_eq, dM1_eq, dIf_eq, dAnd_eq, dOr_eq, dNot_eq, dNeg_eq, gSl_eq, dSl_eq, oNone_eq, oSome_eq, iSeq_eq, iRange1_eq, iRange2_eq, sFor_eq, tNt_eq, tOu_eq, tYs_eq, dIx_eq, dIxV_eq, sExp_eq, sRetN_eq, mMe_eq, pIx_eq, dVarF_eq, dComp_eq, sAug_eq, sBrk_eq, sCnt_eq, Bool.and_self, Bool.and_true, Bool.true_and, and_self, true_and, and_true, Bool.false_and, Bool.and_false, Bool.not_true, Bool.not_false, Bool.false_eq_true, ↓reduceIte, neF_nil, beq_self_eq_true, List.isEmpty_cons]
  · unfold St
    simp (config := { maxSteps := 400000 }) (disch := omega) only [sSeq_eq, dFrz_eq, sAsg_eq, g2_eq, gIx_eq, toG_eq, dC_eq, gVar_eq, R.ok_bind, oR_some, Option.bind_some, addF_int, eqF_int, sIf_eq, asB_eq, sNil_eq, tAn_eq, wSub_eq, pVar_eq, Option.map_some, Option.getD_some, gtF_int, d2_eq, g1_eq, intF_int, ofG_eq, wName_eq, sRet_eq, dVarM_eq, modF_int, divF_int, mulF_l, mulF_r, outsOf, List.getElem?_cons_zero, List.getElem?_cons_succ, getIx_lst, atI_0, atI_1, atI_2, atI_3, atI_4, atI_5, atI_6, atI_7, ixN_ok, putP, getP, setP, atP, isFrz, List.set_cons_zero, List.set_cons_succ, List.length_cons, List.length_nil, Nat.zero_add, Nat.reduceAdd, Int.reduceToNat, dLst_eq, dTup_eq, aNil_eq, aCons_eq, aRef_eq, vals, lim, Nat.reduceLeDiff, dCallV_eq, dCall_eq, callV_1, callV_2, callV_3, outV_ok, callD_tf, callD_tff, callD_t, outM_ok, ltF_int, leF_int, geF_int, subF_int, Int.zero_mul, Int.zero_add, Int.add_zero, Int.mul_zero, Int.reduceMod, Int.reduceMul, Int.reduceAdd, frz_int, frz_str, frz_bl, frz_non, d1_eq, dM1_eq, dIf_eq, dAnd_eq, dOr_eq, dNot_eq, dNeg_eq, gSl_eq, dSl_eq, oNone_eq, oSome_eq, iSeq_eq, iRange1_eq, iRange2_eq, sFor_eq, tNt_eq, tOu_eq, tYs_eq, dIx_eq, dIxV_eq, sExp_eq, sRetN_eq, mMe_eq, pIx_eq, dVarF_eq, dComp_eq, sAug_eq, sBrk_eq, sCnt_eq, Bool.and_self, Bool.and_true, Bool.true_and, and_self, true_and, and_true, Bool.false_and, Bool.and_false, Bool.not_true, Bool.not_false, Bool.false_eq_true, ↓reduceIte, popAt0, List.nil_append, List.getElem?_map]
  refine seq_rt (if_t (ρ' := [some (St b x s (k + 1)), some (.int n), none, none, none]) ?_ ?_)
  · unfold St
    simp (config := { maxSteps := 400000 }) (disch := omega) only [sSeq_eq, dFrz_eq, sAsg_eq, g2_eq, gIx_eq, toG_eq, dC_eq, gVar_eq, R.ok_bind, oR_some, Option.bind_some, addF_int, eqF_int, sIf_eq, asB_eq, sNil_eq, tAn_eq, wSub_eq, pVar_eq, Option.map_some, Option.getD_some, gtF_int, d2_eq, g1_eq, intF_int, ofG_eq, wName_eq, sRet_eq, dVarM_eq, modF_int, divF_int, mulF_l, mulF_r, outsOf, List.getElem?_cons_zero, List.getElem?_cons_succ, getIx_lst, atI_0, atI_1, atI_2, atI_3, atI_4, atI_5, atI_6, atI_7, ixN_ok, putP, getP, setP, atP, isFrz, List.set_cons_zero, List.set_cons_succ, List.length_cons, List.length_nil, Nat.zero_add, Nat.reduceAdd, Int.reduceToNat, dLst_eq, dTup_eq, aNil_eq, aCons_eq, aRef_eq, vals, lim, Nat.reduceLeDiff, dCallV_eq, dCall_eq, callV_1, callV_2, callV_3, outV_ok, callD_tf, callD_tff, callD_t, outM_ok, ltF_int, leF_int, geF_int, subF_int, Int.zero_mul, Int.zero_add, Int.add_zero, Int.mul_zero, Int.reduceMod, Int.reduceMul, Int.reduceAdd, frz_int, frz_str, frz_bl, frz_non, d1_eq, dM1_eq, dIf_eq, dAnd_eq, dOr_eq, dNot_eq, dNeg_eq, gSl_eq, dSl_eq, oNone_eq, oSome_eq, iSeq_eq, iRange1_eq, iRange2_eq, sFor_eq, tNt_eq, tOu_eq, tYs_eq, dIx_eq, dIxV_eq, sExp_eq, sRetN_eq, mMe_eq, pIx_eq, dVarF_eq, dComp_eq, sAug_eq, sBrk_eq, sCnt_eq, Bool.and_self, Bool.and_true, Bool.true_and, and_self, true_and, and_true, Bool.false_and, Bool.and_false, Bool.not_true, Bool.not_false, Bool.false_eq_true, ↓reduceIte, c1]
  · refine seq_nx (ρ' := [some (St b x s (k + 1)), some (.int n), none, some (.int (x % n)), none]) (by unfold St; simp (config := { maxSteps := 400000 }) (disch := omega) only [sSeq_eq, dFrz_eq, sAsg_eq, g2_eq, gIx_eq, toG_eq, dC_eq, gVar_eq, R.ok_bind, oR_some, Option.bind_some, addF_int, eqF_int, sIf_eq, asB_eq, sNil_eq, tAn_eq, wSub_eq, pVar_eq, Option.map_some, Option.getD_some, gtF_int, d2_eq, g1_eq, intF_int, ofG_eq, wName_eq, sRet_eq, dVarM_eq, modF_int, divF_int, mulF_l, mulF_r, outsOf, List.getElem?_cons_zero, List.getElem?_cons_succ, getIx_lst, atI_0, atI_1, atI_2, atI_3, atI_4, atI_5, atI_6, atI_7, ixN_ok, putP, getP, setP, atP, isFrz, List.set_cons_zero, List.set_cons_succ, List.length_cons, List.length_nil, Nat.zero_add, Nat.reduceAdd, Int.reduceToNat, dLst_eq, dTup_eq, aNil_eq, aCons_eq, aRef_eq, vals, lim, Nat.reduceLeDiff, dCallV_eq, dCall_eq, callV_1, callV_2, callV_3, outV_ok, callD_tf, callD_tff, callD_t, outM_ok, ltF_int, leF_int, geF_int, subF_int, Int.zero_mul, Int.zero_add, Int.add_zero, Int.mul_zero, Int.reduceMod, Int.reduceMul, Int.reduceAdd, frz_int, frz_str, frz_bl, frz_non, d1_eq, dM1_eq, dIf_eq, dAnd_eq, dOr_eq, dNot_eq, dNeg_eq, gSl_eq, dSl_eq, oNone_eq, oSome_eq, iSeq_eq, iRange1_eq, iRange2_eq, sFor_eq, tNt_eq, tOu_eq, tYs_eq, dIx_eq, dIxV_eq, sExp_eq, sRetN_eq, mMe_eq, pIx_eq, dVarF_eq, dComp_eq, sAug_eq, sBrk_eq, sCnt_eq, Bool.and_self, Bool.and_true, Bool.true_and, and_self, true_and, and_true, Bool.false_and, Bool.and_false, Bool.not_true, Bool.not_false, Bool.false_eq_true, ↓reduceIte, R.ok_bind]) ?_
    refine seq_nx (ρ' := [some (St b (x / n) s (k + 1)), some (.int n), none, some (.int (x % n)), none]) (by unfold St; simp (config := { maxSteps := 400000 }) (disch := omega) only [sSeq_eq, dFrz_eq, sAsg_eq, g2_eq, gIx_eq, toG_eq, dC_eq, gVar_eq, R.ok_bind, oR_some, Option.bind_some, addF_int, eqF_int, sIf_eq, asB_eq, sNil_eq, tAn_eq, wSub_eq, pVar_eq, Option.map_some, Option.getD_some, gtF_int, d2_eq, g1_eq, intF_int, ofG_eq, wName_eq, sRet_eq, dVarM_eq, modF_int, divF_int, mulF_l, mulF_r, outsOf, List.getElem?_cons_zero, List.getElem?_cons_succ, getIx_lst, atI_0, atI_1, atI_2, atI_3, atI_4, atI_5, atI_6, atI_7, ixN_ok, putP, getP, setP, atP, isFrz, List.set_cons_zero, List.set_cons_succ, List.length_cons, List.length_nil, Nat.zero_add, Nat.reduceAdd, Int.reduceToNat, dLst_eq, dTup_eq, aNil_eq, aCons_eq, aRef_eq, vals, lim, Nat.reduceLeDiff, dCallV_eq, dCall_eq, callV_1, callV_2, callV_3, outV_ok, callD_tf, callD_tff, callD_t, outM_ok, ltF_int, leF_int, geF_int, subF_int, Int.zero_mul, Int.zero_add, Int.add_zero, Int.mul_zero, Int.reduceMod, Int.reduceMul, Int.reduceAdd, frz_int, frz_str, frz_bl, frz_non, d1_eq, dM1_eq, dIf_eq, dAnd_eq, dOr_eq, dNot_eq, dNeg_eq, gSl_eq, dSl_eq, oNone_eq, oSome_eq, iSeq_eq, iRange1_eq, iRange2_eq, sFor_eq, tNt_eq, tOu_eq, tYs_eq, dIx_eq, dIxV_eq, sExp_eq, sRetN_eq, mMe_eq, pIx_eq, dVarF_eq, dComp_eq, sAug_eq, sBrk_eq, sCnt_eq, Bool.and_self, Bool.and_true, Bool.true_and, and_self, true_and, and_true, Bool.false_and, Bool.and_false, Bool.not_true, Bool.not_false, Bool.false_eq_true, ↓reduceIte, R.ok_bind]) ?_
    simp (config := { maxSteps := 400000 }) (disch := omega) only [sSeq_eq, dFrz_eq, sAsg_eq, g2_eq, gIx_eq, toG_eq, dC_eq, gVar_eq, R.ok_bind, oR_some, Option.bind_some, addF_int, eqF_int, sIf_eq, asB_eq, sNil_eq, tAn_eq, wSub_eq, pVar_eq, Option.map_some, Option.getD_some, gtF_int, d2_eq, g1_eq, intF_int, ofG_eq, wName_eq, sRet_eq, dVarM_eq, modF_int, divF_int, mulF_l, mulF_r, outsOf, List.getElem?_cons_zero, List.getElem?_cons_succ, getIx_lst, atI_0, atI_1, atI_2, atI_3, atI_4, atI_5, atI_6, atI_7, ixN_ok, putP, getP, setP, atP, isFrz, List.set_cons_zero, List.set_cons_succ, List.length_cons, List.length_nil, Nat.zero_add, Nat.reduceAdd, Int.reduceToNat, dLst_eq, dTup_eq, aNil_eq, aCons_eq, aRef_eq, vals, lim, Nat.reduceLeDiff, dCallV_eq, dCall_eq, callV_1, callV_2, callV_3, outV_ok, callD_tf, callD_tff, callD_t, outM_ok, ltF_int, leF_int, geF_int, subF_int, Int.zero_mul, Int.zero_add, Int.add_zero, Int.mul_zero, Int.reduceMod, Int.reduceMul, Int.reduceAdd, frz_int, frz_str, frz_bl, frz_non, d1_eq, dM1_eq, dIf_eq, dAnd_eq, dOr_eq, dNot_eq, dNeg_eq, gSl_eq, dSl_eq, oNone_eq, oSome_eq, iSeq_eq, iRange1_eq, iRange2_eq, sFor_eq, tNt_eq, tOu_eq, tYs_eq, dIx_eq, dIxV_eq, sExp_eq, sRetN_eq, mMe_eq, pIx_eq, dVarF_eq, dComp_eq, sAug_eq, sBrk_eq, sCnt_eq, Bool.and_self, Bool.and_true, Bool.true_and, and_self, true_and, and_true, Bool.false_and, Bool.and_false, Bool.not_true, Bool.not_false, Bool.false_eq_true, ↓reduceIte, R.ok_bind]
/-- draws at most m times drawn from -/
def DrOk (m : Nat) (d : D) : Prop := ∃ b c s k, d = St b c s k ∧ (∀ x ∈ b, 0 < x) ∧ 0 ≤ c ∧ 0 ≤ k ∧ k ≤ m
theorem DrOk.mono {m m' : Nat} {d : D} (h : DrOk m d) (l : m ≤ m') : DrOk m' d := by
  obtain ⟨b, c, s, k, e, hb, hc, hk, hm⟩ := h
  exact ⟨b, c, s, k, e, hb, hc, hk, by omega⟩
theorem take_ok {m : Nat} {d : D} {n : Int} (h : DrOk m d) (hm : m < 1048575) (h1 : 1 ≤ n) (h2 : n ≤ 1000000007) : ∃ (r : Int) (d' : D), F_q_take [d, .int n] = .ok (.int r, [d']) ∧ 0 ≤ r ∧ r < n ∧ DrOk (m + 1) d' := by
  obtain ⟨b, c, s, k, rfl, hb, hc, hk, hkm⟩ := h
  by_cases c0 : c = 0
  · subst c0
    cases b with
    | nil =>
      obtain ⟨r, e, r0, r1⟩ := take_b (s := s) hk (by omega) h1 h2
      exact ⟨r, _, e, r0, r1, [], 0, s, k + 1, rfl, hb, hc, by omega, by omega⟩
    | cons x b =>
      have hx := hb x (List.mem_cons_self ..)
      exact ⟨_, _, take_c hx h1 h2, Int.emod_nonneg _ (by omega), Int.emod_lt_of_pos _ (by omega), b, x / n, s, k + 1, rfl, fun y hy => hb y (List.mem_cons_of_mem _ hy), Int.ediv_nonneg (by omega) (by omega), by omega, by omega⟩
  · exact ⟨_, _, take_a (by omega) h1 h2, Int.emod_nonneg _ (by omega), Int.emod_lt_of_pos _ (by omega), b, c / n, s, k + 1, rfl, hb, Int.ediv_nonneg (by omega) (by omega), by omega, by omega⟩
/-! ### turns -/
theorem for_inv {w : D → Env → Option Env} {g : Env → R Env Out} (I : Nat → Env → Prop) : ∀ {ds : List D} {i : Nat} {ρ : Env}, (∀ j d ρ, ds[j]? = some d → I (i + j) ρ → ∃ ρ1 ρ2, w d ρ = some ρ1 ∧ (g ρ1 = .ok (.nx ρ2) ∨ g ρ1 = .ok (.ct ρ2)) ∧ I (i + j + 1) ρ2) → I i ρ → ∃ ρ', forL w g ds ρ = .ok (.nx ρ') ∧ I (i + ds.length) ρ'
  | [], i, ρ, _, h => ⟨ρ, rfl, h⟩
  | d :: ds, i, ρ, H, h => by
    obtain ⟨ρ1, ρ2, e1, e2, h2⟩ := H 0 d ρ rfl h
    obtain ⟨ρ', e3, h3⟩ := for_inv (ds := ds) (i := i + 1) (ρ := ρ2) I (fun j d ρ e hI => by
      have := H (j + 1) d ρ (by rw [List.getElem?_cons_succ]; exact e)
      rw [show i + (j + 1) = i + 1 + j by omega] at this
      exact this hI) h2
    refine ⟨ρ', ?_, ?_⟩
    · unfold forL
      rw [e1]
      rcases e2 with e2 | e2
      · simp only [oR_some, R.ok_bind, e2]; exact e3
      · simp only [oR_some, R.ok_bind, e2]; exact e3
    · rw [List.length_cons, show i + (ds.length + 1) = i + 1 + ds.length by omega]; exact h3
theorem comp_inv {own : List Nat} {w : D → Env → Option Env} {t : Env → R Env (Bool × Env)} {h : Env → R Env (D × Env)} (I : Nat → Env → List D → Prop) : ∀ {ds : List D} {i : Nat} {ρ : Env} {acc : List D},
    (∀ j d ρ acc, ds[j]? = some d → I (i + j) ρ acc → ∃ ρ1, w d ρ = some ρ1 ∧ ((∃ ρ2, t ρ1 = .ok (false, ρ2) ∧ I (i + j + 1) (wipeE ρ2 own) acc) ∨ ∃ ρ2 y ρ3, t ρ1 = .ok (true, ρ2) ∧ h ρ2 = .ok (y, ρ3) ∧ I (i + j + 1) (wipeE ρ3 own) (acc ++ [y]))) →
    I i ρ acc → ∃ ρ' acc', compL own w t h ds ρ acc = .ok (acc', ρ') ∧ I (i + ds.length) ρ' acc'
  | [], i, ρ, acc, _, z => ⟨ρ, acc, rfl, z⟩
  | d :: ds, i, ρ, acc, H, z => by
    have next : ∀ {ρ2 acc2}, I (i + 0 + 1) ρ2 acc2 → ∃ ρ' acc', compL own w t h ds ρ2 acc2 = .ok (acc', ρ') ∧ I (i + (ds.length + 1)) ρ' acc' := fun {ρ2 acc2} z2 => by
      obtain ⟨ρ', acc', e3, h3⟩ := comp_inv (ds := ds) (i := i + 1) (ρ := ρ2) (acc := acc2) I (fun j d ρ acc e hI => by
        have := H (j + 1) d ρ acc (by rw [List.getElem?_cons_succ]; exact e)
        rw [show i + (j + 1) = i + 1 + j by omega] at this
        exact this hI) z2
      exact ⟨ρ', acc', e3, by rw [show i + (ds.length + 1) = i + 1 + ds.length by omega]; exact h3⟩
    obtain ⟨ρ1, e1, e2⟩ := H 0 d ρ acc rfl z
    rcases e2 with ⟨ρ2, et, z2⟩ | ⟨ρ2, y, ρ3, et, eh, z2⟩
    · obtain ⟨ρ', acc', e, q⟩ := next z2
      refine ⟨ρ', acc', ?_, q⟩
      unfold compL
      simp only [e1, et]
      exact e
    · obtain ⟨ρ', acc', e, q⟩ := next z2
      refine ⟨ρ', acc', ?_, q⟩
      unfold compL
      simp only [e1, et, eh]
      exact e
theorem comp_pure {own : List Nat} {w : D → Env → Option Env} {t : Env → R Env (Bool × Env)} {h : Env → R Env (D × Env)} {ρ0 : Env} (f : D → Option D) : ∀ {ds acc : List D},
    (∀ d ∈ ds, ∃ ρ1, w d ρ0 = some ρ1 ∧ ((f d = none ∧ ∃ ρ2, t ρ1 = .ok (false, ρ2) ∧ wipeE ρ2 own = ρ0) ∨ ∃ ρ2 y ρ3, f d = some y ∧ t ρ1 = .ok (true, ρ2) ∧ h ρ2 = .ok (y, ρ3) ∧ wipeE ρ3 own = ρ0)) →
    compL own w t h ds ρ0 acc = .ok (acc ++ ds.filterMap f, ρ0)
  | [], acc, _ => by rw [List.filterMap_nil, List.append_nil]; rfl
  | d :: ds, acc, H => by
    obtain ⟨ρ1, e1, e2⟩ := H d (List.mem_cons_self ..)
    have ih := fun acc => comp_pure (acc := acc) f fun d hd => H d (List.mem_cons_of_mem _ hd)
    rcases e2 with ⟨ef, ρ2, et, ew⟩ | ⟨ρ2, y, ρ3, ef, et, eh, ew⟩
    · unfold compL
      simp only [e1, et, ew, ih, List.filterMap_cons, ef]
    · unfold compL
      simp only [e1, et, eh, ew, ih, List.filterMap_cons, ef, List.append_assoc, List.singleton_append]
theorem areFrz_ints (ns : List Int) : areFrz (ns.map .int) = true := by
  induction ns with
  | nil => rfl
  | cons i ns ih => exact ih
theorem frzs_ints (ns : List Int) : frzs (ns.map .int) = ns.map .int := by
  induction ns with
  | nil => rfl
  | cons i ns ih => show D.int i :: frzs (ns.map .int) = _; rw [ih]; rfl
theorem ini1_1 (x : D) : ini 2 [x] = [some x, none] := rfl
def onI (p : Int → Bool) : D → Option D
  | .int i => if p i = true then some (.int i) else none
  | _ => none
theorem fm_ints (ns : List Int) (p : Int → Bool) : (ns.map D.int).filterMap (onI p) = (ns.filter p).map .int := by
  induction ns with
  | nil => rfl
  | cons i ns ih =>
    rw [List.map_cons, List.filterMap_cons, ih, List.filter_cons]
    by_cases h : p i = true <;> simp [onI, h]
theorem draws_ok {ns : List Int} (h : ns.length ≤ 1000) : ∃ d, F_q_draws [.nd false .ro (ns.map .int)] = .ok (d, []) ∧ DrOk 0 d := by
  refine ⟨St (ns.filter fun i => decide (i ≥ 1000000000000000000)) 0 (ns.filter fun i => decide (i < 1000000000000000000)) 0, ?_, _, _, _, _, rfl, fun x hx => ?_, by omega, by omega, by omega⟩
  · unfold F_q_draws
    refine defD_of (ρ := [some (.nd false .ro (ns.map .int)), none]) (?_ : e_q_draws _ = _) rfl
    unfold e_q_draws
    rw [ini1_1]
    have hl : ((ns.map D.int).length ≤ 1000000) = True := by rw [List.length_map]; exact eq_true (by omega)
    have p1 : ∀ (p : Int → Bool) (t : Env → R Env (Bool × Env)), (∀ i : Int, t [some (.nd false .ro (ns.map .int)), some (.int i)] = .ok (p i, [some (.nd false .ro (ns.map .int)), some (.int i)])) → compL [1] (wName 1) t (ofG (gVar 1)) (ns.map .int) [some (.nd false .ro (ns.map .int)), none] [] = .ok ((ns.filter p).map .int, [some (.nd false .ro (ns.map .int)), none]) := fun p t ht => by
      rw [comp_pure (f := onI p), fm_ints, List.nil_append]
      intro d hd
      obtain ⟨i, _, rfl⟩ := List.mem_map.mp hd
      refine ⟨_, rfl, ?_⟩
      cases e : p i with
      | false => exact .inl ⟨by simp [onI, e], _, (ht i).trans (by rw [e]), rfl⟩
      | true => exact .inr ⟨_, .int i, _, by simp [onI, e], (ht i).trans (by rw [e]), rfl, rfl⟩
    have c1 := p1 (fun i => decide (i ≥ 1000000000000000000)) (asB (g2 geF (gVar 1) (toG (d2 powF (dC (.int 10)) (dC (.int 18)))))) fun i => by simp (config := { maxSteps := 400000 }) (disch := omega) only [sSeq_eq, dFrz_eq, sAsg_eq, g2_eq, gIx_eq, toG_eq, dC_eq, gVar_eq, R.ok_bind, oR_some, Option.bind_some, addF_int, eqF_int, sIf_eq, asB_eq, sNil_eq, tAn_eq, wSub_eq, pVar_eq, Option.map_some, Option.getD_some, gtF_int, d2_eq, g1_eq, intF_int, ofG_eq, wName_eq, sRet_eq, dVarM_eq, modF_int, divF_int, mulF_l, mulF_r, outsOf, List.getElem?_cons_zero, List.getElem?_cons_succ, getIx_lst, atI_0, atI_1, atI_2, atI_3, atI_4, atI_5, atI_6, atI_7, ixN_ok, putP, getP, setP, atP, isFrz, List.set_cons_zero, List.set_cons_succ, List.length_cons, List.length_nil, Nat.zero_add, Nat.reduceAdd, Int.reduceToNat, dLst_eq, dTup_eq, aNil_eq, aCons_eq, aRef_eq, vals, lim, Nat.reduceLeDiff, dCallV_eq, dCall_eq, callV_1, callV_2, callV_3, outV_ok, callD_tf, callD_tff, callD_t, outM_ok, ltF_int, leF_int, geF_int, subF_int, Int.zero_mul, Int.zero_add, Int.add_zero, Int.mul_zero, Int.reduceMod, Int.reduceMul, Int.reduceAdd, frz_int, frz_str, frz_bl, frz_non, d1_eq, dM1_eq, dIf_eq, dAnd_eq, dOr_eq, dNot_eq, dNeg_eq, gSl_eq, dSl_eq, oNone_eq, oSome_eq, iSeq_eq, iRange1_eq, iRange2_eq, sFor_eq, tNt_eq, tOu_eq, tYs_eq, dIx_eq, dIxV_eq, sExp_eq, sRetN_eq, mMe_eq, pIx_eq, dVarF_eq, dComp_eq, sAug_eq, sBrk_eq, sCnt_eq, Bool.and_self, Bool.and_true, Bool.true_and, and_self, true_and, and_true, Bool.false_and, Bool.and_false, Bool.not_true, Bool.not_false, Bool.false_eq_true, ↓reduceIte, powF_int, Int.reducePow]
    have c2 := p1 (fun i => decide (i < 1000000000000000000)) (asB (g2 ltF (gVar 1) (toG (d2 powF (dC (.int 10)) (dC (.int 18)))))) fun i => by simp (config := { maxSteps := 400000 }) (disch := omega) only [sSeq_eq, dFrz_eq, sAsg_eq, g2_eq, gIx_eq, toG_eq, dC_eq, gVar_eq, R.ok_bind, oR_some, Option.bind_some, addF_int, eqF_int, sIf_eq, asB_eq, sNil_eq, tAn_eq, wSub_eq, pVar_eq, Option.map_some, Option.getD_some, gtF_int, d2_eq, g1_eq, intF_int, ofG_eq, wName_eq, sRet_eq, dVarM_eq, modF_int, divF_int, mulF_l, mulF_r, outsOf, List.getElem?_cons_zero, List.getElem?_cons_succ, getIx_lst, atI_0, atI_1, atI_2, atI_3, atI_4, atI_5, atI_6, atI_7, ixN_ok, putP, getP, setP, atP, isFrz, List.set_cons_zero, List.set_cons_succ, List.length_cons, List.length_nil, Nat.zero_add, Nat.reduceAdd, Int.reduceToNat, dLst_eq, dTup_eq, aNil_eq, aCons_eq, aRef_eq, vals, lim, Nat.reduceLeDiff, dCallV_eq, dCall_eq, callV_1, callV_2, callV_3, outV_ok, callD_tf, callD_tff, callD_t, outM_ok, ltF_int, leF_int, geF_int, subF_int, Int.zero_mul, Int.zero_add, Int.add_zero, Int.mul_zero, Int.reduceMod, Int.reduceMul, Int.reduceAdd, frz_int, frz_str, frz_bl, frz_non, d1_eq, dM1_eq, dIf_eq, dAnd_eq, dOr_eq, dNot_eq, dNeg_eq, gSl_eq, dSl_eq, oNone_eq, oSome_eq, iSeq_eq, iRange1_eq, iRange2_eq, sFor_eq, tNt_eq, tOu_eq, tYs_eq, dIx_eq, dIxV_eq, sExp_eq, sRetN_eq, mMe_eq, pIx_eq, dVarF_eq, dComp_eq, sAug_eq, sBrk_eq, sCnt_eq, Bool.and_self, Bool.and_true, Bool.true_and, and_self, true_and, and_true, Bool.false_and, Bool.and_false, Bool.not_true, Bool.not_false, Bool.false_eq_true, ↓reduceIte, powF_int, Int.reducePow]
    have hf : isFrz (.nd false .ro (ns.map .int)) = true := by show (true && areFrz _) = true; rw [areFrz_ints]; rfl
    have hz : frz (.nd false .ro (ns.map .int)) = .nd false .ro (ns.map .int) := by show D.nd false .ro (frzs _) = _; rw [frzs_ints]
    simp (config := { maxSteps := 400000 }) (disch := omega) only [sSeq_eq, dFrz_eq, sAsg_eq, g2_eq, gIx_eq, toG_eq, dC_eq, gVar_eq, R.ok_bind, oR_some, Option.bind_some, addF_int, eqF_int, sIf_eq, asB_eq, sNil_eq, tAn_eq, wSub_eq, pVar_eq, Option.map_some, Option.getD_some, gtF_int, d2_eq, g1_eq, intF_int, ofG_eq, wName_eq, sRet_eq, dVarM_eq, modF_int, divF_int, mulF_l, mulF_r, outsOf, List.getElem?_cons_zero, List.getElem?_cons_succ, getIx_lst, atI_0, atI_1, atI_2, atI_3, atI_4, atI_5, atI_6, atI_7, ixN_ok, putP, getP, setP, atP, isFrz, List.set_cons_zero, List.set_cons_succ, List.length_cons, List.length_nil, Nat.zero_add, Nat.reduceAdd, Int.reduceToNat, dLst_eq, dTup_eq, aNil_eq, aCons_eq, aRef_eq, vals, lim, Nat.reduceLeDiff, dCallV_eq, dCall_eq, callV_1, callV_2, callV_3, outV_ok, callD_tf, callD_tff, callD_t, outM_ok, ltF_int, leF_int, geF_int, subF_int, Int.zero_mul, Int.zero_add, Int.add_zero, Int.mul_zero, Int.reduceMod, Int.reduceMul, Int.reduceAdd, frz_int, frz_str, frz_bl, frz_non, d1_eq, dM1_eq, dIf_eq, dAnd_eq, dOr_eq, dNot_eq, dNeg_eq, gSl_eq, dSl_eq, oNone_eq, oSome_eq, iSeq_eq, iRange1_eq, iRange2_eq, sFor_eq, tNt_eq, tOu_eq, tYs_eq, dIx_eq, dIxV_eq, sExp_eq, sRetN_eq, mMe_eq, pIx_eq, dVarF_eq, dComp_eq, sAug_eq, sBrk_eq, sCnt_eq, Bool.and_self, Bool.and_true, Bool.true_and, and_self, true_and, and_true, Bool.false_and, Bool.and_false, Bool.not_true, Bool.not_false, Bool.false_eq_true, ↓reduceIte, areFrz_ints, hz, items, ownOk, wipeE, restE, hl, c1, c2]
    rfl
  · rw [List.mem_filter, decide_eq_true_eq] at hx
    omega
theorem pick_ok {m : Nat} {d x : D} {n : Int} (h : DrOk m d) (hm : m < 1048575) (hl : lenF x = some (.int n)) (h1 : 1 ≤ n) (h2 : n ≤ 1000000007) (hx : frz x = x) (hg : ∀ i, 0 ≤ i → i < n → ∃ y, getIx x (.int i) = some y ∧ isFrz y = true) :
    ∃ (i : Int) (y d' : D), F_q_pick [d, x] = .ok (y, [d']) ∧ 0 ≤ i ∧ i < n ∧ getIx x (.int i) = some y ∧ DrOk (m + 1) d' := by
  obtain ⟨i, d', e, h3, h4, h5⟩ := take_ok h hm h1 h2
  obtain ⟨y, ey, fy⟩ := hg i h3 h4
  refine ⟨i, y, d', ?_, h3, h4, ey, h5⟩
  unfold F_q_pick
  refine defD_of (ρ := [some d', some x]) (?_ : e_q_pick _ = _) rfl
  unfold e_q_pick
  rw [show ini 2 [d, x] = [some d, some x] from rfl]
  simp (config := { maxSteps := 400000 }) (disch := omega) only [sSeq_eq, dFrz_eq, sAsg_eq, g2_eq, gIx_eq, toG_eq, dC_eq, gVar_eq, R.ok_bind, oR_some, Option.bind_some, addF_int, eqF_int, sIf_eq, asB_eq, sNil_eq, tAn_eq, wSub_eq, pVar_eq, Option.map_some, Option.getD_some, gtF_int, d2_eq, g1_eq, intF_int, ofG_eq, wName_eq, sRet_eq, dVarM_eq, modF_int, divF_int, mulF_l, mulF_r, outsOf, List.getElem?_cons_zero, List.getElem?_cons_succ, getIx_lst, atI_0, atI_1, atI_2, atI_3, atI_4, atI_5, atI_6, atI_7, ixN_ok, putP, getP, setP, atP, isFrz, List.set_cons_zero, List.set_cons_succ, List.length_cons, List.length_nil, Nat.zero_add, Nat.reduceAdd, Int.reduceToNat, dLst_eq, dTup_eq, aNil_eq, aCons_eq, aRef_eq, vals, lim, Nat.reduceLeDiff, dCallV_eq, dCall_eq, callV_1, callV_2, callV_3, outV_ok, callD_tf, callD_tff, callD_t, outM_ok, ltF_int, leF_int, geF_int, subF_int, Int.zero_mul, Int.zero_add, Int.add_zero, Int.mul_zero, Int.reduceMod, Int.reduceMul, Int.reduceAdd, frz_int, frz_str, frz_bl, frz_non, d1_eq, dM1_eq, dIf_eq, dAnd_eq, dOr_eq, dNot_eq, dNeg_eq, gSl_eq, dSl_eq, oNone_eq, oSome_eq, iSeq_eq, iRange1_eq, iRange2_eq, sFor_eq, tNt_eq, tOu_eq, tYs_eq, dIx_eq, dIxV_eq, sExp_eq, sRetN_eq, mMe_eq, pIx_eq, dVarF_eq, dComp_eq, sAug_eq, sBrk_eq, sCnt_eq, Bool.and_self, Bool.and_true, Bool.true_and, and_self, true_and, and_true, Bool.false_and, Bool.and_false, Bool.not_true, Bool.not_false, Bool.false_eq_true, ↓reduceIte, hl, e, ey, fy]
theorem getIx_str {l : List Nat} (hl : l.length ≤ 1000000) {i : Int} (h : 0 ≤ i) (h2 : i < l.length) : ∃ c, getIx (.str l) (.int i) = some (.str [c]) ∧ c ∈ l := by
  refine ⟨l[i.toNat]'(by omega), ?_, List.getElem_mem _⟩
  show (if l.length ≤ lim then (L2.atI l i).map fun c => D.str [c] else none) = _
  rw [if_pos hl, atI_ok h h2, List.getElem?_eq_getElem (by omega)]
  rfl
theorem lenF_str {l : List Nat} (hl : l.length ≤ 1000000) : lenF (.str l) = some (.int l.length) := by
  show (if l.length ≤ lim then _ else _) = _
  rw [if_pos hl]
theorem pick_str {m : Nat} {d : D} {l : List Nat} (h : DrOk m d) (hm : m < 1048575) (h1 : 1 ≤ l.length) (h2 : l.length ≤ 1000000) : ∃ (c : Nat) (d' : D), F_q_pick [d, .str l] = .ok (.str [c], [d']) ∧ c ∈ l ∧ DrOk (m + 1) d' := by
  obtain ⟨i, y, d', e, h3, h4, ey, h5⟩ := pick_ok (x := .str l) h hm (lenF_str h2) (by omega) (by omega) rfl fun i a b => by
    obtain ⟨c, ec, _⟩ := getIx_str h2 a b
    exact ⟨_, ec, rfl⟩
  obtain ⟨c, ec, hc⟩ := getIx_str h2 h3 h4
  rw [ey] at ec; cases ec
  exact ⟨c, d', e, hc, h5⟩
def signs (t : List Nat) : List D := t.map fun c => .str [c]
theorem asStrs_signs (t : List Nat) : asStrs (signs t) = some (t.map fun c => [c]) := by
  induction t with
  | nil => rfl
  | cons c t ih => show (asStrs (signs t)).map _ = _; rw [ih]; rfl
theorem joinS_signs : ∀ (t : List Nat), joinS [] (t.map fun c => [c]) = t
  | [] => rfl
  | [c] => rfl
  | c :: c' :: t => by
    show [c] ++ ([] ++ joinS [] ((c' :: t).map fun c => [c])) = _
    rw [joinS_signs (c' :: t)]; rfl
theorem joinF_signs (m : Bool) {t : List Nat} (h : t.length ≤ 1000000) : joinF (.str []) (.lst m (signs t)) = some (.str t) := by
  show (match asStrs (signs t) with | some ss => _ | none => _) = _
  rw [asStrs_signs]
  have e : ((t.map fun c => [c]).map List.length).sum = t.length := by
    clear h
    induction t with
    | nil => rfl
    | cons c t ih => rw [List.map_cons, List.map_cons, List.sum_cons, ih, List.length_cons]; simp; omega
  show (if ((t.map fun c => [c]).map List.length).sum + (t.map fun c => [c]).length * ([] : List Nat).length ≤ lim then some (D.str (joinS [] (t.map fun c => [c]))) else none) = _
  rw [e, joinS_signs, if_pos (by show t.length + _ * 0 ≤ 1000000; omega)]
theorem rng_get {i : Int} {n j : Nat} {d : D} (h : (rng i n)[j]? = some d) : d = .int (i + j) ∧ j < n := by
  unfold rng at h
  rw [List.getElem?_map] at h
  cases e : (List.range n)[j]? with
  | none => rw [e] at h; cases h
  | some k =>
    rw [e] at h; cases h
    obtain ⟨h1, h2⟩ := List.getElem?_eq_some_iff.mp e
    rw [List.getElem_range] at h2
    subst h2
    rw [List.length_range] at h1
    exact ⟨rfl, h1⟩
theorem rng_len (i : Int) (n : Nat) : (rng i n).length = n := by unfold rng; rw [List.length_map, List.length_range]
theorem okR_of {i : Int} (h : -1000000000 ≤ i) (h2 : i ≤ 1000000000) : okR i = true := by unfold okR; rw [decide_eq_true_eq]; omega
/-! ### by what is wanted -/
section
variable {Q : D × List D → Prop} {E : XQ (List D)} {t : Tag Q} {u : Tag E} {m : Nat} {d : D}
theorem take_wp {n : Int} (h : DrOk m d) (hm : m < 1048575) (h1 : 1 ≤ n) (h2 : n ≤ 1000000007) (k : ∀ (r : Int) (d' : D), 0 ≤ r → r < n → DrOk (m + 1) d' → Q (.int r, [d'])) : Wp (F_q_take [d, .int n]) Q E t u := by
  obtain ⟨r, d', e, r0, r1, h'⟩ := take_ok h hm h1 h2
  rw [e]; exact k r d' r0 r1 h'
theorem pick_wp {x : D} {ds : List D} (h : DrOk m d) (hm : m < 1048575) (hx : x = .nd false .lst ds ∨ x = .tup ds) (h1 : 1 ≤ ds.length) (h2 : ds.length ≤ 1000000) (hf : areFrz ds = true) (k : ∀ (y d' : D), y ∈ ds → DrOk (m + 1) d' → Q (y, [d'])) : Wp (F_q_pick [d, x]) Q E t u := by
  have hg : ∀ i : Int, getIx x (.int i) = L2.atI ds i := by rcases hx with rfl | rfl <;> intro i <;> rfl
  have hl : lenF x = some (.int ds.length) := by rcases hx with rfl | rfl <;> rfl
  have hz : frz x = x := by rcases hx with rfl | rfl <;> exact frz_id (by simpa [isFrz] using hf)
  have hfz : ∀ (ds : List D), areFrz ds = true → ∀ y ∈ ds, isFrz y = true := by
    intro ds
    induction ds with
    | nil => intro _ y hy; cases hy
    | cons a ds ih =>
      intro h y hy
      simp only [areFrz, Bool.and_eq_true] at h
      rcases List.mem_cons.mp hy with rfl | hy
      · exact h.1
      · exact ih h.2 y hy
  obtain ⟨i, y, d', e, i0, i1, ei, h'⟩ := pick_ok (x := x) (n := ds.length) h hm hl (by omega) (by omega) hz fun i a b => by
    rw [hg, atI_ok a (by omega), List.getElem?_eq_getElem (by omega)]
    exact ⟨_, rfl, hfz ds hf _ (List.getElem_mem _)⟩
  rw [e]
  refine k y d' ?_ h'
  rw [hg, atI_ok i0 (by omega)] at ei
  exact List.mem_of_getElem? ei
theorem pickS_wp {l : List Nat} (h : DrOk m d) (hm : m < 1048575) (h1 : 1 ≤ l.length) (h2 : l.length ≤ 1000000) (k : ∀ (c : Nat) (d' : D), c ∈ l → DrOk (m + 1) d' → Q (.str [c], [d'])) : Wp (F_q_pick [d, .str l]) Q E t u := by
  obtain ⟨c, d', e, hc, h'⟩ := pick_str h hm h1 h2
  rw [e]; exact k c d' hc h'
end
/-- a statement's value is True -/
theorem law_of {n : Nat} {g : Env → R Env Out} {ds : List D} (h : Nm (ini n ds) (fun ρ => Wp (g ρ) (Thn (fun _ => False) (fun _ => False) (fun _ => False) (fun d _ => d = .bl true)) Never .mk .mk) .mk) : defD n [false] g ds = .ok (.bl true, []) := by
  refine Wp.eq ?_
  rw [wp_defD]
  refine Wp.mono (show Wp (g (ini n ds)) _ Never .mk .mk from h) (fun o ho => ?_) fun _ _ _ z => z.elim
  cases o with
  | rt d ρ =>
    obtain rfl : d = .bl true := ho
    show Op (outsOf [false] ρ) _ .mk
    cases ρ <;> exact rfl
  | nx ρ => exact ho.elim
  | bk ρ => exact ho.elim
  | ct ρ => exact ho.elim
/-- a def that tells and changes nothing -/
theorem def_of {n : Nat} {m : List Bool} {g : Env → R Env Out} {ds : List D} {d : D} (hm : m.all (! ·) = true) (h : Nm (ini n ds) (fun ρ => Wp (g ρ) (Thn (fun _ => d = .non) (fun _ => False) (fun _ => False) (fun x _ => x = d)) Never .mk .mk) .mk) : defD n m g ds = .ok (d, []) := by
  have ho : ∀ (m : List Bool) (ρ : Env), m.all (! ·) = true → outsOf m ρ = some [] := by
    intro m
    induction m with
    | nil => intro ρ _; cases ρ <;> rfl
    | cons b m ih =>
      intro ρ h
      simp only [List.all_cons, Bool.and_eq_true, Bool.not_eq_true'] at h
      rw [h.1]
      cases ρ with
      | nil => exact ih [] h.2
      | cons _ ρ => exact ih ρ h.2
  refine Wp.eq ?_
  rw [wp_defD]
  refine Wp.mono (show Wp (g (ini n ds)) _ Never .mk .mk from h) (fun o hO => ?_) fun _ _ _ z => z.elim
  cases o with
  | rt x ρ =>
    obtain rfl : x = d := hO
    show Op (outsOf m ρ) _ .mk
    rw [ho m ρ hm]; rfl
  | nx ρ =>
    obtain rfl : d = .non := hO
    show Op (outsOf m ρ) _ .mk
    rw [ho m ρ hm]; rfl
  | bk ρ => exact hO.elim
  | ct ρ => exact hO.elim
/-- a comprehension over numbers that changes nothing -/
theorem rmap_wp {own : List Nat} {w : D → Env → Option Env} {c : Env → R Env (Bool × Env)} {h : Env → R Env (D × Env)} {ρ : Env} {Q : List D × Env → Prop} {E : XQ Env} {t : Tag Q} {u : Tag E} {i : Int} {n : Nat} (N : Nat) (r : Nat → Option D) (hN : n = N)
    (H : ∀ k, k < N → Op (w (.int (i + (k : Nat))) ρ) (fun ρ1 => Wp (c ρ1) (fun p => Br p.1 (Wp (h p.2) (fun y => r k = some y.1 ∧ wipeE y.2 own = ρ) Never .mk .mk) (r k = none ∧ wipeE p.2 own = ρ) .mk .mk) Never .mk .mk) .mk)
    (hk : Q ((List.range N).filterMap r, ρ)) : Wp (compL own w c h (rng i n) ρ []) Q E t u := by
  subst hN
  exact map_wp (f := fun k : Nat => D.int (i + (k : Nat))) (r := r) (xs := List.range n) (fun k hk => H k (List.mem_range.mp hk)) hk
theorem rmap0_wp {own : List Nat} {w : D → Env → Option Env} {c : Env → R Env (Bool × Env)} {h : Env → R Env (D × Env)} {ρ : Env} {Q : List D × Env → Prop} {E : XQ Env} {t : Tag Q} {u : Tag E} {n : Nat} (N : Nat) (r : Nat → Option D) (hN : n = N)
    (H : ∀ k, k < N → Op (w (.int (k : Nat)) ρ) (fun ρ1 => Wp (c ρ1) (fun p => Br p.1 (Wp (h p.2) (fun y => r k = some y.1 ∧ wipeE y.2 own = ρ) Never .mk .mk) (r k = none ∧ wipeE p.2 own = ρ) .mk .mk) Never .mk .mk) .mk)
    (hk : Q ((List.range N).filterMap r, ρ)) : Wp (compL own w c h (rng 0 n) ρ []) Q E t u :=
  rmap_wp N r hN (fun k hk => by rw [Int.zero_add]; exact H k hk) hk
theorem fm_some {α : Type} (g : α → D) (l : List α) : l.filterMap (fun k => some (g k)) = l.map g := by
  rw [show (fun k => some (g k)) = some ∘ g from rfl, List.filterMap_eq_map]
theorem fz_fm {α : Type} {p : α → Prop} [DecidablePred p] {g : α → Int} : ∀ l : List α, areFrz (l.filterMap fun e => if p e then some (D.int (g e)) else none) = true
  | [] => rfl
  | a :: l => by
    rw [List.filterMap_cons]
    by_cases h : p a
    · rw [if_pos h]; exact fz_fm l
    · rw [if_neg h]; exact fz_fm l
end Tw.Lw
namespace Tw.Lw
open PySem PySem.Spec L2
/-! ### the rules of reckoning, in one -/
theorem WP0 : type_of% ((And.intro @wp_sNil (And.intro @wp_sBrk (And.intro @wp_sCnt (And.intro @wp_sRetN (And.intro @wp_sExp (And.intro @wp_sRet (And.intro @wp_sIf (And.intro @wp_sAsg (And.intro @wp_sFor (And.intro @wp_sAug (And.intro @wp_for_nil (And.intro @wp_for_cons (And.intro @wp_sPar (And.intro @thn_nx (And.intro @thn_bk (And.intro @thn_ct (And.intro @thn_rt (And.intro @wp_asB (And.intro @wp_tNt (And.intro @wp_tAn (And.intro @wp_tOu (And.intro @wp_tYs (And.intro @wp_dC (And.intro @wp_dFrz (And.intro @wp_sRaise (And.intro @wp_dPartM (And.intro @wp_sForCE (And.intro @wp_sRaise0 (And.intro @wp_dTold (And.intro @wp_dDZ (And.intro @wp_ofG (And.intro @wp_dVarF (And.intro @wp_dVarM (And.intro @wp_d2 (And.intro @wp_g2 (And.intro @wp_gCh (And.intro @wp_dCallW (And.intro @wp_callW (And.intro @op_fillW_nil (And.intro @op_fillW_v (And.intro @op_fillW_m (And.intro @wp_dCompC (And.intro @wp_sAppLen (And.intro @wp_dDisp (And.intro @wp_xNil (And.intro @wp_xCons (And.intro @op_pKy (And.intro @op_wKy (And.intro @wp_d1 (And.intro @wp_g1 (And.intro @wp_dNeg (And.intro @wp_dNot (And.intro @wp_dAnd (And.intro @wp_dOr (And.intro @wp_dIf (And.intro @wp_dTup (And.intro @wp_dLst (And.intro @wp_dIx (And.intro @wp_dIxV (And.intro @wp_dSl (And.intro @wp_gSl (And.intro @wp_dCall (And.intro @wp_dCallV (And.intro @wp_callD (And.intro @wp_callV (And.intro @wp_dM1 (And.intro @wp_mMe (And.intro @wp_dComp (And.intro @wp_comp_nil (And.intro @wp_comp_cons (And.intro @wp_aNil (And.intro @wp_aCons (And.intro @wp_aRef (And.intro @wp_iSeq (And.intro @wp_iRange1 (And.intro @wp_iRange2 (And.intro @wp_iRangeD (And.intro @wp_iEnu (And.intro @wp_iEnA (And.intro @wp_dPeek (And.intro @wp_sForC (And.intro @wp_sFzV (And.intro @wp_sLend (And.intro @wp_iZp (And.intro @wp_iZpA (And.intro @wp_oNone (And.intro @wp_oSome (And.intro @wp_defD (And.intro @wp_ok (And.intro @wp_oR (And.intro @op_toG (And.intro @op_gIx (And.intro @op_wName (And.intro @op_wTup (And.intro @op_wTupL (And.intro @op_wNil (And.intro @op_wCons (And.intro @op_wSub (And.intro @op_pVar (And.intro @op_pIx (And.intro @op_fillA_nil (And.intro @op_fillA_v (And.intro @op_fillA_m (And.intro @op_vals_v (And.intro @op_vals_nil (And.intro @op_outs_t (And.intro @op_outs_nil (And.intro @op_bind @op_map))))))))))))))))))))))))))))))))))))))))))))))))))))))))))))))))))))))))))))))))))))))))))))))))))))))))))))) := (And.intro @wp_sNil (And.intro @wp_sBrk (And.intro @wp_sCnt (And.intro @wp_sRetN (And.intro @wp_sExp (And.intro @wp_sRet (And.intro @wp_sIf (And.intro @wp_sAsg (And.intro @wp_sFor (And.intro @wp_sAug (And.intro @wp_for_nil (And.intro @wp_for_cons (And.intro @wp_sPar (And.intro @thn_nx (And.intro @thn_bk (And.intro @thn_ct (And.intro @thn_rt (And.intro @wp_asB (And.intro @wp_tNt (And.intro @wp_tAn (And.intro @wp_tOu (And.intro @wp_tYs (And.intro @wp_dC (And.intro @wp_dFrz (And.intro @wp_sRaise (And.intro @wp_dPartM (And.intro @wp_sForCE (And.intro @wp_sRaise0 (And.intro @wp_dTold (And.intro @wp_dDZ (And.intro @wp_ofG (And.intro @wp_dVarF (And.intro @wp_dVarM (And.intro @wp_d2 (And.intro @wp_g2 (And.intro @wp_gCh (And.intro @wp_dCallW (And.intro @wp_callW (And.intro @op_fillW_nil (And.intro @op_fillW_v (And.intro @op_fillW_m (And.intro @wp_dCompC (And.intro @wp_sAppLen (And.intro @wp_dDisp (And.intro @wp_xNil (And.intro @wp_xCons (And.intro @op_pKy (And.intro @op_wKy (And.intro @wp_d1 (And.intro @wp_g1 (And.intro @wp_dNeg (And.intro @wp_dNot (And.intro @wp_dAnd (And.intro @wp_dOr (And.intro @wp_dIf (And.intro @wp_dTup (And.intro @wp_dLst (And.intro @wp_dIx (And.intro @wp_dIxV (And.intro @wp_dSl (And.intro @wp_gSl (And.intro @wp_dCall (And.intro @wp_dCallV (And.intro @wp_callD (And.intro @wp_callV (And.intro @wp_dM1 (And.intro @wp_mMe (And.intro @wp_dComp (And.intro @wp_comp_nil (And.intro @wp_comp_cons (And.intro @wp_aNil (And.intro @wp_aCons (And.intro @wp_aRef (And.intro @wp_iSeq (And.intro @wp_iRange1 (And.intro @wp_iRange2 (And.intro @wp_iRangeD (And.intro @wp_iEnu (And.intro @wp_iEnA (And.intro @wp_dPeek (And.intro @wp_sForC (And.intro @wp_sFzV (And.intro @wp_sLend (And.intro @wp_iZp (And.intro @wp_iZpA (And.intro @wp_oNone (And.intro @wp_oSome (And.intro @wp_defD (And.intro @wp_ok (And.intro @wp_oR (And.intro @op_toG (And.intro @op_gIx (And.intro @op_wName (And.intro @op_wTup (And.intro @op_wTupL (And.intro @op_wNil (And.intro @op_wCons (And.intro @op_wSub (And.intro @op_pVar (And.intro @op_pIx (And.intro @op_fillA_nil (And.intro @op_fillA_v (And.intro @op_fillA_m (And.intro @op_vals_v (And.intro @op_vals_nil (And.intro @op_outs_t (And.intro @op_outs_nil (And.intro @op_bind @op_map))))))))))))))))))))))))))))))))))))))))))))))))))))))))))))))))))))))))))))))))))))))))))))))))))))))))))))
theorem WP1 : type_of% ((And.intro @onT_tup (And.intro @onD_dct (And.intro @wp_ok (And.intro @nm_eq (And.intro @op_some (And.intro @setL_nil (And.intro @setL_cons (And.intro @br_true (And.intro @br_false (And.intro @br_pos (And.intro @br_neg (And.intro @br_not (And.intro @gd_true (And.intro @gd_and (And.intro @gd_of (And.intro @onB_bl (And.intro @onI_int (And.intro @onL_lst (And.intro @onS_str (And.intro @onC_lst (And.intro @onC_tup (And.intro @on1_v (And.intro @on2_v (And.intro @on3_v (And.intro @gVar_0 (And.intro @gVar_s (And.intro @putA_nil (And.intro @putA_v (And.intro @putA_m (And.intro @mask_nil (And.intro @mask_v (And.intro @mask_m (And.intro @ini_s (And.intro @ini_nil (And.intro @ini_0 (And.intro @outs_f (And.intro @outs_nil (And.intro @wipe_nil (And.intro @wipe_cons (And.intro @rest_nil (And.intro @rest_cons (And.intro @own_nil (And.intro @own_cons (And.intro @frzO_n (And.intro @frzO_s (And.intro @atP_0 (And.intro @atP_c (And.intro @getP_0 (And.intro @getP_l (And.intro @getP_t (And.intro @setP_0 (And.intro @frz_int (And.intro @frz_str (And.intro @frz_bl (And.intro @frz_non (And.intro @addF_int (And.intro @subF_int (And.intro @ltF_int (And.intro @leF_int (And.intro @gtF_int (And.intro @geF_int (And.intro @intF_int (And.intro @eqF_int (And.intro @modF_int (And.intro @divF_int (And.intro @mulF_l (And.intro @mulF_r (And.intro @lenF_lst (And.intro @okR_of (And.intro @rng_len (And.intro @putP_eq (And.intro @optSet_some (And.intro @setP_lE (And.intro @setP_tE (And.intro @setO_some (And.intro @obind_some (And.intro @ixN_nat (And.intro @frz_id (And.intro @frzs_id (And.intro @viewE_t (And.intro @viewE_n (And.intro @viewE_f (And.intro @viewE_0 (And.intro @viewE_00 (And.intro @mixE_t (And.intro @mixE_f (And.intro @mixE_0 (And.intro @mixE_00 (And.intro @cleanE_n (And.intro @cleanE_s (And.intro @cleanE_0 (And.intro @cleanO_0 (And.intro @cleanO_t (And.intro @cleanO_f (And.intro @noFr_int (And.intro @noFr_str (And.intro @noFr_bl (And.intro @noFr_non (And.intro @noFr_tup (And.intro @noFr_nd (And.intro @noFr_nf (And.intro @noFrs_nil (And.intro @noFrs_cons (And.intro @fzO_s @fzO_n))))))))))))))))))))))))))))))))))))))))))))))))))))))))))))))))))))))))))))))))))))))))))))))))))))))))) := (And.intro @onT_tup (And.intro @onD_dct (And.intro @wp_ok (And.intro @nm_eq (And.intro @op_some (And.intro @setL_nil (And.intro @setL_cons (And.intro @br_true (And.intro @br_false (And.intro @br_pos (And.intro @br_neg (And.intro @br_not (And.intro @gd_true (And.intro @gd_and (And.intro @gd_of (And.intro @onB_bl (And.intro @onI_int (And.intro @onL_lst (And.intro @onS_str (And.intro @onC_lst (And.intro @onC_tup (And.intro @on1_v (And.intro @on2_v (And.intro @on3_v (And.intro @gVar_0 (And.intro @gVar_s (And.intro @putA_nil (And.intro @putA_v (And.intro @putA_m (And.intro @mask_nil (And.intro @mask_v (And.intro @mask_m (And.intro @ini_s (And.intro @ini_nil (And.intro @ini_0 (And.intro @outs_f (And.intro @outs_nil (And.intro @wipe_nil (And.intro @wipe_cons (And.intro @rest_nil (And.intro @rest_cons (And.intro @own_nil (And.intro @own_cons (And.intro @frzO_n (And.intro @frzO_s (And.intro @atP_0 (And.intro @atP_c (And.intro @getP_0 (And.intro @getP_l (And.intro @getP_t (And.intro @setP_0 (And.intro @frz_int (And.intro @frz_str (And.intro @frz_bl (And.intro @frz_non (And.intro @addF_int (And.intro @subF_int (And.intro @ltF_int (And.intro @leF_int (And.intro @gtF_int (And.intro @geF_int (And.intro @intF_int (And.intro @eqF_int (And.intro @modF_int (And.intro @divF_int (And.intro @mulF_l (And.intro @mulF_r (And.intro @lenF_lst (And.intro @okR_of (And.intro @rng_len (And.intro @putP_eq (And.intro @optSet_some (And.intro @setP_lE (And.intro @setP_tE (And.intro @setO_some (And.intro @obind_some (And.intro @ixN_nat (And.intro @frz_id (And.intro @frzs_id (And.intro @viewE_t (And.intro @viewE_n (And.intro @viewE_f (And.intro @viewE_0 (And.intro @viewE_00 (And.intro @mixE_t (And.intro @mixE_f (And.intro @mixE_0 (And.intro @mixE_00 (And.intro @cleanE_n (And.intro @cleanE_s (And.intro @cleanE_0 (And.intro @cleanO_0 (And.intro @cleanO_t (And.intro @cleanO_f (And.intro @noFr_int (And.intro @noFr_str (And.intro @noFr_bl (And.intro @noFr_non (And.intro @noFr_tup (And.intro @noFr_nd (And.intro @noFr_nf (And.intro @noFrs_nil (And.intro @noFrs_cons (And.intro @fzO_s @fzO_n))))))))))))))))))))))))))))))))))))))))))))))))))))))))))))))))))))))))))))))))))))))))))))))))))))))))
end Tw.Lw
namespace Tw.Lw
open PySem PySem.Spec L2
theorem items_str (l : List Nat) : items (.str l) = some (l.map fun c => .str [c]) := rfl
theorem items_lst (ds : List D) : items (.nd false .lst ds) = some ds := rfl
theorem items_tup (ds : List D) : items (.tup ds) = some ds := rfl
theorem slL {m : Bool} {ds : List D} {lo hi : Option Int} (h : areFrz ds = true) : slF (.nd m .lst ds) lo hi = some (.lst true (cut ds lo hi)) := by
  have : slF (.nd m .lst ds) lo hi = if areFrz ds = true then some (.lst true (cut ds lo hi)) else none := by cases m <;> rfl
  rw [this, if_pos h]
theorem tupF2_lst {m : Bool} {ds : List D} (h : areFrz ds = true) : tupF2 (.nd m .lst ds) = some (.tup ds) := by
  show (if areFrz ds = true then _ else _) = _
  rw [if_pos h]
theorem addL {m m' : Bool} {x y : List D} (h : areFrz x = true) (h' : areFrz y = true) (l : x.length + y.length ≤ 1000000) : addF (.nd m .lst x) (.nd m' .lst y) = some (.lst true (x ++ y)) := by
  show (if areFrz x = true ∧ areFrz y = true ∧ x.length + y.length ≤ Tw.lim then _ else _) = _
  rw [if_pos ⟨h, h', l⟩]
theorem areFrz_sgD (u : List Nat) : areFrz (sgD u) = true := by
  unfold sgD
  induction u with
  | nil => rfl
  | cons c u ih => rw [List.map_cons]; show (true && areFrz _) = true; rw [ih]; rfl
theorem sgD_len (u : List Nat) : (sgD u).length = u.length := List.length_map ..
theorem areFrz_map {α : Type} {f : α → D} (xs : List α) (h : ∀ x ∈ xs, isFrz (f x) = true) : areFrz (xs.map f) = true := by
  induction xs with
  | nil => rfl
  | cons x xs ih =>
    show (isFrz (f x) && areFrz (xs.map f)) = true
    rw [h x (List.mem_cons_self ..), ih fun y hy => h y (List.mem_cons_of_mem _ hy)]; rfl
theorem slS {l : List Nat} {lo hi : Option Int} (h : l.length ≤ 1000000) : slF (.str l) lo hi = some (.str (cut l lo hi)) := by
  show (if l.length ≤ Tw.lim then _ else _) = _
  rw [if_pos (show l.length ≤ Tw.lim from h)]
theorem cut_to {l : List Nat} {a : Int} (h : 0 ≤ a) : cut l none (some a) = l.take a.toNat := by
  unfold cut sIx
  simp only [show ¬ a < 0 by omega, if_false, List.drop_zero, Nat.sub_zero]
  rw [← List.take_take, List.take_length] <;> simp [Nat.min_comm]
theorem cut_from {l : List Nat} {a : Int} (h : 0 ≤ a) : cut l (some a) none = l.drop a.toNat := by
  unfold cut sIx
  simp only [show ¬ a < 0 by omega, if_false]
  rw [List.take_of_length_le (by rw [List.length_drop]; omega)]
  by_cases c : a.toNat ≤ l.length
  · rw [Nat.min_eq_left c]
  · rw [Nat.min_eq_right (by omega), List.drop_length, List.drop_of_length_le (by omega)]
theorem cut_len {l : List Nat} {lo hi : Option Int} : (cut l lo hi).length ≤ l.length := by
  unfold cut
  rw [List.length_take, List.length_drop]
  omega
theorem addS {x y : List Nat} (h : x.length + y.length ≤ 1000000) : addF (.str x) (.str y) = some (.str (x ++ y)) := by
  show (if x.length + y.length ≤ Tw.lim then _ else _) = _
  rw [if_pos (show _ ≤ Tw.lim from h)]
theorem listF2_str {l : List Nat} (h : l.length ≤ 1000000) : listF2 (.str l) = some (.lst true (sgD l)) := by
  show (if l.length ≤ Tw.lim then _ else _) = _
  rw [if_pos (show l.length ≤ Tw.lim from h)]
theorem tupF2_str {l : List Nat} (h : l.length ≤ 1000000) : tupF2 (.str l) = some (.tup (sgD l)) := by
  show (if l.length ≤ Tw.lim then _ else _) = _
  rw [if_pos (show l.length ≤ Tw.lim from h)]
theorem revF_str {l : List Nat} (h : l.length ≤ 1000000) : revF (.str l) = some (.str l.reverse) := by
  show (if l.length ≤ Tw.lim then _ else _) = _
  rw [if_pos (show l.length ≤ Tw.lim from h)]
theorem frzs_sgD (l : List Nat) : frzs (sgD l) = sgD l := frzs_id (areFrz_sgD l)
theorem neF_int (a b : Int) : neF (.int a) (.int b) = some (.bl (!(a == b))) := rfl
theorem eqF_str (a b : List Nat) : eqF (.str a) (.str b) = some (.bl (a == b)) := rfl
theorem appM_ok {ds : List D} {x : D} (h : ds.length < 1000000) : appM ds [x] = some (.non, ds ++ [x]) := by
  show (if ds.length < Tw.lim then _ else _) = _
  rw [if_pos (show _ < Tw.lim from h)]
theorem extM_ok {ds xs : List D} {m : Bool} (h : ds.length + xs.length ≤ 1000000) : extM ds [.nd m .lst xs] = some (.non, ds ++ xs) := by
  show (if ds.length + xs.length ≤ Tw.lim then _ else _) = _
  rw [if_pos (show _ ≤ Tw.lim from h)]
theorem atI_last {α : Type} {l : List α} {n : Nat} (h : l.length = n + 1) : L2.atI l (-1) = l[n]? := by
  unfold L2.atI L2.ixN
  rw [if_neg (by omega), h]
  show (if _ then _ else _ : Option Nat).bind _ = _
  rw [if_pos (by omega), show ((-1 : Int) + ((n + 1 : Nat) : Int)).toNat = n by omega]; rfl
end Tw.Lw
namespace Tw.Lw
open PySem PySem.Spec L2
/-! ### the law's own comparison -/
theorem same_int (n : Nat) (i : Int) : F_q_same (n + 1) [.int i, .int i] = .ok (.bl true, []) := by
  have : F_q_same (n + 1) [.int i, .int i] = .ok (.bl (i == i), []) := rfl
  rw [this, beq_self_eq_true]
theorem same_str (n : Nat) (i : List Nat) : F_q_same (n + 1) [.str i, .str i] = .ok (.bl true, []) := by
  have : F_q_same (n + 1) [.str i, .str i] = .ok (.bl (i == i), []) := rfl
  rw [this, beq_self_eq_true]
theorem same_bl (n : Nat) (a : Bool) : F_q_same (n + 1) [.bl a, .bl a] = .ok (.bl true, []) := by cases a <;> rfl
theorem zipL_self (ds : List D) : zipL ds ds = ds.map fun d => .tup [d, d] := by
  induction ds with
  | nil => rfl
  | cons d ds ih => show D.tup [d, d] :: zipL ds ds = _; rw [ih]; rfl
theorem asBls_true (ds : List D) : asBls (ds.map fun _ => D.bl true) = some (ds.map fun _ => true) := by
  induction ds with
  | nil => rfl
  | cons d ds ih => show (asBls _).map _ = _; rw [ih]; rfl
theorem same_lst (n : Nat) (ds : List D) (hf : areFrz ds = true) (hl : ds.length ≤ 1000000) (h : ∀ d ∈ ds, F_q_same n [d, d] = .ok (.bl true, [])) : F_q_same (n + 1) [.nd false .lst ds, .nd false .lst ds] = .ok (.bl true, []) := by
  show defD _ _ (e_q_same (F_q_same n)) _ = _
  refine def_of rfl ?_
  unfold e_q_same
  have fz : frz (.nd false .lst ds) = .nd false .lst ds := frz_id (by show (!false && areFrz ds) = true; rw [hf]; rfl)
  have i1 : isF1 ["list", "tuple"] (.nd false .lst ds) = some (.bl true) := rfl
  have i2 : isF1 ["list"] (.nd false .lst ds) = some (.bl true) := rfl
  have i3 : isF1 ["tuple"] (.nd false .lst ds) = some (.bl false) := rfl
  have n1 : neF (.bl true) (.bl true) = some (.bl false) := rfl
  have n2 : neF (.bl false) (.bl false) = some (.bl false) := rfl
  have ld : items (.nd false .lst ds) = some ds := rfl
  simp (config := { maxSteps := 1000000 }) (disch := first | omega | assumption | (simp only [List.length_take, List.length_drop, List.length_append, List.length_cons, List.length_nil, List.length_map, List.length_reverse, List.length_range, List.length_replicate]; omega)) only [↓wp_sSeq, ↓WP0, WP1, List.getElem?_cons_zero, List.getElem?_cons_succ, Bool.false_and, List.singleton_append, List.cons_append, List.set_cons_zero, List.set_cons_succ, List.length_cons, List.length_nil, List.map_nil, List.append_nil, List.nil_append, frzs, frz, isFrz, areFrz, isFrzO, Bool.and_true, Bool.true_and, Bool.and_self, Bool.not_true, Bool.not_false, Bool.false_eq_true, and_self, true_and, and_true, eq_self, lim, Nat.zero_add, Nat.reduceAdd, Nat.reduceLeDiff, Int.reduceAdd, Int.reduceSub, Int.reduceMul, Int.reduceNeg, Int.reduceLT, Int.reduceLE, Int.reduceToNat, decide_true, decide_false, flatD, Int.toNat_natCast, Int.reduceBEq, Int.reduceEq, Nat.reduceBEq, beq_self_eq_true, i1, i2, i3, n1, n2, lenF_lst, beq_self_eq_true, hf, frzs_id hf, ld, zipL_self, List.length_map]
  refine map_wp (f := fun d => D.tup [d, d]) (r := fun _ => some (.bl true)) (xs := ds) (fun d hd => ?_) ?_
  · have fd : isFrz d = true := by
      have : ∀ (l : List D), areFrz l = true → d ∈ l → isFrz d = true := by
        intro l
        induction l with
        | nil => intro _ h; cases h
        | cons a l ih =>
          intro h1 h2
          simp only [areFrz, Bool.and_eq_true] at h1
          rcases List.mem_cons.mp h2 with rfl | h2
          · exact h1.1
          · exact ih h1.2 h2
      exact this ds hf hd
    simp (config := { maxSteps := 1000000 }) (disch := first | omega | assumption | (simp only [List.length_take, List.length_drop, List.length_append, List.length_cons, List.length_nil, List.length_map, List.length_reverse, List.length_range, List.length_replicate]; omega)) only [↓wp_sSeq, ↓WP0, WP1, List.getElem?_cons_zero, List.getElem?_cons_succ, Bool.false_and, List.singleton_append, List.cons_append, List.set_cons_zero, List.set_cons_succ, List.length_cons, List.length_nil, List.map_nil, List.append_nil, List.nil_append, frzs, frz, isFrz, areFrz, isFrzO, Bool.and_true, Bool.true_and, Bool.and_self, Bool.not_true, Bool.not_false, Bool.false_eq_true, and_self, true_and, and_true, eq_self, lim, Nat.zero_add, Nat.reduceAdd, Nat.reduceLeDiff, Int.reduceAdd, Int.reduceSub, Int.reduceMul, Int.reduceNeg, Int.reduceLT, Int.reduceLE, Int.reduceToNat, decide_true, decide_false, flatD, Int.toNat_natCast, Int.reduceBEq, Int.reduceEq, Nat.reduceBEq, beq_self_eq_true, fd, h d hd]
  · rw [show (fun _ : D => some (D.bl true)) = some ∘ fun _ => D.bl true from rfl, List.filterMap_eq_map]
    have al : allF (.lst true (ds.map fun _ => D.bl true)) = some (.bl true) := by
      show (asBls _).map _ = _
      rw [asBls_true]
      have : (ds.map fun _ => true).all id = true := by rw [List.all_eq_true]; intro b hb; obtain ⟨_, _, rfl⟩ := List.mem_map.mp hb; rfl
      show some (D.bl _) = _
      rw [this]
    simp (config := { maxSteps := 1000000 }) (disch := first | omega | assumption | (simp only [List.length_take, List.length_drop, List.length_append, List.length_cons, List.length_nil, List.length_map, List.length_reverse, List.length_range, List.length_replicate]; omega)) only [↓wp_sSeq, ↓WP0, WP1, List.getElem?_cons_zero, List.getElem?_cons_succ, Bool.false_and, List.singleton_append, List.cons_append, List.set_cons_zero, List.set_cons_succ, List.length_cons, List.length_nil, List.map_nil, List.append_nil, List.nil_append, frzs, frz, isFrz, areFrz, isFrzO, Bool.and_true, Bool.true_and, Bool.and_self, Bool.not_true, Bool.not_false, Bool.false_eq_true, and_self, true_and, and_true, eq_self, lim, Nat.zero_add, Nat.reduceAdd, Nat.reduceLeDiff, Int.reduceAdd, Int.reduceSub, Int.reduceMul, Int.reduceNeg, Int.reduceLT, Int.reduceLE, Int.reduceToNat, decide_true, decide_false, flatD, Int.toNat_natCast, Int.reduceBEq, Int.reduceEq, Nat.reduceBEq, beq_self_eq_true, al]
theorem same_tup (n : Nat) (ds : List D) (hf : areFrz ds = true) (hl : ds.length ≤ 1000000) (h : ∀ d ∈ ds, F_q_same n [d, d] = .ok (.bl true, [])) : F_q_same (n + 1) [.tup ds, .tup ds] = .ok (.bl true, []) := by
  show defD _ _ (e_q_same (F_q_same n)) _ = _
  refine def_of rfl ?_
  unfold e_q_same
  have fz : frz (.tup ds) = .tup ds := frz_id (by show areFrz ds = true; exact hf)
  have i1 : isF1 ["list", "tuple"] (.tup ds) = some (.bl true) := rfl
  have i2 : isF1 ["list"] (.tup ds) = some (.bl false) := rfl
  have i3 : isF1 ["tuple"] (.tup ds) = some (.bl true) := rfl
  have n1 : neF (.bl true) (.bl true) = some (.bl false) := rfl
  have n2 : neF (.bl false) (.bl false) = some (.bl false) := rfl
  have ld : items (.tup ds) = some ds := rfl
  simp (config := { maxSteps := 1000000 }) (disch := first | omega | assumption | (simp only [List.length_take, List.length_drop, List.length_append, List.length_cons, List.length_nil, List.length_map, List.length_reverse, List.length_range, List.length_replicate]; omega)) only [↓wp_sSeq, ↓WP0, WP1, List.getElem?_cons_zero, List.getElem?_cons_succ, Bool.false_and, List.singleton_append, List.cons_append, List.set_cons_zero, List.set_cons_succ, List.length_cons, List.length_nil, List.map_nil, List.append_nil, List.nil_append, frzs, frz, isFrz, areFrz, isFrzO, Bool.and_true, Bool.true_and, Bool.and_self, Bool.not_true, Bool.not_false, Bool.false_eq_true, and_self, true_and, and_true, eq_self, lim, Nat.zero_add, Nat.reduceAdd, Nat.reduceLeDiff, Int.reduceAdd, Int.reduceSub, Int.reduceMul, Int.reduceNeg, Int.reduceLT, Int.reduceLE, Int.reduceToNat, decide_true, decide_false, flatD, Int.toNat_natCast, Int.reduceBEq, Int.reduceEq, Nat.reduceBEq, beq_self_eq_true, i1, i2, i3, n1, n2, show lenF (.tup ds) = some (.int ds.length) from rfl, beq_self_eq_true, hf, frzs_id hf, ld, zipL_self, List.length_map]
  refine map_wp (f := fun d => D.tup [d, d]) (r := fun _ => some (.bl true)) (xs := ds) (fun d hd => ?_) ?_
  · have fd : isFrz d = true := by
      have : ∀ (l : List D), areFrz l = true → d ∈ l → isFrz d = true := by
        intro l
        induction l with
        | nil => intro _ h; cases h
        | cons a l ih =>
          intro h1 h2
          simp only [areFrz, Bool.and_eq_true] at h1
          rcases List.mem_cons.mp h2 with rfl | h2
          · exact h1.1
          · exact ih h1.2 h2
      exact this ds hf hd
    simp (config := { maxSteps := 1000000 }) (disch := first | omega | assumption | (simp only [List.length_take, List.length_drop, List.length_append, List.length_cons, List.length_nil, List.length_map, List.length_reverse, List.length_range, List.length_replicate]; omega)) only [↓wp_sSeq, ↓WP0, WP1, List.getElem?_cons_zero, List.getElem?_cons_succ, Bool.false_and, List.singleton_append, List.cons_append, List.set_cons_zero, List.set_cons_succ, List.length_cons, List.length_nil, List.map_nil, List.append_nil, List.nil_append, frzs, frz, isFrz, areFrz, isFrzO, Bool.and_true, Bool.true_and, Bool.and_self, Bool.not_true, Bool.not_false, Bool.false_eq_true, and_self, true_and, and_true, eq_self, lim, Nat.zero_add, Nat.reduceAdd, Nat.reduceLeDiff, Int.reduceAdd, Int.reduceSub, Int.reduceMul, Int.reduceNeg, Int.reduceLT, Int.reduceLE, Int.reduceToNat, decide_true, decide_false, flatD, Int.toNat_natCast, Int.reduceBEq, Int.reduceEq, Nat.reduceBEq, beq_self_eq_true, fd, h d hd]
  · rw [show (fun _ : D => some (D.bl true)) = some ∘ fun _ => D.bl true from rfl, List.filterMap_eq_map]
    have al : allF (.lst true (ds.map fun _ => D.bl true)) = some (.bl true) := by
      show (asBls _).map _ = _
      rw [asBls_true]
      have : (ds.map fun _ => true).all id = true := by rw [List.all_eq_true]; intro b hb; obtain ⟨_, _, rfl⟩ := List.mem_map.mp hb; rfl
      show some (D.bl _) = _
      rw [this]
    simp (config := { maxSteps := 1000000 }) (disch := first | omega | assumption | (simp only [List.length_take, List.length_drop, List.length_append, List.length_cons, List.length_nil, List.length_map, List.length_reverse, List.length_range, List.length_replicate]; omega)) only [↓wp_sSeq, ↓WP0, WP1, List.getElem?_cons_zero, List.getElem?_cons_succ, Bool.false_and, List.singleton_append, List.cons_append, List.set_cons_zero, List.set_cons_succ, List.length_cons, List.length_nil, List.map_nil, List.append_nil, List.nil_append, frzs, frz, isFrz, areFrz, isFrzO, Bool.and_true, Bool.true_and, Bool.and_self, Bool.not_true, Bool.not_false, Bool.false_eq_true, and_self, true_and, and_true, eq_self, lim, Nat.zero_add, Nat.reduceAdd, Nat.reduceLeDiff, Int.reduceAdd, Int.reduceSub, Int.reduceMul, Int.reduceNeg, Int.reduceLT, Int.reduceLE, Int.reduceToNat, decide_true, decide_false, flatD, Int.toNat_natCast, Int.reduceBEq, Int.reduceEq, Nat.reduceBEq, beq_self_eq_true, al]
theorem zipL_map {α : Type} (g h : α → D) (l : List α) : zipL (l.map g) (l.map h) = l.map fun r => .tup [g r, h r] := by
  induction l with
  | nil => rfl
  | cons a l ih => show D.tup _ :: zipL _ _ = _; rw [ih]; rfl
theorem all_true {α : Type} (l : List α) : allF (.lst true (l.filterMap fun _ => some (D.bl true))) = some (.bl true) := by
  rw [show (fun _ : α => some (D.bl true)) = some ∘ fun _ => D.bl true from rfl, List.filterMap_eq_map]
  show (asBls _).map _ = _
  have : asBls (l.map fun _ => D.bl true) = some (l.map fun _ => true) := by
    induction l with
    | nil => rfl
    | cons d ds ih => show (asBls _).map _ = _; rw [ih]; rfl
  rw [this]
  have : (l.map fun _ => true).all id = true := by rw [List.all_eq_true]; intro b hb; obtain ⟨_, _, rfl⟩ := List.mem_map.mp hb; rfl
  show some (D.bl _) = _
  rw [this]
end Tw.Lw
namespace Tw.Lw
open PySem PySem.Spec L2
/-! ### the same in kinds by draws -/
theorem frz_mem {ds : List D} (h : areFrz ds = true) {x : D} (hx : x ∈ ds) : isFrz x = true := by
  induction ds with
  | nil => cases hx
  | cons a l ih =>
    simp only [areFrz, Bool.and_eq_true] at h
    rcases List.mem_cons.mp hx with rfl | hx
    · exact h.1
    · exact ih h.2 hx
theorem frz_all {ds : List D} (h : ∀ x ∈ ds, isFrz x = true) : areFrz ds = true := by
  induction ds with
  | nil => rfl
  | cons a l ih =>
    simp only [areFrz, Bool.and_eq_true]
    exact ⟨h a List.mem_cons_self, ih fun x hx => h x (List.mem_cons_of_mem _ hx)⟩
/-- a list or a tuple of such things, frozen -/
def SqD (y : D) (es : List D) : Prop := y = .nd false .lst es ∨ y = .tup es
theorem SqD.frz {y : D} {es : List D} (h : SqD y es) (f : areFrz es = true) : isFrz y = true := by rcases h with rfl | rfl <;> exact f
theorem SqD.items {y : D} {es : List D} (h : SqD y es) : items y = some es := by rcases h with rfl | rfl <;> rfl
theorem SqD.len {y : D} {es : List D} (h : SqD y es) : lenF y = some (.int (es.length : Nat)) := by rcases h with rfl | rfl <;> rfl
theorem SqD.isq {y : D} {es : List D} (h : SqD y es) : isF1 ["list", "tuple"] y = some (.bl true) := by rcases h with rfl | rfl <;> rfl
def Fa (R : D → D → Prop) (es ys : List D) : Prop := ys.length = es.length ∧ ∀ (i : Nat) (e y : D), es[i]? = some e → ys[i]? = some y → R e y
theorem fa_eq {es ys : List D} (h : Fa (fun e y => y = e) es ys) : ys = es := by
  apply List.ext_getElem?
  intro i
  by_cases hi : i < es.length
  · have hi2 : i < ys.length := by rw [h.1]; exact hi
    rw [List.getElem?_eq_getElem hi, List.getElem?_eq_getElem hi2]
    exact congrArg some (h.2 i _ _ (List.getElem?_eq_getElem hi) (List.getElem?_eq_getElem hi2))
  · rw [List.getElem?_eq_none (l := ys) (by rw [h.1]; omega), List.getElem?_eq_none (l := es) (by omega)]
end Tw.Lw
namespace Tw.Lw
open PySem PySem.Spec L2
/-! ### plain frozen data, at most n deep -/
def pl : Nat → D → Bool
  | 0, _ => false
  | n + 1, d => match d with
    | .non => true
    | .bl _ => true
    | .int _ => true
    | .str l => l.all (· < 0x110000)
    | .tup ds => decide (ds.length ≤ 1000000) && ds.all (pl n)
    | .nd false .lst ds => decide (ds.length ≤ 1000000) && ds.all (pl n)
    | _ => false
theorem pl_mono : ∀ {n m : Nat} {d : D}, pl n d = true → n ≤ m → pl m d = true
  | 0, _, _, h, _ => by cases h
  | n + 1, 0, _, _, h => by omega
  | n + 1, m + 1, d, h, l => by
    have ih : ∀ ds : List D, ds.all (pl n) = true → ds.all (pl m) = true := fun ds hd => List.all_eq_true.mpr fun x hx => pl_mono (List.all_eq_true.mp hd x hx) (by omega)
    cases d with
    | tup ds =>
      have h : (decide (ds.length ≤ 1000000) && ds.all (pl n)) = true := h
      show (decide (ds.length ≤ 1000000) && ds.all (pl m)) = true
      rw [Bool.and_eq_true] at h ⊢
      exact ⟨h.1, ih ds h.2⟩
    | nd b k ds =>
      cases b with
      | true => cases h
      | false =>
        cases k with
        | lst =>
          have h : (decide (ds.length ≤ 1000000) && ds.all (pl n)) = true := h
          show (decide (ds.length ≤ 1000000) && ds.all (pl m)) = true
          rw [Bool.and_eq_true] at h ⊢
          exact ⟨h.1, ih ds h.2⟩
        | _ => cases h
    | non => rfl
    | bl _ => rfl
    | int _ => rfl
    | str l => exact h
    | glb _ => cases h
theorem pl_tup {n : Nat} {ds : List D} (hl : ds.length ≤ 1000000) (h : ∀ d ∈ ds, pl n d = true) : pl (n + 1) (.tup ds) = true := by
  show (decide (ds.length ≤ 1000000) && ds.all (pl n)) = true
  rw [Bool.and_eq_true]
  exact ⟨decide_eq_true hl, List.all_eq_true.mpr h⟩
theorem pl_lst {n : Nat} {ds : List D} (hl : ds.length ≤ 1000000) (h : ∀ d ∈ ds, pl n d = true) : pl (n + 1) (.nd false .lst ds) = true := by
  show (decide (ds.length ≤ 1000000) && ds.all (pl n)) = true
  rw [Bool.and_eq_true]
  exact ⟨decide_eq_true hl, List.all_eq_true.mpr h⟩
theorem pl_sq {n : Nat} {y : D} {ds : List D} (hy : y = .nd false .lst ds ∨ y = .tup ds) (hl : ds.length ≤ 1000000) (h : ∀ d ∈ ds, pl n d = true) : pl (n + 1) y = true := by
  rcases hy with rfl | rfl
  · exact pl_lst hl h
  · exact pl_tup hl h
/-- what it is -/
theorem pl_cases {n : Nat} {d : D} (h : pl (n + 1) d = true) : d = .non ∨ (∃ b, d = .bl b) ∨ (∃ i, d = .int i) ∨ (∃ l, d = .str l ∧ l.all (· < 0x110000) = true) ∨ ∃ ds, (d = .tup ds ∨ d = .nd false .lst ds) ∧ ds.length ≤ 1000000 ∧ ∀ x ∈ ds, pl n x = true := by
  have two : ∀ ds : List D, (decide (ds.length ≤ 1000000) && ds.all (pl n)) = true → ds.length ≤ 1000000 ∧ ∀ x ∈ ds, pl n x = true := fun ds h => by
    rw [Bool.and_eq_true] at h
    exact ⟨of_decide_eq_true h.1, List.all_eq_true.mp h.2⟩
  cases d with
  | non => exact .inl rfl
  | bl b => exact .inr (.inl ⟨b, rfl⟩)
  | int i => exact .inr (.inr (.inl ⟨i, rfl⟩))
  | str l => exact .inr (.inr (.inr (.inl ⟨l, rfl, h⟩)))
  | tup ds => exact .inr (.inr (.inr (.inr ⟨ds, .inl rfl, two ds h⟩)))
  | glb _ => cases h
  | nd b k ds =>
    cases b with
    | true => cases h
    | false =>
      cases k with
      | lst => exact .inr (.inr (.inr (.inr ⟨ds, .inr rfl, two ds h⟩)))
      | _ => cases h
theorem pl_frz : ∀ {n : Nat} {d : D}, pl n d = true → isFrz d = true
  | 0, _, h => by cases h
  | n + 1, d, h => by
    rcases pl_cases h with rfl | ⟨b, rfl⟩ | ⟨i, rfl⟩ | ⟨l, rfl, _⟩ | ⟨ds, rfl | rfl, _, hd⟩
    · rfl
    · rfl
    · rfl
    · rfl
    · show areFrz ds = true
      exact frz_all fun x hx => pl_frz (hd x hx)
    · show (!false && areFrz ds) = true
      rw [frz_all fun x hx => pl_frz (hd x hx)]; rfl
theorem pls_frz {n : Nat} {ds : List D} (h : ∀ d ∈ ds, pl n d = true) : areFrz ds = true := frz_all fun x hx => pl_frz (h x hx)
theorem same_pl : ∀ {n : Nat} {d : D}, pl n d = true → F_q_same n [d, d] = .ok (.bl true, [])
  | 0, _, h => by cases h
  | n + 1, d, h => by
    rcases pl_cases h with rfl | ⟨b, rfl⟩ | ⟨i, rfl⟩ | ⟨l, rfl, _⟩ | ⟨ds, rfl | rfl, hl, hd⟩
    · rfl
    · exact same_bl n b
    · exact same_int n i
    · exact same_str n l
    · exact same_tup n ds (pls_frz hd) hl fun x hx => same_pl (hd x hx)
    · exact same_lst n ds (pls_frz hd) hl fun x hx => same_pl (hd x hx)
theorem okD_str (n : Nat) (l : List Nat) : okD n (.str l) = l.all (· < 0x110000) := by cases n <;> rfl
theorem okD_scal (n : Nat) (i : Int) : okD n (.int i) = true := by cases n <;> rfl
theorem okD_bl (n : Nat) (b : Bool) : okD n (.bl b) = true := by cases n <;> rfl
theorem okD_non (n : Nat) : okD n .non = true := by cases n <;> rfl
theorem okDs_all {n : Nat} : ∀ {ds : List D}, (∀ d ∈ ds, okD n d = true) → okDs n ds = true
  | [], _ => by cases n <;> rfl
  | d :: ds, h => by
    have h2 := okDs_all fun x hx => h x (List.mem_cons_of_mem _ hx)
    cases n <;> (show (okD _ d && okDs _ ds) = true; rw [h d List.mem_cons_self, h2]; rfl)
theorem pl_okD : ∀ {n m : Nat} {d : D}, pl n d = true → n ≤ m → okD m d = true
  | 0, _, _, h, _ => by cases h
  | n + 1, 0, _, _, h => by omega
  | n + 1, m + 1, d, h, l => by
    rcases pl_cases h with rfl | ⟨b, rfl⟩ | ⟨i, rfl⟩ | ⟨s, rfl, hs⟩ | ⟨ds, rfl | rfl, hl, hd⟩
    · rfl
    · rfl
    · rfl
    · exact hs
    · show okDs m ds = true
      exact okDs_all fun x hx => pl_okD (hd x hx) (by omega)
    · show okDs m ds = true
      exact okDs_all fun x hx => pl_okD (hd x hx) (by omega)
theorem eqvDs_self {ds : List D} (h : ∀ d ∈ ds, eqvD d d = true) : eqvDs ds ds = true := by
  induction ds with
  | nil => rfl
  | cons d ds ih =>
    show (eqvD d d && eqvDs ds ds) = true
    rw [h d List.mem_cons_self, ih fun x hx => h x (List.mem_cons_of_mem _ hx)]; rfl
theorem pl_eqv : ∀ {n : Nat} {d : D}, pl n d = true → eqvD d d = true
  | 0, _, h => by cases h
  | n + 1, d, h => by
    rcases pl_cases h with rfl | ⟨b, rfl⟩ | ⟨i, rfl⟩ | ⟨s, rfl, hs⟩ | ⟨ds, rfl | rfl, hl, hd⟩
    · rfl
    · exact beq_self_eq_true b
    · exact beq_self_eq_true i
    · exact beq_self_eq_true s
    · exact eqvDs_self fun x hx => pl_eqv (hd x hx)
    · exact eqvDs_self fun x hx => pl_eqv (hd x hx)
theorem eqF_ok {x y : D} (hx : okD 64 x = true) (hy : okD 64 y = true) : eqF x y = some (.bl (eqvD x y)) := by
  unfold eqF
  split
  · rfl
  · rfl
  · rfl
  · rw [if_pos ⟨hx, hy⟩]
theorem neF_ok {x y : D} (hx : okD 64 x = true) (hy : okD 64 y = true) : neF x y = some (.bl (!eqvD x y)) := by
  unfold neF
  split
  · rfl
  · rfl
  · rfl
  · rw [if_pos ⟨hx, hy⟩]
theorem eq_pl {n : Nat} {d : D} (h : pl n d = true) (hn : n ≤ 64) : eqF d d = some (.bl true) := by
  rw [eqF_ok (pl_okD h hn) (pl_okD h hn), pl_eqv h]
theorem ne_pl {n : Nat} {d : D} (h : pl n d = true) (hn : n ≤ 64) : neF d d = some (.bl false) := by
  rw [neF_ok (pl_okD h hn) (pl_okD h hn), pl_eqv h]; rfl
/-! with flags on the lists -/
theorem eqvD_frzl : ∀ (x y : D), eqvD (frz x) y = eqvD x y := by
  suffices h : ∀ n : Nat, ∀ x y : D, sizeOf x ≤ n → eqvD (frz x) y = eqvD x y from fun x y => h (sizeOf x) x y (Nat.le_refl _)
  intro n
  induction n with
  | zero =>
    intro x y h
    cases x <;> simp at h
  | succ n ih =>
    intro x y h
    have two : ∀ xs : List D, sizeOf xs ≤ n → ∀ ys, eqvDs (frzs xs) ys = eqvDs xs ys := by
      intro xs
      induction xs with
      | nil => intro _ ys; rfl
      | cons a xs ih2 =>
        intro hs ys
        simp at hs
        cases ys with
        | nil => rfl
        | cons b ys =>
          show (eqvD (frz a) b && eqvDs (frzs xs) ys) = (eqvD a b && eqvDs xs ys)
          rw [ih a b (by omega), ih2 (by omega)]
    cases x with
    | tup xs =>
      simp at h
      cases y <;> first | rfl | exact two xs (by omega) _
    | nd b k xs =>
      simp at h
      cases k <;> cases y <;> first | rfl | (rename_i c k ys; cases k <;> first | rfl | exact two xs (by omega) _)
    | _ => rfl
theorem okDs_frz {n : Nat} {ds : List D} (h : ∀ d ∈ ds, okD n (frz d) = okD n d) : okDs n (frzs ds) = okDs n ds := by
  induction ds with
  | nil => rfl
  | cons d ds ih =>
    have h1 := h d List.mem_cons_self
    have h2 := ih fun x hx => h x (List.mem_cons_of_mem _ hx)
    cases n <;> (show (okD _ (frz d) && okDs _ (frzs ds)) = (okD _ d && okDs _ ds); rw [h1, h2])
theorem okD_frz : ∀ (n : Nat) (d : D), okD n (frz d) = okD n d
  | 0, d => by cases d <;> first | rfl | (rename_i b k ds; cases k <;> rfl)
  | n + 1, d => by
    cases d with
    | tup ds => exact okDs_frz fun x _ => okD_frz n x
    | nd b k ds => cases k <;> first | rfl | exact okDs_frz fun x _ => okD_frz n x
    | _ => rfl
end Tw.Lw
namespace Tw.Lw
open PySem PySem.Spec L2
/-! ### rows as one text -/
def mkE : List Nat := [92, 32, 78, 111, 32, 110, 101, 119, 108, 105, 110, 101, 32, 97, 116, 32, 101, 110, 100, 32, 111, 102, 32, 102, 105, 108, 101, 10]
def sD (l : List (List Nat)) : List D := l.map .str
theorem sD_frz (l : List (List Nat)) : areFrz (sD l) = true := by
  unfold sD
  induction l with
  | nil => rfl
  | cons a l ih => exact ih
theorem sD_len (l : List (List Nat)) : (sD l).length = l.length := List.length_map ..
theorem getS_0 {c : Nat} {w : List Nat} (h : (c :: w).length ≤ 1000000) : getIx (.str (c :: w)) (.int 0) = some (.str [c]) := by
  show (if (c :: w).length ≤ lim then (L2.atI (c :: w) 0).map fun c => D.str [c] else none) = _
  rw [if_pos (show (c :: w).length ≤ lim from h)]
  have : L2.atI (c :: w) 0 = some c := by unfold L2.atI L2.ixN; simp
  rw [this]; rfl
theorem getS_l {c : Nat} {w : List Nat} (h : (w ++ [c]).length ≤ 1000000) : getIx (.str (w ++ [c])) (.int (-1)) = some (.str [c]) := by
  show (if (w ++ [c]).length ≤ lim then (L2.atI (w ++ [c]) (-1)).map fun c => D.str [c] else none) = _
  rw [if_pos (show (w ++ [c]).length ≤ lim from h), atI_last (n := w.length) (by simp), List.getElem?_concat_length]; rfl
/-- a line that is a row -/
structure GoodW (w : List Nat) : Prop where
  isl : F_is_line [.str w] = .ok (.bl true, [])
  hd : ∃ c v, w = c :: v ∧ c ≠ 92
  lt : ∃ v c, w = v ++ [c]
  len : w.length ≤ 100
def enc (w : List Nat) : List Nat := if w.getLast? = some 10 then w else w ++ [10] ++ mkE
def txt (rows : List (List Nat)) : List Nat := rows.flatMap enc
theorem enc_len {w : List Nat} (h : w.length ≤ 100) : (enc w).length ≤ 130 := by
  unfold enc
  split
  · omega
  · simp only [List.length_append, show mkE.length = 28 from rfl, List.length_singleton]; omega
theorem txt_len : ∀ {rows : List (List Nat)}, (∀ w ∈ rows, w.length ≤ 100) → (txt rows).length ≤ 130 * rows.length
  | [], _ => Nat.zero_le _
  | w :: rows, h => by
    have h1 := enc_len (h w List.mem_cons_self)
    have h2 := txt_len fun x hx => h x (List.mem_cons_of_mem _ hx)
    show (enc w ++ txt rows).length ≤ _
    rw [List.length_append, List.length_cons]; omega
theorem txt_snoc (rows : List (List Nat)) (w : List Nat) : txt (rows ++ [w]) = txt rows ++ enc w := by unfold txt; rw [List.flatMap_append, List.flatMap_singleton]
theorem ipS {x y : List Nat} (h : x.length + y.length ≤ 1000000) : ipSF (.str x) (.str y) = some (.str (x ++ y)) := if_pos h
/-- what is no row -/
def BadD (b : D) : Prop := F_is_line [b] = .ok (.bl false, []) ∨ F_is_line [b] = .ok (.bl true, []) ∧ getIx b (.int 0) = some (.str [92])
theorem frozen_i (i : Int) : F_frozen 6 [.int i] = .ok (.int i, []) := rfl
theorem text_wp {rows : List (List Nat)} {rest : List D} {y : D} {Q : D × List D → Prop} {E : XQ (List D)} {t : Tag Q} {u : Tag E} (hy : SqD y (sD rows ++ rest)) (hf : areFrz rest = true) (hl : rows.length ≤ 100) (hg : ∀ w ∈ rows, GoodW w) (hb : ∀ b r, rest = b :: r → BadD b)
    (hk : rest = [] → Q (.str (txt rows), [])) (he : ∀ b r, rest = b :: r → E c_BadRow [.str [110, 117, 109, 98, 101, 114], .int (rows.length : Nat)] []) : Wp (F_text_of_rows [y]) Q E t u := by
  have fs : areFrz (sD rows ++ rest) = true := frz_all fun x hx => by
    rcases List.mem_append.mp hx with h | h
    · exact frz_mem (sD_frz rows) h
    · exact frz_mem hf h
  have fy := hy.frz fs
  unfold F_text_of_rows
  rw [wp_defD]
  simp only [ini_s, ini_nil, ini_0]
  unfold e_text_of_rows
  simp (config := { maxSteps := 1000000 }) (disch := first | omega | assumption | (simp only [List.length_take, List.length_drop, List.length_append, List.length_cons, List.length_nil, List.length_map, List.length_reverse, List.length_range, List.length_replicate]; omega)) only [↓wp_sSeq, ↓WP0, WP1, List.getElem?_cons_zero, List.getElem?_cons_succ, Bool.false_and, List.singleton_append, List.cons_append, List.set_cons_zero, List.set_cons_succ, List.length_cons, List.length_nil, List.map_nil, List.append_nil, List.nil_append, frzs, frz, isFrz, areFrz, isFrzO, Bool.and_true, Bool.true_and, Bool.and_self, Bool.not_true, Bool.not_false, Bool.false_eq_true, and_self, true_and, and_true, eq_self, lim, Nat.zero_add, Nat.reduceAdd, Nat.reduceLeDiff, Int.reduceAdd, Int.reduceSub, Int.reduceMul, Int.reduceNeg, Int.reduceLT, Int.reduceLE, Int.reduceToNat, decide_true, decide_false, flatD, Int.toNat_natCast, Int.reduceBEq, Int.reduceEq, Nat.reduceBEq, beq_self_eq_true, frz_id fy, hy.items]
  refine for_wp (fun j ρ => ∃ y2 y3, ρ = [some y, some (.str (txt (rows.take j))), y2, y3] ∧ j ≤ rows.length) ⟨_, _, rfl, Nat.zero_le _⟩ ?_ ?_
  · rintro j x ρ hj ⟨y2, y3, rfl, hj1⟩
    rw [enuL_get] at hj
    obtain ⟨e, hje, rfl⟩ := Option.map_eq_some_iff.mp hj
    clear hj
    show Op (wTup 2 _ (D.tup [.int ((0 + j : Nat) : Int), e]) _) _ _
    rw [Nat.zero_add]
    have fe : isFrz e = true := frz_mem fs (List.mem_of_getElem? hje)
    by_cases hlt : j < rows.length
    · rw [List.getElem?_append_left (by rw [sD_len]; exact hlt)] at hje
      have : e = .str rows[j] := by
        unfold sD at hje
        rw [List.getElem?_map, List.getElem?_eq_getElem hlt] at hje
        exact (Option.some.inj hje).symm
      subst this
      have hw := hg rows[j] (List.getElem_mem _)
      have et := txt_snoc (rows.take j) rows[j]
      rw [← List.take_succ_eq_append_getElem hlt] at et
      have lt1 : (txt (rows.take j)).length ≤ 130 * 100 := by
        have := txt_len (rows := rows.take j) fun w hw => (hg w (List.mem_of_mem_take hw)).len
        rw [List.length_take] at this; omega
      rw [et]
      generalize rows[j] = w at *
      obtain ⟨isl, ⟨c, v, ew, hc⟩, ⟨v', c', ew'⟩, hlen⟩ := hw
      have g0 : getIx (.str w) (.int 0) = some (.str [c]) := by rw [ew]; exact getS_0 (by rw [← ew]; omega)
      have g1 : getIx (.str w) (.int (-1)) = some (.str [c']) := by rw [ew']; exact getS_l (by rw [← ew']; omega)
      have e0 : eqF (.str [c]) (.str [92]) = some (.bl false) := by rw [eqF_str, beq_eq_false_iff_ne.mpr (by simpa using hc)]
      have en : w.getLast? = some c' := by rw [ew']; simp
      simp (config := { maxSteps := 1000000 }) (disch := first | omega | assumption | (simp only [List.length_take, List.length_drop, List.length_append, List.length_cons, List.length_nil, List.length_map, List.length_reverse, List.length_range, List.length_replicate]; omega)) only [↓wp_sSeq, ↓WP0, WP1, List.getElem?_cons_zero, List.getElem?_cons_succ, Bool.false_and, List.singleton_append, List.cons_append, List.set_cons_zero, List.set_cons_succ, List.length_cons, List.length_nil, List.map_nil, List.append_nil, List.nil_append, frzs, frz, isFrz, areFrz, isFrzO, Bool.and_true, Bool.true_and, Bool.and_self, Bool.not_true, Bool.not_false, Bool.false_eq_true, and_self, true_and, and_true, eq_self, lim, Nat.zero_add, Nat.reduceAdd, Nat.reduceLeDiff, Int.reduceAdd, Int.reduceSub, Int.reduceMul, Int.reduceNeg, Int.reduceLT, Int.reduceLE, Int.reduceToNat, decide_true, decide_false, flatD, Int.toNat_natCast, Int.reduceBEq, Int.reduceEq, Nat.reduceBEq, beq_self_eq_true, isl, g0, e0, g1, eqF_str]
      refine br_split (fun h10 => ?_) fun h10 => ?_
      · have : c' = 10 := by simpa using h10
        have ee : enc w = w := by unfold enc; rw [if_pos (by rw [en, this])]
        rw [ee]
        simp (config := { maxSteps := 1000000 }) (disch := first | omega | assumption | (simp only [List.length_take, List.length_drop, List.length_append, List.length_cons, List.length_nil, List.length_map, List.length_reverse, List.length_range, List.length_replicate]; omega)) only [↓wp_sSeq, ↓WP0, WP1, List.getElem?_cons_zero, List.getElem?_cons_succ, Bool.false_and, List.singleton_append, List.cons_append, List.set_cons_zero, List.set_cons_succ, List.length_cons, List.length_nil, List.map_nil, List.append_nil, List.nil_append, frzs, frz, isFrz, areFrz, isFrzO, Bool.and_true, Bool.true_and, Bool.and_self, Bool.not_true, Bool.not_false, Bool.false_eq_true, and_self, true_and, and_true, eq_self, lim, Nat.zero_add, Nat.reduceAdd, Nat.reduceLeDiff, Int.reduceAdd, Int.reduceSub, Int.reduceMul, Int.reduceNeg, Int.reduceLT, Int.reduceLE, Int.reduceToNat, decide_true, decide_false, flatD, Int.toNat_natCast, Int.reduceBEq, Int.reduceEq, Nat.reduceBEq, beq_self_eq_true, ipS]
        exact ⟨_, _, rfl, hlt⟩
      · have : c' ≠ 10 := by simpa using h10
        have a1 : addF (.str w) (.str [10]) = some (.str (w ++ [10])) := addS (by simp; omega)
        have a2 : addF (.str (w ++ [10])) (.str mkE) = some (.str (w ++ [10] ++ mkE)) := addS (by rw [List.length_append, show mkE.length = 28 from rfl]; simp; omega)
        have lm : (w ++ [10] ++ mkE).length ≤ 200 := by rw [List.length_append, List.length_append, show mkE.length = 28 from rfl]; simp; omega
        rw [show [92, 32, 78, 111, 32, 110, 101, 119, 108, 105, 110, 101, 32, 97, 116, 32, 101, 110, 100, 32, 111, 102, 32, 102, 105, 108, 101, 10] = mkE from rfl]
        have ee : enc w = w ++ [10] ++ mkE := by unfold enc; rw [if_neg (by rw [en]; simpa using this)]
        rw [ee]
        simp (config := { maxSteps := 1000000 }) (disch := first | omega | assumption | (simp only [List.length_take, List.length_drop, List.length_append, List.length_cons, List.length_nil, List.length_map, List.length_reverse, List.length_range, List.length_replicate]; omega)) only [↓wp_sSeq, ↓WP0, WP1, List.getElem?_cons_zero, List.getElem?_cons_succ, Bool.false_and, List.singleton_append, List.cons_append, List.set_cons_zero, List.set_cons_succ, List.length_cons, List.length_nil, List.map_nil, List.append_nil, List.nil_append, frzs, frz, isFrz, areFrz, isFrzO, Bool.and_true, Bool.true_and, Bool.and_self, Bool.not_true, Bool.not_false, Bool.false_eq_true, and_self, true_and, and_true, eq_self, lim, Nat.zero_add, Nat.reduceAdd, Nat.reduceLeDiff, Int.reduceAdd, Int.reduceSub, Int.reduceMul, Int.reduceNeg, Int.reduceLT, Int.reduceLE, Int.reduceToNat, decide_true, decide_false, flatD, Int.toNat_natCast, Int.reduceBEq, Int.reduceEq, Nat.reduceBEq, beq_self_eq_true, a1, a2, ipS]
        exact ⟨_, _, rfl, hlt⟩
    · have hj0 : j = rows.length := by omega
      subst hj0
      rw [List.getElem?_append_right (by rw [sD_len]; omega), sD_len, Nat.sub_self] at hje
      obtain ⟨r, hr⟩ : ∃ r, rest = e :: r := by
        cases rest with
        | nil => cases hje
        | cons b r => cases hje; exact ⟨r, rfl⟩
      rcases hb e r hr with h | ⟨h, h2⟩
      · simp (config := { maxSteps := 1000000 }) (disch := first | omega | assumption | (simp only [List.length_take, List.length_drop, List.length_append, List.length_cons, List.length_nil, List.length_map, List.length_reverse, List.length_range, List.length_replicate]; omega)) only [↓wp_sSeq, ↓WP0, WP1, List.getElem?_cons_zero, List.getElem?_cons_succ, Bool.false_and, List.singleton_append, List.cons_append, List.set_cons_zero, List.set_cons_succ, List.length_cons, List.length_nil, List.map_nil, List.append_nil, List.nil_append, frzs, frz, isFrz, areFrz, isFrzO, Bool.and_true, Bool.true_and, Bool.and_self, Bool.not_true, Bool.not_false, Bool.false_eq_true, and_self, true_and, and_true, eq_self, lim, Nat.zero_add, Nat.reduceAdd, Nat.reduceLeDiff, Int.reduceAdd, Int.reduceSub, Int.reduceMul, Int.reduceNeg, Int.reduceLT, Int.reduceLE, Int.reduceToNat, decide_true, decide_false, flatD, Int.toNat_natCast, Int.reduceBEq, Int.reduceEq, Nat.reduceBEq, beq_self_eq_true, fe, frz_id fe, h, frozen_i]
        exact he e r hr
      · have e0 : eqF (.str [92]) (.str [92]) = some (.bl true) := rfl
        simp (config := { maxSteps := 1000000 }) (disch := first | omega | assumption | (simp only [List.length_take, List.length_drop, List.length_append, List.length_cons, List.length_nil, List.length_map, List.length_reverse, List.length_range, List.length_replicate]; omega)) only [↓wp_sSeq, ↓WP0, WP1, List.getElem?_cons_zero, List.getElem?_cons_succ, Bool.false_and, List.singleton_append, List.cons_append, List.set_cons_zero, List.set_cons_succ, List.length_cons, List.length_nil, List.map_nil, List.append_nil, List.nil_append, frzs, frz, isFrz, areFrz, isFrzO, Bool.and_true, Bool.true_and, Bool.and_self, Bool.not_true, Bool.not_false, Bool.false_eq_true, and_self, true_and, and_true, eq_self, lim, Nat.zero_add, Nat.reduceAdd, Nat.reduceLeDiff, Int.reduceAdd, Int.reduceSub, Int.reduceMul, Int.reduceNeg, Int.reduceLT, Int.reduceLE, Int.reduceToNat, decide_true, decide_false, flatD, Int.toNat_natCast, Int.reduceBEq, Int.reduceEq, Nat.reduceBEq, beq_self_eq_true, fe, frz_id fe, h, h2, e0, frozen_i]
        exact he e r hr
  · rintro ρ ⟨y2, y3, rfl, hj1⟩
    rw [enuL_len, List.length_append, sD_len] at hj1 ⊢
    have : rest = [] := List.length_eq_zero_iff.mp (by omega)
    simp (config := { maxSteps := 1000000 }) (disch := first | omega | assumption | (simp only [List.length_take, List.length_drop, List.length_append, List.length_cons, List.length_nil, List.length_map, List.length_reverse, List.length_range, List.length_replicate]; omega)) only [↓wp_sSeq, ↓WP0, WP1, List.getElem?_cons_zero, List.getElem?_cons_succ, Bool.false_and, List.singleton_append, List.cons_append, List.set_cons_zero, List.set_cons_succ, List.length_cons, List.length_nil, List.map_nil, List.append_nil, List.nil_append, frzs, frz, isFrz, areFrz, isFrzO, Bool.and_true, Bool.true_and, Bool.and_self, Bool.not_true, Bool.not_false, Bool.false_eq_true, and_self, true_and, and_true, eq_self, lim, Nat.zero_add, Nat.reduceAdd, Nat.reduceLeDiff, Int.reduceAdd, Int.reduceSub, Int.reduceMul, Int.reduceNeg, Int.reduceLT, Int.reduceLE, Int.reduceToNat, decide_true, decide_false, flatD, Int.toNat_natCast, Int.reduceBEq, Int.reduceEq, Nat.reduceBEq, beq_self_eq_true, wp_ok]
    rw [List.take_of_length_le (by omega)]
    exact hk this
/-! ### a text cut into rows -/
def dropN (w : List Nat) : List Nat := w.take (w.length - 1)
theorem dropN_snoc (v : List Nat) (c : Nat) : dropN (v ++ [c]) = v := by unfold dropN; simp
theorem cutD {α : Type} (l : List α) : cut l none (some (-1)) = l.take (l.length - 1) := by
  have : cut l none (some (-1)) = (l.drop 0).take ((-1 + (l.length : Int)).toNat - 0) := rfl
  rw [this, List.drop_zero, Nat.sub_zero]
  congr 1
  omega
theorem slD {w : List Nat} (h : w.length ≤ 1000000) : slF (.str w) none (some (-1)) = some (.str (dropN w)) := by rw [slS h, cutD]; rfl
theorem joinL_app : ∀ {ps : List (List Nat)} {last : List Nat}, TL.joinL [10] (ps ++ [last]) = (ps.flatMap fun p => p ++ [10]) ++ last
  | [], last => rfl
  | [p], last => by simp [TL.joinL]
  | p :: q :: ps, last => by
    have ih := joinL_app (ps := q :: ps) (last := last)
    show p ++ ([10] ++ TL.joinL [10] (q :: ps ++ [last])) = _
    rw [ih, List.flatMap_cons (x := p)]
    simp only [List.append_assoc]
theorem split_nl {ps : List (List Nat)} {last : List Nat} (hp : ∀ p ∈ ps, ¬ 10 ∈ p) (hl : ¬ 10 ∈ last) (hs : ((ps.flatMap fun p => p ++ [10]) ++ last).length ≤ 1000000) : splitF (.str ((ps.flatMap fun p => p ++ [10]) ++ last)) (.str [10]) = some (.lst true (sD (ps ++ [last]))) := by
  have e1 : TL.tl (mkS [10]) = [10] := rfl
  have h := TL.split_spl (mkS ((ps.flatMap fun p => p ++ [10]) ++ last)) (mkS [10]) (by rw [e1]; simp) (TL.kind_ok (by simp [mkS]))
  have e2 : TL.tl (mkS ((ps.flatMap fun p => p ++ [10]) ++ last)) = TL.joinL [10] (ps ++ [last]) := joinL_app.symm
  rw [e2, e1, TL.spl_join (by simp) fun p hp' => by
    rcases List.mem_append.mp hp' with h | h
    · exact hp p h
    · rw [List.mem_singleton.mp h]; exact hl] at h
  show (if _ then _ else _) = _
  rw [if_pos ⟨by simp, hs⟩]
  congr 2
  unfold sD
  rw [← h, List.map_map]
  rfl
def rst (s : List (List Nat) × List Nat) (p : List Nat) : List (List Nat) × List Nat :=
  if p.head? = some 92 then (s.1.dropLast ++ [dropN (s.1.getLastD [])], [10]) else (s.1 ++ [p], p)
def rbad (s : List (List Nat) × List Nat) (p : List Nat) : Bool := p.head? == some 92 && (p != mkE || s.2 == [10])
def rsts (P : List (List Nat)) : List (List Nat) × List Nat := P.foldl rst ([], [10])
theorem rsts_snoc (P : List (List Nat)) (p : List Nat) : rsts (P ++ [p]) = rst (rsts P) p := by unfold rsts; rw [List.foldl_append]; rfl
theorem sD_snoc (l : List (List Nat)) (w : List Nat) : sD (l ++ [w]) = sD l ++ [.str w] := by unfold sD; rw [List.map_append]; rfl
def piecesOf (ps : List (List Nat)) (last : List Nat) : List (List Nat) := ps.map (· ++ [10]) ++ (if last = [] then [] else [last])
theorem ixLast (ds : List D) (x : D) : L2.ixN (ds ++ [x]).length (-1) = some ds.length := by
  rw [List.length_append]
  unfold L2.ixN
  rw [if_neg (by omega)]
  simp only [List.length_singleton]
  rw [if_pos (by omega)]
  congr 1; omega
theorem getLast_s (b : Bool) (ds : List D) (x : D) : getIx (.nd b .lst (ds ++ [x])) (.int (-1)) = some x := by
  have : getIx (.nd b .lst (ds ++ [x])) (.int (-1)) = L2.atI (ds ++ [x]) (-1) := by cases b <;> rfl
  rw [this, atI_last (n := ds.length) (by simp), List.getElem?_concat_length]
theorem setLast_s (ds : List D) (x y : D) : (ds ++ [x]).set ds.length y = ds ++ [y] := by rw [List.set_append_right _ _ (Nat.le_refl _), Nat.sub_self]; rfl
theorem rows_wp {ps P : List (List Nat)} {last : List Nat} {Q : D × List D → Prop} {E : XQ (List D)} {t : Tag Q} {u : Tag E} (hp : ∀ p ∈ ps, ¬ 10 ∈ p) (hl : ¬ 10 ∈ last) (hn : ps.length ≤ 300) (hs : ∀ p ∈ ps, p.length ≤ 200) (hs2 : last.length ≤ 200) (eP : P = piecesOf ps last) (hch : ∀ p ∈ P, p.all (· < 0x110000) = true) (ht : ((ps.flatMap fun p => p ++ [10]) ++ last).length ≤ 1000000)
    (hk : last = [] → (∀ k (h : k < P.length), rbad (rsts (P.take k)) P[k] = false) → Q (.lst true (sD (rsts P).1), []))
    (he : ∀ k (h : k < P.length), rbad (rsts (P.take k)) P[k] = true → (∀ i (hi : i < k), rbad (rsts (P.take i)) P[i] = false) → E c_BadRow [.str [110, 117, 109, 98, 101, 114], .int (k : Nat)] [])
    (he2 : last ≠ [] → (∀ k (h : k < P.length), rbad (rsts (P.take k)) P[k] = false) → E c_BadRow [.str [110, 117, 109, 98, 101, 114], .int ((P.length : Int) - 1)] []) : Wp (F_rows_of_text [.str ((ps.flatMap fun p => p ++ [10]) ++ last)]) Q E t u := by
  have sp := split_nl hp hl ht
  generalize hT : (ps.flatMap fun p => p ++ [10]) ++ last = T at *
  unfold F_rows_of_text
  rw [wp_defD]
  simp only [ini_s, ini_nil, ini_0]
  unfold e_rows_of_text
  have f1 := sD_frz (ps ++ [last])
  have f1' := frzs_id f1
  have l1 := sD_len (ps ++ [last])
  rw [List.length_append, List.length_singleton] at l1
  simp (config := { maxSteps := 1000000 }) (disch := first | omega | assumption | (simp only [List.length_take, List.length_drop, List.length_append, List.length_cons, List.length_nil, List.length_map, List.length_reverse, List.length_range, List.length_replicate]; omega)) only [↓wp_sSeq, ↓WP0, WP1, List.getElem?_cons_zero, List.getElem?_cons_succ, Bool.false_and, List.singleton_append, List.cons_append, List.set_cons_zero, List.set_cons_succ, List.length_cons, List.length_nil, List.map_nil, List.append_nil, List.nil_append, frzs, frz, isFrz, areFrz, isFrzO, Bool.and_true, Bool.true_and, Bool.and_self, Bool.not_true, Bool.not_false, Bool.false_eq_true, and_self, true_and, and_true, eq_self, lim, Nat.zero_add, Nat.reduceAdd, Nat.reduceLeDiff, Int.reduceAdd, Int.reduceSub, Int.reduceMul, Int.reduceNeg, Int.reduceLT, Int.reduceLE, Int.reduceToNat, decide_true, decide_false, flatD, Int.toNat_natCast, Int.reduceBEq, Int.reduceEq, Nat.reduceBEq, beq_self_eq_true, sp, f1', items_lst]
  refine map_wp (f := D.str) (xs := ps ++ [last]) (r := fun p => some (D.str (p ++ [10]))) (fun p hp' => ?_) ?_
  · have : p.length ≤ 200 := by
      rcases List.mem_append.mp hp' with h | h
      · exact hs p h
      · rw [List.mem_singleton.mp h]; exact hs2
    have a1 : addF (.str p) (.str [10]) = some (.str (p ++ [10])) := addS (by simp; omega)
    simp (config := { maxSteps := 1000000 }) (disch := first | omega | assumption | (simp only [List.length_take, List.length_drop, List.length_append, List.length_cons, List.length_nil, List.length_map, List.length_reverse, List.length_range, List.length_replicate]; omega)) only [↓wp_sSeq, ↓WP0, WP1, List.getElem?_cons_zero, List.getElem?_cons_succ, Bool.false_and, List.singleton_append, List.cons_append, List.set_cons_zero, List.set_cons_succ, List.length_cons, List.length_nil, List.map_nil, List.append_nil, List.nil_append, frzs, frz, isFrz, areFrz, isFrzO, Bool.and_true, Bool.true_and, Bool.and_self, Bool.not_true, Bool.not_false, Bool.false_eq_true, and_self, true_and, and_true, eq_self, lim, Nat.zero_add, Nat.reduceAdd, Nat.reduceLeDiff, Int.reduceAdd, Int.reduceSub, Int.reduceMul, Int.reduceNeg, Int.reduceLT, Int.reduceLE, Int.reduceToNat, decide_true, decide_false, flatD, Int.toNat_natCast, Int.reduceBEq, Int.reduceEq, Nat.reduceBEq, beq_self_eq_true, a1]
  have em : (ps ++ [last]).filterMap (fun p => some (D.str (p ++ [10]))) = sD (ps.map (· ++ [10])) ++ [.str (last ++ [10])] := by
    rw [fm_some, List.map_append]
    unfold sD
    rw [List.map_map]; rfl
  rw [em]
  have g1 := getLast_s true (sD (ps.map (· ++ [10]))) (.str (last ++ [10]))
  have g2 := slD (w := last ++ [10]) (by simp; omega)
  rw [dropN_snoc] at g2
  have g3 := getLast_s true (sD (ps.map (· ++ [10]))) (.str last)
  have ix := ixLast (sD (ps.map (· ++ [10]))) (.str (last ++ [10]))
  have st := setLast_s (sD (ps.map (· ++ [10]))) (D.str (last ++ [10])) (D.str last)
  simp (config := { maxSteps := 1000000 }) (disch := first | omega | assumption | (simp only [List.length_take, List.length_drop, List.length_append, List.length_cons, List.length_nil, List.length_map, List.length_reverse, List.length_range, List.length_replicate]; omega)) only [↓WP0, WP1, List.getElem?_cons_zero, List.getElem?_cons_succ, Bool.false_and, List.singleton_append, List.cons_append, List.set_cons_zero, List.set_cons_succ, List.length_cons, List.length_nil, List.map_nil, List.append_nil, List.nil_append, frzs, frz, isFrz, areFrz, isFrzO, Bool.and_true, Bool.true_and, Bool.and_self, Bool.not_true, Bool.not_false, Bool.false_eq_true, and_self, true_and, and_true, eq_self, lim, Nat.zero_add, Nat.reduceAdd, Nat.reduceLeDiff, Int.reduceAdd, Int.reduceSub, Int.reduceMul, Int.reduceNeg, Int.reduceLT, Int.reduceLE, Int.reduceToNat, decide_true, decide_false, flatD, Int.toNat_natCast, Int.reduceBEq, Int.reduceEq, Nat.reduceBEq, beq_self_eq_true, wp_ok]
  refine mid_wp (fun ρ => ρ = [some (.str T), some (.nd true .lst (sD (ps.map (· ++ [10])) ++ [.str last])), none, none, none, none]) ?_ ?_
  · simp (config := { maxSteps := 1000000 }) (disch := first | omega | assumption | (simp only [List.length_take, List.length_drop, List.length_append, List.length_cons, List.length_nil, List.length_map, List.length_reverse, List.length_range, List.length_replicate]; omega)) only [↓wp_sSeq, ↓WP0, WP1, List.getElem?_cons_zero, List.getElem?_cons_succ, Bool.false_and, List.singleton_append, List.cons_append, List.set_cons_zero, List.set_cons_succ, List.length_cons, List.length_nil, List.map_nil, List.append_nil, List.nil_append, frzs, frz, isFrz, areFrz, isFrzO, Bool.and_true, Bool.true_and, Bool.and_self, Bool.not_true, Bool.not_false, Bool.false_eq_true, and_self, true_and, and_true, eq_self, lim, Nat.zero_add, Nat.reduceAdd, Nat.reduceLeDiff, Int.reduceAdd, Int.reduceSub, Int.reduceMul, Int.reduceNeg, Int.reduceLT, Int.reduceLE, Int.reduceToNat, decide_true, decide_false, flatD, Int.toNat_natCast, Int.reduceBEq, Int.reduceEq, Nat.reduceBEq, beq_self_eq_true, g1, g2, ix, st]
  rintro ρ rfl
  refine mid_wp (fun ρ => ρ = [some (.str T), some (.nd true .lst (sD P)), none, none, none, none]) ?_ ?_
  · simp (config := { maxSteps := 1000000 }) (disch := first | omega | assumption | (simp only [List.length_take, List.length_drop, List.length_append, List.length_cons, List.length_nil, List.length_map, List.length_reverse, List.length_range, List.length_replicate]; omega)) only [↓wp_sSeq, ↓WP0, WP1, List.getElem?_cons_zero, List.getElem?_cons_succ, Bool.false_and, List.singleton_append, List.cons_append, List.set_cons_zero, List.set_cons_succ, List.length_cons, List.length_nil, List.map_nil, List.append_nil, List.nil_append, frzs, frz, isFrz, areFrz, isFrzO, Bool.and_true, Bool.true_and, Bool.and_self, Bool.not_true, Bool.not_false, Bool.false_eq_true, and_self, true_and, and_true, eq_self, lim, Nat.zero_add, Nat.reduceAdd, Nat.reduceLeDiff, Int.reduceAdd, Int.reduceSub, Int.reduceMul, Int.reduceNeg, Int.reduceLT, Int.reduceLE, Int.reduceToNat, decide_true, decide_false, flatD, Int.toNat_natCast, Int.reduceBEq, Int.reduceEq, Nat.reduceBEq, beq_self_eq_true, g3, eqF_str]
    refine br_split (fun h => ?_) fun h => ?_
    · have e : last = [] := by simpa using h
      have po : popM (sD (ps.map (· ++ [10])) ++ [D.str last]) [] = some (D.str last, sD (ps.map (· ++ [10]))) := by
        show (((sD (ps.map (· ++ [10])) ++ [D.str last])[(sD (ps.map (· ++ [10])) ++ [D.str last]).length - 1]?).map fun x => (x, (sD (ps.map (· ++ [10])) ++ [D.str last]).dropLast)) = _
        rw [List.length_append, List.length_singleton, Nat.add_sub_cancel, List.getElem?_concat_length, List.dropLast_concat]; rfl
      have eP2 : P = ps.map (· ++ [10]) := by rw [eP]; unfold piecesOf; rw [if_pos e, List.append_nil]
      rw [eP2]
      simp (config := { maxSteps := 1000000 }) (disch := first | omega | assumption | (simp only [List.length_take, List.length_drop, List.length_append, List.length_cons, List.length_nil, List.length_map, List.length_reverse, List.length_range, List.length_replicate]; omega)) only [↓wp_sSeq, ↓WP0, WP1, List.getElem?_cons_zero, List.getElem?_cons_succ, Bool.false_and, List.singleton_append, List.cons_append, List.set_cons_zero, List.set_cons_succ, List.length_cons, List.length_nil, List.map_nil, List.append_nil, List.nil_append, frzs, frz, isFrz, areFrz, isFrzO, Bool.and_true, Bool.true_and, Bool.and_self, Bool.not_true, Bool.not_false, Bool.false_eq_true, and_self, true_and, and_true, eq_self, lim, Nat.zero_add, Nat.reduceAdd, Nat.reduceLeDiff, Int.reduceAdd, Int.reduceSub, Int.reduceMul, Int.reduceNeg, Int.reduceLT, Int.reduceLE, Int.reduceToNat, decide_true, decide_false, flatD, Int.toNat_natCast, Int.reduceBEq, Int.reduceEq, Nat.reduceBEq, beq_self_eq_true, po]
    · have e : last ≠ [] := by simpa using h
      have eP2 : sD P = sD (ps.map (· ++ [10])) ++ [D.str last] := by rw [eP]; unfold piecesOf; rw [if_neg e, sD_snoc]
      rw [eP2]
      simp (config := { maxSteps := 1000000 }) (disch := first | omega | assumption | (simp only [List.length_take, List.length_drop, List.length_append, List.length_cons, List.length_nil, List.length_map, List.length_reverse, List.length_range, List.length_replicate]; omega)) only [↓wp_sSeq, ↓WP0, WP1, List.getElem?_cons_zero, List.getElem?_cons_succ, Bool.false_and, List.singleton_append, List.cons_append, List.set_cons_zero, List.set_cons_succ, List.length_cons, List.length_nil, List.map_nil, List.append_nil, List.nil_append, frzs, frz, isFrz, areFrz, isFrzO, Bool.and_true, Bool.true_and, Bool.and_self, Bool.not_true, Bool.not_false, Bool.false_eq_true, and_self, true_and, and_true, eq_self, lim, Nat.zero_add, Nat.reduceAdd, Nat.reduceLeDiff, Int.reduceAdd, Int.reduceSub, Int.reduceMul, Int.reduceNeg, Int.reduceLT, Int.reduceLE, Int.reduceToNat, decide_true, decide_false, flatD, Int.toNat_natCast, Int.reduceBEq, Int.reduceEq, Nat.reduceBEq, beq_self_eq_true, wp_ok]
  rintro ρ rfl
  have hP : ∀ p ∈ P, (∃ c v, p = c :: v) ∧ (∃ v c, p = v ++ [c]) ∧ p.length ≤ 201 := fun p hp' => by
    have key : p ≠ [] → (∃ c v, p = c :: v) ∧ (∃ v c, p = v ++ [c]) := fun h => ⟨List.exists_cons_of_ne_nil h, ⟨_, _, (List.dropLast_concat_getLast h).symm⟩⟩
    rw [eP] at hp'
    rcases List.mem_append.mp hp' with h | h
    · obtain ⟨q, hq, rfl⟩ := List.mem_map.mp h
      have := hs q hq
      have k := key (by simp)
      exact ⟨k.1, k.2, by simp; omega⟩
    · split at h
      · cases h
      · rename_i hne
        have e1 := List.mem_singleton.mp h
        have k := key (by rw [e1]; exact hne)
        exact ⟨k.1, k.2, by rw [e1]; omega⟩
  have lP : P.length ≤ 301 := by
    rw [eP]
    unfold piecesOf
    rw [List.length_append, List.length_map]
    split <;> simp <;> omega
  have hlast : last ≠ [] → ∃ P', P = P' ++ [last] := fun h => ⟨_, by rw [eP]; unfold piecesOf; rw [if_neg h]⟩
  have hlast0 : last = [] → ∀ P' p, P = P' ++ [p] → p.getLast? = some 10 := fun h P' p e => by
    have : p ∈ P := by rw [e]; simp
    rw [eP] at this
    unfold piecesOf at this
    rw [if_pos h, List.append_nil] at this
    obtain ⟨q, _, rfl⟩ := List.mem_map.mp this
    simp
  clear eP
  have fP := sD_frz P
  have fP' := frzs_id fP
  simp (config := { maxSteps := 1000000 }) (disch := first | omega | assumption | (simp only [List.length_take, List.length_drop, List.length_append, List.length_cons, List.length_nil, List.length_map, List.length_reverse, List.length_range, List.length_replicate]; omega)) only [↓wp_sSeq, ↓WP0, WP1, List.getElem?_cons_zero, List.getElem?_cons_succ, Bool.false_and, List.singleton_append, List.cons_append, List.set_cons_zero, List.set_cons_succ, List.length_cons, List.length_nil, List.map_nil, List.append_nil, List.nil_append, frzs, frz, isFrz, areFrz, isFrzO, Bool.and_true, Bool.true_and, Bool.and_self, Bool.not_true, Bool.not_false, Bool.false_eq_true, and_self, true_and, and_true, eq_self, lim, Nat.zero_add, Nat.reduceAdd, Nat.reduceLeDiff, Int.reduceAdd, Int.reduceSub, Int.reduceMul, Int.reduceNeg, Int.reduceLT, Int.reduceLE, Int.reduceToNat, decide_true, decide_false, flatD, Int.toNat_natCast, Int.reduceBEq, Int.reduceEq, Nat.reduceBEq, beq_self_eq_true, fP', fP, items_lst]
  refine for_wp (fun j ρ => ∃ F a y4 y5, ρ = [some (.str T), some (.nd false .lst (sD P)), some (.nd true .lst (sD F)), some (.str a), y4, y5] ∧ rsts (P.take j) = (F, a) ∧ (a ≠ [10] → F ≠ []) ∧ F.length ≤ j ∧ (∀ w ∈ F, w.length ≤ 201) ∧ ∀ i (hi : i < P.length), i < j → rbad (rsts (P.take i)) P[i] = false) ⟨[], [10], _, _, rfl, rfl, (fun h => absurd rfl h), Nat.le_refl _, (fun _ h => by cases h), fun i hi h => by omega⟩ ?_ ?_
  · rintro j x ρ hj ⟨F, a, y4, y5, rfl, h1, h2, h3, h3', h4⟩
    rw [enuL_get] at hj
    obtain ⟨e, hje, rfl⟩ := Option.map_eq_some_iff.mp hj
    clear hj
    show Op (wTup 2 _ (D.tup [.int ((0 + j : Nat) : Int), e]) _) _ _
    rw [Nat.zero_add]
    have hlt : j < P.length := by
      have := (List.getElem?_eq_some_iff.mp hje).1
      rw [sD_len] at this; exact this
    have : e = .str P[j] := by
      unfold sD at hje
      rw [List.getElem?_map, List.getElem?_eq_getElem hlt] at hje
      exact (Option.some.inj hje).symm
    subst this
    have es := rsts_snoc (P.take j) P[j]
    rw [← List.take_succ_eq_append_getElem hlt, h1] at es
    have hw := hP P[j] (List.getElem_mem _)
    have hej := he j hlt
    rw [h1] at hej
    have ok4 : rbad (F, a) P[j] = false → ∀ i (hi : i < P.length), i < j + 1 → rbad (rsts (P.take i)) P[i] = false := fun h i hi hi2 => by
      by_cases e : i = j
      · subst e; rw [h1]; exact h
      · exact h4 i hi (by omega)
    have all4 : ∀ i (hi : i < j), rbad (rsts (P.take i)) P[i] = false := fun i hi => h4 i (by omega) hi
    rw [es]
    generalize P[j] = p at *
    obtain ⟨⟨c, v, rfl⟩, _, hlen⟩ := hw
    have g0 := getS_0 (c := c) (w := v) (by omega)
    rw [show [92, 32, 78, 111, 32, 110, 101, 119, 108, 105, 110, 101, 32, 97, 116, 32, 101, 110, 100, 32, 111, 102, 32, 102, 105, 108, 101, 10] = mkE from rfl]
    have ne1 : neF (.str (c :: v)) (.str mkE) = some (.bl (!((c :: v) == mkE))) := rfl
    simp (config := { maxSteps := 1000000 }) (disch := first | omega | assumption | (simp only [List.length_take, List.length_drop, List.length_append, List.length_cons, List.length_nil, List.length_map, List.length_reverse, List.length_range, List.length_replicate]; omega)) only [↓wp_sSeq, ↓WP0, WP1, List.getElem?_cons_zero, List.getElem?_cons_succ, Bool.false_and, List.singleton_append, List.cons_append, List.set_cons_zero, List.set_cons_succ, List.length_cons, List.length_nil, List.map_nil, List.append_nil, List.nil_append, frzs, frz, isFrz, areFrz, isFrzO, Bool.and_true, Bool.true_and, Bool.and_self, Bool.not_true, Bool.not_false, Bool.false_eq_true, and_self, true_and, and_true, eq_self, lim, Nat.zero_add, Nat.reduceAdd, Nat.reduceLeDiff, Int.reduceAdd, Int.reduceSub, Int.reduceMul, Int.reduceNeg, Int.reduceLT, Int.reduceLE, Int.reduceToNat, decide_true, decide_false, flatD, Int.toNat_natCast, Int.reduceBEq, Int.reduceEq, Nat.reduceBEq, beq_self_eq_true, g0, eqF_str]
    refine br_split (fun hc => ?_) fun hc => ?_
    · have hc : c = 92 := by simpa using hc
      subst hc
      have bad : ((92 :: v) == mkE) = false ∨ (a == [10]) = true → rbad (F, a) (92 :: v) = true := fun h => by
        unfold rbad
        rw [show ((92 :: v).head? == some 92) = true from by simp]
        rcases h with h | h
        · rw [show ((92 :: v) != mkE) = true from by rw [bne, h]; rfl]; rfl
        · rw [h]; simp
      simp (config := { maxSteps := 1000000 }) (disch := first | omega | assumption | (simp only [List.length_take, List.length_drop, List.length_append, List.length_cons, List.length_nil, List.length_map, List.length_reverse, List.length_range, List.length_replicate]; omega)) only [↓wp_sSeq, ↓WP0, WP1, List.getElem?_cons_zero, List.getElem?_cons_succ, Bool.false_and, List.singleton_append, List.cons_append, List.set_cons_zero, List.set_cons_succ, List.length_cons, List.length_nil, List.map_nil, List.append_nil, List.nil_append, frzs, frz, isFrz, areFrz, isFrzO, Bool.and_true, Bool.true_and, Bool.and_self, Bool.not_true, Bool.not_false, Bool.false_eq_true, and_self, true_and, and_true, eq_self, lim, Nat.zero_add, Nat.reduceAdd, Nat.reduceLeDiff, Int.reduceAdd, Int.reduceSub, Int.reduceMul, Int.reduceNeg, Int.reduceLT, Int.reduceLE, Int.reduceToNat, decide_true, decide_false, flatD, Int.toNat_natCast, Int.reduceBEq, Int.reduceEq, Nat.reduceBEq, beq_self_eq_true, ne1, eqF_str]
      refine br_split (fun hm => ?_) fun hm => ?_
      · simp (config := { maxSteps := 1000000 }) (disch := first | omega | assumption | (simp only [List.length_take, List.length_drop, List.length_append, List.length_cons, List.length_nil, List.length_map, List.length_reverse, List.length_range, List.length_replicate]; omega)) only [↓wp_sSeq, ↓WP0, WP1, List.getElem?_cons_zero, List.getElem?_cons_succ, Bool.false_and, List.singleton_append, List.cons_append, List.set_cons_zero, List.set_cons_succ, List.length_cons, List.length_nil, List.map_nil, List.append_nil, List.nil_append, frzs, frz, isFrz, areFrz, isFrzO, Bool.and_true, Bool.true_and, Bool.and_self, Bool.not_true, Bool.not_false, Bool.false_eq_true, and_self, true_and, and_true, eq_self, lim, Nat.zero_add, Nat.reduceAdd, Nat.reduceLeDiff, Int.reduceAdd, Int.reduceSub, Int.reduceMul, Int.reduceNeg, Int.reduceLT, Int.reduceLE, Int.reduceToNat, decide_true, decide_false, flatD, Int.toNat_natCast, Int.reduceBEq, Int.reduceEq, Nat.reduceBEq, beq_self_eq_true, eqF_str]
        refine br_split (fun ha => ?_) fun ha => ?_
        · simp (config := { maxSteps := 1000000 }) (disch := first | omega | assumption | (simp only [List.length_take, List.length_drop, List.length_append, List.length_cons, List.length_nil, List.length_map, List.length_reverse, List.length_range, List.length_replicate]; omega)) only [↓wp_sSeq, ↓WP0, WP1, List.getElem?_cons_zero, List.getElem?_cons_succ, Bool.false_and, List.singleton_append, List.cons_append, List.set_cons_zero, List.set_cons_succ, List.length_cons, List.length_nil, List.map_nil, List.append_nil, List.nil_append, frzs, frz, isFrz, areFrz, isFrzO, Bool.and_true, Bool.true_and, Bool.and_self, Bool.not_true, Bool.not_false, Bool.false_eq_true, and_self, true_and, and_true, eq_self, lim, Nat.zero_add, Nat.reduceAdd, Nat.reduceLeDiff, Int.reduceAdd, Int.reduceSub, Int.reduceMul, Int.reduceNeg, Int.reduceLT, Int.reduceLE, Int.reduceToNat, decide_true, decide_false, flatD, Int.toNat_natCast, Int.reduceBEq, Int.reduceEq, Nat.reduceBEq, beq_self_eq_true, frozen_i]
          exact hej (bad (.inr ha)) all4
        · have hF : F ≠ [] := h2 (by simpa using ha)
          have eF := (List.dropLast_concat_getLast hF).symm
          have lf := h3' _ (List.getLast_mem hF)
          have er : rst (F, a) (92 :: v) = (F.dropLast ++ [dropN (F.getLast hF)], [10]) := by
            unfold rst
            rw [if_pos (by simp)]
            show (F.dropLast ++ [dropN (F.getLastD [])], [10]) = _
            rw [List.getLastD_eq_getLast?, List.getLast?_eq_some_getLast hF]; rfl
          have eb : rbad (F, a) (92 :: v) = false := by
            unfold rbad
            rw [show ((92 :: v) != mkE) = false from by rw [bne, hm]; rfl, ha]; simp
          have eD : sD F = sD F.dropLast ++ [.str (F.getLast hF)] := by
            conv => lhs; rw [eF]
            exact sD_snoc _ _
          have q1 := getLast_s true (sD F.dropLast) (.str (F.getLast hF))
          have q2 := slD (w := F.getLast hF) (by omega)
          have q3 := ixLast (sD F.dropLast) (.str (F.getLast hF))
          have q4 := setLast_s (sD F.dropLast) (D.str (F.getLast hF)) (D.str (dropN (F.getLast hF)))
          have lF : F.dropLast.length + 1 = F.length := by rw [List.length_dropLast]; have := List.length_pos_iff.mpr hF; omega
          rw [eD]
          simp (config := { maxSteps := 1000000 }) (disch := first | omega | assumption | (simp only [List.length_take, List.length_drop, List.length_append, List.length_cons, List.length_nil, List.length_map, List.length_reverse, List.length_range, List.length_replicate]; omega)) only [↓wp_sSeq, ↓WP0, WP1, List.getElem?_cons_zero, List.getElem?_cons_succ, Bool.false_and, List.singleton_append, List.cons_append, List.set_cons_zero, List.set_cons_succ, List.length_cons, List.length_nil, List.map_nil, List.append_nil, List.nil_append, frzs, frz, isFrz, areFrz, isFrzO, Bool.and_true, Bool.true_and, Bool.and_self, Bool.not_true, Bool.not_false, Bool.false_eq_true, and_self, true_and, and_true, eq_self, lim, Nat.zero_add, Nat.reduceAdd, Nat.reduceLeDiff, Int.reduceAdd, Int.reduceSub, Int.reduceMul, Int.reduceNeg, Int.reduceLT, Int.reduceLE, Int.reduceToNat, decide_true, decide_false, flatD, Int.toNat_natCast, Int.reduceBEq, Int.reduceEq, Nat.reduceBEq, beq_self_eq_true, q1, q2, q3, q4]
          refine ⟨F.dropLast ++ [dropN (F.getLast hF)], [10], _, _, by rw [sD_snoc], er, (fun h => absurd rfl h), by rw [List.length_append]; simp; omega, fun w hw => ?_, ok4 eb⟩
          rcases List.mem_append.mp hw with h | h
          · exact h3' w (by rw [eF]; exact List.mem_append_left _ h)
          · rw [List.mem_singleton.mp h]
            unfold dropN
            rw [List.length_take]; omega
      · simp (config := { maxSteps := 1000000 }) (disch := first | omega | assumption | (simp only [List.length_take, List.length_drop, List.length_append, List.length_cons, List.length_nil, List.length_map, List.length_reverse, List.length_range, List.length_replicate]; omega)) only [↓wp_sSeq, ↓WP0, WP1, List.getElem?_cons_zero, List.getElem?_cons_succ, Bool.false_and, List.singleton_append, List.cons_append, List.set_cons_zero, List.set_cons_succ, List.length_cons, List.length_nil, List.map_nil, List.append_nil, List.nil_append, frzs, frz, isFrz, areFrz, isFrzO, Bool.and_true, Bool.true_and, Bool.and_self, Bool.not_true, Bool.not_false, Bool.false_eq_true, and_self, true_and, and_true, eq_self, lim, Nat.zero_add, Nat.reduceAdd, Nat.reduceLeDiff, Int.reduceAdd, Int.reduceSub, Int.reduceMul, Int.reduceNeg, Int.reduceLT, Int.reduceLE, Int.reduceToNat, decide_true, decide_false, flatD, Int.toNat_natCast, Int.reduceBEq, Int.reduceEq, Nat.reduceBEq, beq_self_eq_true, frozen_i]
        exact hej (bad (.inl hm)) all4
    · have hc : c ≠ 92 := by simpa using hc
      have ap : appM (sD F) [.str (c :: v)] = some (.non, sD (F ++ [c :: v])) := by rw [appM_ok (by rw [sD_len]; omega), sD_snoc]
      have er : rst (F, a) (c :: v) = (F ++ [c :: v], c :: v) := by
        unfold rst
        rw [if_neg (by simpa using hc)]
      have eb : rbad (F, a) (c :: v) = false := by
        unfold rbad
        rw [show ((c :: v).head? == some 92) = false from by simpa using hc]; rfl
      simp (config := { maxSteps := 1000000 }) (disch := first | omega | assumption | (simp only [List.length_take, List.length_drop, List.length_append, List.length_cons, List.length_nil, List.length_map, List.length_reverse, List.length_range, List.length_replicate]; omega)) only [↓wp_sSeq, ↓WP0, WP1, List.getElem?_cons_zero, List.getElem?_cons_succ, Bool.false_and, List.singleton_append, List.cons_append, List.set_cons_zero, List.set_cons_succ, List.length_cons, List.length_nil, List.map_nil, List.append_nil, List.nil_append, frzs, frz, isFrz, areFrz, isFrzO, Bool.and_true, Bool.true_and, Bool.and_self, Bool.not_true, Bool.not_false, Bool.false_eq_true, and_self, true_and, and_true, eq_self, lim, Nat.zero_add, Nat.reduceAdd, Nat.reduceLeDiff, Int.reduceAdd, Int.reduceSub, Int.reduceMul, Int.reduceNeg, Int.reduceLT, Int.reduceLE, Int.reduceToNat, decide_true, decide_false, flatD, Int.toNat_natCast, Int.reduceBEq, Int.reduceEq, Nat.reduceBEq, beq_self_eq_true, ap]
      refine ⟨F ++ [c :: v], c :: v, _, _, rfl, er, (fun _ => by simp), by rw [List.length_append]; simp; omega, fun w hw => ?_, ok4 eb⟩
      rcases List.mem_append.mp hw with h | h
      · exact h3' w h
      · rw [List.mem_singleton.mp h]; exact hlen
  · rintro ρ ⟨F, a, y4, y5, rfl, h1, h2, h3, h3', h4⟩
    rw [enuL_len, sD_len] at h1 h4
    rw [List.take_length] at h1
    have h5 : ∀ k (h : k < P.length), rbad (rsts (P.take k)) P[k] = false := fun k h => h4 k h h
    rw [h1] at hk
    rcases List.eq_nil_or_concat P with rfl | ⟨P', p, rfl⟩
    · have n0 : neF (.nd false .lst (sD [])) (.nd true .lst []) = some (.bl false) := rfl
      have e0 : last = [] := by
        by_cases h : last = []
        · exact h
        · obtain ⟨P', e⟩ := hlast h
          simp at e
      simp (config := { maxSteps := 1000000 }) (disch := first | omega | assumption | (simp only [List.length_take, List.length_drop, List.length_append, List.length_cons, List.length_nil, List.length_map, List.length_reverse, List.length_range, List.length_replicate]; omega)) only [↓wp_sSeq, ↓WP0, WP1, List.getElem?_cons_zero, List.getElem?_cons_succ, Bool.false_and, List.singleton_append, List.cons_append, List.set_cons_zero, List.set_cons_succ, List.length_cons, List.length_nil, List.map_nil, List.append_nil, List.nil_append, frzs, frz, isFrz, areFrz, isFrzO, Bool.and_true, Bool.true_and, Bool.and_self, Bool.not_true, Bool.not_false, Bool.false_eq_true, and_self, true_and, and_true, eq_self, lim, Nat.zero_add, Nat.reduceAdd, Nat.reduceLeDiff, Int.reduceAdd, Int.reduceSub, Int.reduceMul, Int.reduceNeg, Int.reduceLT, Int.reduceLE, Int.reduceToNat, decide_true, decide_false, flatD, Int.toNat_natCast, Int.reduceBEq, Int.reduceEq, Nat.reduceBEq, beq_self_eq_true, n0]
      exact hk e0 h5
    · rw [List.concat_eq_append] at *
      have okP : okD 64 (.nd false .lst (sD (P' ++ [p]))) = true := by
        show okDs 63 (sD (P' ++ [p])) = true
        exact okDs_all fun d hd => by
          obtain ⟨w, hw, rfl⟩ := List.mem_map.mp hd
          rw [okD_str]; exact hch w hw
      have n0 : neF (.nd false .lst (sD (P' ++ [p]))) (.nd true .lst []) = some (.bl true) := by
        rw [neF_ok okP rfl]
        cases P' <;> rfl
      obtain ⟨_, ⟨v, c, rfl⟩, hlen⟩ := hP p (by simp)
      have q1 : getIx (.nd false .lst (sD (P' ++ [v ++ [c]]))) (.int (-1)) = some (.str (v ++ [c])) := by rw [sD_snoc]; exact getLast_s false _ _
      have q2 := getS_l (c := c) (w := v) (by omega)
      have q3 : neF (.str [c]) (.str [10]) = some (.bl (!([c] == [10]))) := rfl
      have q4 := sD_len (P' ++ [v ++ [c]])
      simp (config := { maxSteps := 1000000 }) (disch := first | omega | assumption | (simp only [List.length_take, List.length_drop, List.length_append, List.length_cons, List.length_nil, List.length_map, List.length_reverse, List.length_range, List.length_replicate]; omega)) only [↓wp_sSeq, ↓WP0, WP1, List.getElem?_cons_zero, List.getElem?_cons_succ, Bool.false_and, List.singleton_append, List.cons_append, List.set_cons_zero, List.set_cons_succ, List.length_cons, List.length_nil, List.map_nil, List.append_nil, List.nil_append, frzs, frz, isFrz, areFrz, isFrzO, Bool.and_true, Bool.true_and, Bool.and_self, Bool.not_true, Bool.not_false, Bool.false_eq_true, and_self, true_and, and_true, eq_self, lim, Nat.zero_add, Nat.reduceAdd, Nat.reduceLeDiff, Int.reduceAdd, Int.reduceSub, Int.reduceMul, Int.reduceNeg, Int.reduceLT, Int.reduceLE, Int.reduceToNat, decide_true, decide_false, flatD, Int.toNat_natCast, Int.reduceBEq, Int.reduceEq, Nat.reduceBEq, beq_self_eq_true, n0, q1, q2, q3]
      refine br_split (fun hc => ?_) fun hc => ?_
      · have hc : c = 10 := by simpa using hc
        subst hc
        have e0 : last = [] := by
          by_cases h : last = []
          · exact h
          · obtain ⟨P2, e⟩ := hlast h
            have := List.append_inj_right' e rfl
            injection this with this
            exact absurd (by rw [← this]; simp) hl
        simp (config := { maxSteps := 1000000 }) (disch := first | omega | assumption | (simp only [List.length_take, List.length_drop, List.length_append, List.length_cons, List.length_nil, List.length_map, List.length_reverse, List.length_range, List.length_replicate]; omega)) only [↓wp_sSeq, ↓WP0, WP1, List.getElem?_cons_zero, List.getElem?_cons_succ, Bool.false_and, List.singleton_append, List.cons_append, List.set_cons_zero, List.set_cons_succ, List.length_cons, List.length_nil, List.map_nil, List.append_nil, List.nil_append, frzs, frz, isFrz, areFrz, isFrzO, Bool.and_true, Bool.true_and, Bool.and_self, Bool.not_true, Bool.not_false, Bool.false_eq_true, and_self, true_and, and_true, eq_self, lim, Nat.zero_add, Nat.reduceAdd, Nat.reduceLeDiff, Int.reduceAdd, Int.reduceSub, Int.reduceMul, Int.reduceNeg, Int.reduceLT, Int.reduceLE, Int.reduceToNat, decide_true, decide_false, flatD, Int.toNat_natCast, Int.reduceBEq, Int.reduceEq, Nat.reduceBEq, beq_self_eq_true, wp_ok]
        exact hk e0 h5
      · have hc : c ≠ 10 := by simpa using hc
        have e0 : last ≠ [] := fun h => by
          have := hlast0 h P' (v ++ [c]) rfl
          simp at this
          exact hc this
        have q5 : lenF (.nd false .lst (sD (P' ++ [v ++ [c]]))) = some (.int ((P' ++ [v ++ [c]]).length : Nat)) := by
          show some (D.int ((sD (P' ++ [v ++ [c]])).length : Nat)) = _
          rw [q4]
        simp (config := { maxSteps := 1000000 }) (disch := first | omega | assumption | (simp only [List.length_take, List.length_drop, List.length_append, List.length_cons, List.length_nil, List.length_map, List.length_reverse, List.length_range, List.length_replicate]; omega)) only [↓wp_sSeq, ↓WP0, WP1, List.getElem?_cons_zero, List.getElem?_cons_succ, Bool.false_and, List.singleton_append, List.cons_append, List.set_cons_zero, List.set_cons_succ, List.length_cons, List.length_nil, List.map_nil, List.append_nil, List.nil_append, frzs, frz, isFrz, areFrz, isFrzO, Bool.and_true, Bool.true_and, Bool.and_self, Bool.not_true, Bool.not_false, Bool.false_eq_true, and_self, true_and, and_true, eq_self, lim, Nat.zero_add, Nat.reduceAdd, Nat.reduceLeDiff, Int.reduceAdd, Int.reduceSub, Int.reduceMul, Int.reduceNeg, Int.reduceLT, Int.reduceLE, Int.reduceToNat, decide_true, decide_false, flatD, Int.toNat_natCast, Int.reduceBEq, Int.reduceEq, Nat.reduceBEq, beq_self_eq_true, q5, frozen_i]
        exact he2 e0 h5
/-! ### rows there and back -/
theorem joinS_flat : ∀ l : List (List Nat), joinS [] l = l.flatten
  | [] => rfl
  | [p] => by simp [joinS]
  | p :: q :: r => by
    show p ++ ([] ++ joinS [] (q :: r)) = _
    rw [joinS_flat (q :: r)]; rfl
theorem asStrs_sD (l : List (List Nat)) : asStrs (sD l) = some l := by
  induction l with
  | nil => rfl
  | cons w l ih => show (asStrs (sD l)).map _ = _; rw [ih]; rfl
theorem joinF_sD (m : Bool) {l : List (List Nat)} (h : l.flatten.length ≤ 1000000) : joinF (.str []) (.nd m .lst (sD l)) = some (.str l.flatten) := by
  show (match asStrs (sD l) with | some ss => _ | none => _) = _
  rw [asStrs_sD]
  show (if (l.map List.length).sum + l.length * ([] : List Nat).length ≤ lim then some (D.str (joinS [] l)) else none) = _
  rw [joinS_flat, if_pos (by rw [← List.length_flatten]; show l.flatten.length + _ * 0 ≤ 1000000; omega)]
def okA : List (List Nat) × List Nat → List (List Nat) → Prop
  | _, [] => True
  | s, p :: P => rbad s p = false ∧ okA (rst s p) P
theorem okA_at : ∀ {P : List (List Nat)} {s : List (List Nat) × List Nat}, okA s P → ∀ k (h : k < P.length), rbad ((P.take k).foldl rst s) P[k] = false
  | p :: P, s, ⟨h1, _⟩, 0, _ => h1
  | p :: P, s, ⟨_, h2⟩, k + 1, h => okA_at h2 k (by simpa using h)
def psOf (l : List (List Nat)) : List (List Nat) := l.flatMap fun w => if w.getLast? = some 10 then [w.dropLast] else [w, mkE.dropLast]
theorem psOf_txt : ∀ l : List (List Nat), ((psOf l).flatMap fun p => p ++ [10]) = txt l
  | [] => rfl
  | w :: l => by
    have ih := psOf_txt l
    show (((if w.getLast? = some 10 then [w.dropLast] else [w, mkE.dropLast]) ++ psOf l).flatMap fun p => p ++ [10]) = enc w ++ txt l
    rw [List.flatMap_append, ih]
    congr 1
    unfold enc
    split
    · rename_i h
      have hne : w ≠ [] := fun e => by rw [e] at h; cases h
      have : w.getLast hne = 10 := by rw [List.getLast?_eq_some_getLast hne] at h; exact Option.some.inj h
      have := List.dropLast_concat_getLast hne
      rw [List.flatMap_singleton]
      rename_i h10
      rw [h10] at this
      exact this
    · show (w ++ [10]) ++ ((mkE.dropLast ++ [10]) ++ []) = _
      rw [List.append_nil]; rfl
theorem ps_run : ∀ (l : List (List Nat)) (s : List (List Nat) × List Nat), (∀ w ∈ l, GoodW w) → okA s ((psOf l).map (· ++ [10])) ∧ (((psOf l).map (· ++ [10])).foldl rst s).1 = s.1 ++ l
  | [], s, _ => ⟨trivial, (List.append_nil _).symm⟩
  | w :: l, s, h => by
    have hw := h w List.mem_cons_self
    obtain ⟨c, v, ew, hc⟩ := hw.hd
    have hne : w ≠ [] := by rw [ew]; simp
    show okA s (((if w.getLast? = some 10 then [w.dropLast] else [w, mkE.dropLast]) ++ psOf l).map (· ++ [10])) ∧ ((((if w.getLast? = some 10 then [w.dropLast] else [w, mkE.dropLast]) ++ psOf l).map (· ++ [10])).foldl rst s).1 = _
    rw [List.map_append]
    split
    · rename_i h10
      have e := List.dropLast_concat_getLast hne
      rw [show w.getLast hne = 10 from by rw [List.getLast?_eq_some_getLast hne] at h10; exact Option.some.inj h10] at e
      obtain ⟨i1, i2⟩ := ps_run l (rst s w) fun x hx => h x (List.mem_cons_of_mem _ hx)
      have hh : ¬ w.head? = some 92 := by rw [ew]; simpa using hc
      have e1 : rbad s w = false := by
        unfold rbad
        have hb : (w.head? == some 92) = false := beq_eq_false_iff_ne.mpr hh
        rw [hb]; rfl
      have e2 : rst s w = (s.1 ++ [w], w) := by unfold rst; rw [if_neg hh]
      show okA s ((w.dropLast ++ [10]) :: (psOf l).map (· ++ [10])) ∧ (((w.dropLast ++ [10]) :: (psOf l).map (· ++ [10])).foldl rst s).1 = _
      rw [e]
      refine ⟨⟨e1, i1⟩, ?_⟩
      show (((psOf l).map (· ++ [10])).foldl rst (rst s w)).1 = _
      rw [i2, e2, List.append_assoc]; rfl
    · have hh : ¬ (w ++ [10]).head? = some 92 := by rw [ew]; simpa using hc
      have e1 : rbad s (w ++ [10]) = false := by
        unfold rbad
        have hb : ((w ++ [10]).head? == some 92) = false := beq_eq_false_iff_ne.mpr hh
        rw [hb]; rfl
      have e2 : rst s (w ++ [10]) = (s.1 ++ [w ++ [10]], w ++ [10]) := by unfold rst; rw [if_neg hh]
      have e3 : rbad (s.1 ++ [w ++ [10]], w ++ [10]) mkE = false := by
        unfold rbad
        rw [show (w ++ [10] == [10]) = false from by simpa using hne]
        rw [show (mkE != mkE) = false from by simp]; simp
      have e4 : rst (s.1 ++ [w ++ [10]], w ++ [10]) mkE = (s.1 ++ [w], [10]) := by
        unfold rst
        rw [if_pos (show mkE.head? = some 92 from rfl)]
        show ((s.1 ++ [w ++ [10]]).dropLast ++ [dropN ((s.1 ++ [w ++ [10]]).getLastD [])], [10]) = _
        rw [List.dropLast_concat, List.getLastD_concat, dropN_snoc]
      obtain ⟨i1, i2⟩ := ps_run l (s.1 ++ [w], [10]) fun x hx => h x (List.mem_cons_of_mem _ hx)
      show okA s ((w ++ [10]) :: mkE :: (psOf l).map (· ++ [10])) ∧ (((w ++ [10]) :: mkE :: (psOf l).map (· ++ [10])).foldl rst s).1 = _
      refine ⟨⟨e1, ?_⟩, ?_⟩
      · show okA (rst s (w ++ [10])) _
        rw [e2]
        refine ⟨e3, ?_⟩
        rw [e4]; exact i1
      · show (((psOf l).map (· ++ [10])).foldl rst (rst (rst s (w ++ [10])) mkE)).1 = _
        rw [e2, e4, i2, List.append_assoc]; rfl
theorem psOf_mem {l : List (List Nat)} (hg : ∀ w ∈ l, GoodW w) (hn : ∀ w ∈ l, ¬ 10 ∈ w.dropLast) : ∀ p ∈ psOf l, ¬ 10 ∈ p ∧ p.length ≤ 200 := fun p hp => by
  obtain ⟨w, hw, hp⟩ := List.mem_flatMap.mp hp
  have hl := (hg w hw).len
  have nl := hn w hw
  split at hp
  · rw [List.mem_singleton.mp hp]
    exact ⟨nl, by rw [List.length_dropLast]; omega⟩
  · rename_i h10
    simp only [List.mem_cons, List.not_mem_nil, or_false] at hp
    rcases hp with rfl | rfl
    · refine ⟨fun h => ?_, by omega⟩
      have hne : p ≠ [] := fun e => by rw [e] at h; cases h
      rw [← List.dropLast_concat_getLast hne] at h
      rcases List.mem_append.mp h with h | h
      · exact nl h
      · apply h10
        rw [List.getLast?_eq_some_getLast hne, ← List.mem_singleton.mp h]
    · exact ⟨by decide, by decide⟩
theorem psOf_len : ∀ l : List (List Nat), (psOf l).length ≤ 2 * l.length
  | [] => Nat.zero_le _
  | w :: l => by
    have := psOf_len l
    show ((if w.getLast? = some 10 then [w.dropLast] else [w, mkE.dropLast]) ++ psOf l).length ≤ _
    rw [List.length_append, List.length_cons]
    split <;> simp <;> omega
theorem rows_ok {l : List (List Nat)} (hl : l.length ≤ 100) (hg : ∀ w ∈ l, GoodW w) (hn : ∀ w ∈ l, ¬ 10 ∈ w.dropLast) (hc : ∀ w ∈ l, w.all (· < 0x110000) = true) : F_rows_of_text [.str (txt l)] = .ok (.lst true (sD l), []) := by
  have pm := psOf_mem hg hn
  have pl := psOf_len l
  have tl := txt_len fun w hw => (hg w hw).len
  have e : (psOf l).flatMap (fun p => p ++ [10]) ++ [] = txt l := by rw [List.append_nil, psOf_txt]
  obtain ⟨r1, r2⟩ := ps_run l ([], [10]) hg
  have ok := okA_at r1
  have hch : ∀ p ∈ (psOf l).map (· ++ [10]), p.all (· < 0x110000) = true := fun p hp => by
    obtain ⟨q, hq, rfl⟩ := List.mem_map.mp hp
    obtain ⟨w, hw, hq⟩ := List.mem_flatMap.mp hq
    have hw2 := List.all_eq_true.mp (hc w hw)
    rw [List.all_append, Bool.and_eq_true]
    refine ⟨List.all_eq_true.mpr fun x hx => ?_, by decide⟩
    split at hq
    · rw [List.mem_singleton.mp hq] at hx
      exact hw2 x (List.mem_of_mem_take (by rw [List.dropLast_eq_take] at hx; exact hx))
    · simp only [List.mem_cons, List.not_mem_nil, or_false] at hq
      rcases hq with rfl | rfl
      · exact hw2 x hx
      · have : ∀ x ∈ mkE.dropLast, decide (x < 0x110000) = true := by decide
        exact this x hx
  rw [← e]
  refine Wp.eq (rows_wp (P := (psOf l).map (· ++ [10])) (fun p hp => (pm p hp).1) (by simp) (by omega) (fun p hp => (pm p hp).2) (by simp) (by unfold piecesOf; rw [if_pos rfl, List.append_nil]) hch (by rw [e]; omega) (fun _ _ => ?_) (fun k h hb _ => ?_) (fun h => absurd rfl h))
  · show (D.lst true (sD (rsts ((psOf l).map (· ++ [10]))).1), []) = _
    unfold rsts
    rw [r2]; rfl
  · have := ok k h
    unfold rsts at hb
    rw [this] at hb; cases hb
theorem text_ok {l : List (List Nat)} {y : D} (hy : SqD y (sD l)) (hl : l.length ≤ 100) (hg : ∀ w ∈ l, GoodW w) : F_text_of_rows [y] = .ok (.str (txt l), []) :=
  Wp.eq (text_wp (rest := []) (by rw [List.append_nil]; exact hy) rfl hl hg (fun b r h => by cases h) (fun _ => rfl) fun b r h => by cases h)
end Tw.Lw
namespace Tw.Lw
open PySem PySem.Spec L2
def S10 : List (List Nat) := [[97, 10], [98, 32, 99, 10], mkE, mkE, [10], [97, 10], [32, 92, 10], [92, 32, 110, 111, 32, 110, 101, 119, 108, 105, 110, 101, 32, 97, 116, 32, 101, 110, 100, 32, 111, 102, 32, 102, 105, 108, 101, 10], [92, 10], [120, 10]]
def T4 : List (List Nat) := [[97], dropN mkE, [92], [32]]
def N4 : List (List Nat) := [[97, 10], [98, 32, 99, 10], [32, 92, 10], [120, 10]]
def R9 : List (List Nat) := [[97, 10], [98, 32, 99, 10], [10], [32, 92, 10], [120, 10], [97], [98, 32, 99], [32, 92], [120]]
structure Iv (s : List (List Nat) × List Nat) (t : List Nat) : Prop where
  mem : ∀ w ∈ s.1, w ∈ R9
  last : s.2 ≠ [10] → ∃ F', s.1 = F' ++ [s.2] ∧ s.2 ∈ N4
  txt : txt s.1 = t
theorem iv_step {s : List (List Nat) × List Nat} {t p : List Nat} (h : Iv s t) (hp : p ∈ S10) (hb : rbad s p = false) : Iv (rst s p) (t ++ p) := by
  obtain ⟨h1, h2, h3⟩ := h
  by_cases hh : p.head? = some 92
  · have hm : p = mkE ∧ s.2 ≠ [10] := by
      unfold rbad at hb
      rw [show (p.head? == some 92) = true from by rw [hh]; rfl, Bool.true_and, Bool.or_eq_false_iff] at hb
      exact ⟨by simpa using hb.1, by simpa using hb.2⟩
    obtain ⟨rfl, ha⟩ := hm
    obtain ⟨F', e, hn⟩ := h2 ha
    obtain ⟨F, a⟩ := s
    have e : F = F' ++ [a] := e
    subst e
    have er : rst (F' ++ [a], a) mkE = (F' ++ [dropN a], [10]) := by
      unfold rst
      rw [if_pos (show mkE.head? = some 92 from rfl)]
      show ((F' ++ [a]).dropLast ++ [dropN ((F' ++ [a]).getLastD [])], [10]) = _
      rw [List.dropLast_concat, List.getLastD_concat]
    have d1 : ∀ a ∈ N4, dropN a ∈ R9 ∧ enc (dropN a) = enc a ++ mkE := by decide
    rw [er]
    refine ⟨fun w hw => ?_, fun h => absurd rfl h, ?_⟩
    · rcases List.mem_append.mp hw with h | h
      · exact h1 w (List.mem_append_left _ h)
      · rw [List.mem_singleton.mp h]; exact (d1 a hn).1
    · show Lw.txt (F' ++ [dropN a]) = _
      have h3 : Lw.txt (F' ++ [a]) = t := h3
      rw [txt_snoc] at h3 ⊢
      rw [(d1 a hn).2, ← List.append_assoc, h3]
  · have d1 : ∀ p ∈ S10, ¬ p.head? = some 92 → p ∈ R9 ∧ enc p = p ∧ (p ≠ [10] → p ∈ N4) := by decide
    obtain ⟨m1, m2, m3⟩ := d1 p hp hh
    have er : rst s p = (s.1 ++ [p], p) := by unfold rst; rw [if_neg hh]
    rw [er]
    refine ⟨fun w hw => ?_, fun h => ⟨s.1, rfl, m3 h⟩, ?_⟩
    · rcases List.mem_append.mp hw with h | h
      · exact h1 w h
      · rw [List.mem_singleton.mp h]; exact m1
    · show Lw.txt (s.1 ++ [p]) = _
      rw [txt_snoc, h3, m2]
theorem iv_at {P : List (List Nat)} (hP : ∀ p ∈ P, p ∈ S10) : ∀ n, n ≤ P.length → (∀ k (h : k < P.length), k < n → rbad (rsts (P.take k)) P[k] = false) → Iv (rsts (P.take n)) (P.take n).flatten
  | 0, _, _ => ⟨(fun _ h => by cases h), (fun h => absurd rfl h), rfl⟩
  | n + 1, hn, h => by
    have hlt : n < P.length := by omega
    have ih := iv_at hP n (by omega) fun k hk hkn => h k hk (by omega)
    rw [List.take_succ_eq_append_getElem hlt, rsts_snoc, List.flatten_append, List.flatten_singleton]
    exact iv_step ih (hP _ (List.getElem_mem _)) (h n hlt (by omega))
theorem r9_good : ∀ w ∈ R9, GoodW w := by
  intro w hw
  simp only [R9, List.mem_cons, List.not_mem_nil, or_false] at hw
  have key : ∀ w : List Nat, F_is_line [.str w] = .ok (.bl true, []) → w ≠ [] → w.head? ≠ some 92 → w.length ≤ 100 → GoodW w := fun w h1 h2 h3 h4 => by
    refine ⟨h1, ?_, ⟨_, _, (List.dropLast_concat_getLast h2).symm⟩, h4⟩
    obtain ⟨c, v, e⟩ := List.exists_cons_of_ne_nil h2
    exact ⟨c, v, e, fun hc => h3 (by rw [e, hc]; rfl)⟩
  rcases hw with rfl | rfl | rfl | rfl | rfl | rfl | rfl | rfl | rfl <;> exact key _ rfl (by decide) (by decide) (by decide)
theorem r9_ch : ∀ w ∈ R9, w.all (· < 0x110000) = true := by decide
/-- the law's sign that came ahead, and the program's -/
theorem ahead_at {P : List (List Nat)} : ∀ n, n ≤ P.length → (∀ k (h : k < P.length), k < n → rbad (rsts (P.take k)) P[k] = false) → (rsts (P.take n)).2 = (if n = 0 then [10] else if (P[n - 1]?.getD [] == mkE) = true then [10] else P[n - 1]?.getD []) ∧ ((rsts (P.take n)).2 ≠ [10] → (rsts (P.take n)).1 ≠ [])
  | 0, _, _ => ⟨rfl, fun h => absurd rfl h⟩
  | n + 1, hn, h => by
    have hlt : n < P.length := by omega
    have hb := h n hlt (by omega)
    rw [List.take_succ_eq_append_getElem hlt, rsts_snoc, if_neg (by omega), Nat.add_sub_cancel, List.getElem?_eq_getElem hlt]
    generalize rsts (P.take n) = s at *
    show (rst s P[n]).2 = (if (P[n] == mkE) = true then [10] else P[n]) ∧ _
    generalize P[n] = p at *
    by_cases hh : p.head? = some 92
    · have hm : p = mkE := by
        unfold rbad at hb
        rw [show (p.head? == some 92) = true from by rw [hh]; rfl, Bool.true_and, Bool.or_eq_false_iff] at hb
        simpa using hb.1
      subst hm
      have er : rst s mkE = (s.1.dropLast ++ [dropN (s.1.getLastD [])], [10]) := by unfold rst; rw [if_pos hh]
      rw [er, if_pos (by simp)]
      exact ⟨rfl, fun h => absurd rfl h⟩
    · have er : rst s p = (s.1 ++ [p], p) := by unfold rst; rw [if_neg hh]
      rw [er, if_neg (fun e => hh (by rw [beq_iff_eq.mp e]; rfl))]
      exact ⟨rfl, fun _ => by simp⟩
theorem inF_ah (a : List Nat) : inF (.str a) (.tup [.str mkE, .str [10]]) = some (.bl (a == mkE || a == [10])) := by
  have : inF (.str a) (.tup [.str mkE, .str [10]]) = some (.bl (inDs (.str a) [.str mkE, .str [10]])) := by rcases a with _ | ⟨c, _ | ⟨d, v⟩⟩ <;> rfl
  rw [this]
  show some (D.bl ((mkE == a) || (([10] == a) || false))) = _
  rw [Bool.or_false, BEq.comm (a := mkE), BEq.comm (a := [10])]
theorem s10_ok : ∀ p ∈ S10, p ≠ [] ∧ p.length ≤ 100 ∧ p = dropN p ++ [10] ∧ ¬ 10 ∈ dropN p ∧ p.all (· < 0x110000) = true := by decide
theorem t4_ok : ∀ p ∈ T4, p ≠ [] ∧ p.length ≤ 100 ∧ ¬ 10 ∈ p ∧ p.all (· < 0x110000) = true := by decide
theorem endsS : ∀ w ∈ S10, endsF (.str w) (.str [10]) = some (.bl true) := by
  intro w hw
  simp only [S10, List.mem_cons, List.not_mem_nil, or_false] at hw
  rcases hw with rfl | rfl | rfl | rfl | rfl | rfl | rfl | rfl | rfl | rfl <;> kernel_rfl
theorem endsT : ∀ w ∈ T4, endsF (.str w) (.str [10]) = some (.bl false) := by
  intro w hw
  simp only [T4, List.mem_cons, List.not_mem_nil, or_false] at hw
  rcases hw with rfl | rfl | rfl | rfl <;> kernel_rfl
def fzO : Option D → Bool
  | some d => isFrz d
  | none => true
theorem flat_drop : ∀ {l : List (List Nat)}, (∀ p ∈ l, p = dropN p ++ [10]) → l.flatten = (l.map dropN).flatMap (fun p => p ++ [10]) ∧ (l.map dropN).map (· ++ [10]) = l
  | [], _ => ⟨rfl, rfl⟩
  | p :: l, h => by
    obtain ⟨h1, h2⟩ := flat_drop fun x hx => h x (List.mem_cons_of_mem _ hx)
    have e := h p List.mem_cons_self
    refine ⟨?_, ?_⟩
    · show p ++ l.flatten = (dropN p ++ [10]) ++ (l.map dropN).flatMap (fun p => p ++ [10])
      rw [h1, ← e]
    · show (dropN p ++ [10]) :: (l.map dropN).map (· ++ [10]) = p :: l
      rw [h2, ← e]
theorem ne_nilP {P : List (List Nat)} (h : ∀ p ∈ P, p.all (· < 0x110000) = true) : neF (.nd false .lst (sD P)) (.nd true .lst []) = some (.bl (!P.isEmpty)) := by
  have okP : okD 64 (.nd false .lst (sD P)) = true := by
    show okDs 63 (sD P) = true
    exact okDs_all fun d hd => by
      obtain ⟨w, hw, rfl⟩ := List.mem_map.mp hd
      rw [okD_str]; exact h w hw
  rw [neF_ok okP rfl]
  cases P <;> rfl
theorem law_ok (ns : List Int) (hn : ns.length ≤ 63) : F_law [.nd false .ro (ns.map .int)] = .ok (.bl true, []) := by
  obtain ⟨d0, e0, h0⟩ := draws_ok (ns := ns) (by omega)
  have hz : frz (.nd false .ro (ns.map .int)) = .nd false .ro (ns.map .int) := by show D.nd false .ro (frzs _) = _; rw [frzs_ints]
  have hf : isFrz (.nd false .ro (ns.map .int)) = true := by show (true && areFrz _) = true; rw [areFrz_ints]; rfl
  generalize D.nd false .ro (ns.map .int) = sc at *
  unfold F_law
  refine law_of ?_
  unfold e_law
  rw [show [92, 32, 78, 111, 32, 110, 101, 119, 108, 105, 110, 101, 32, 97, 116, 32, 101, 110, 100, 32, 111, 102, 32, 102, 105, 108, 101, 10] = mkE from rfl]
  simp (config := { maxSteps := 1000000 }) (disch := first | omega | assumption | (simp only [List.length_take, List.length_drop, List.length_append, List.length_cons, List.length_nil, List.length_map, List.length_reverse, List.length_range, List.length_replicate]; omega)) only [↓wp_sSeq, ↓WP0, WP1, List.getElem?_cons_zero, List.getElem?_cons_succ, Bool.false_and, List.singleton_append, List.cons_append, List.set_cons_zero, List.set_cons_succ, List.length_cons, List.length_nil, List.map_nil, List.append_nil, List.nil_append, frzs, frz, isFrz, areFrz, isFrzO, Bool.and_true, Bool.true_and, Bool.and_self, Bool.not_true, Bool.not_false, Bool.false_eq_true, and_self, true_and, and_true, eq_self, lim, Nat.zero_add, Nat.reduceAdd, Nat.reduceLeDiff, Int.reduceAdd, Int.reduceSub, Int.reduceMul, Int.reduceNeg, Int.reduceLT, Int.reduceLE, Int.reduceToNat, decide_true, decide_false, flatD, Int.toNat_natCast, Int.reduceBEq, Int.reduceEq, Nat.reduceBEq, beq_self_eq_true, e0]
  refine for_wp (fun j ρ => ∃ d' y3 y4 y5 y6 y7 y8 y9 y10 y11, ρ = [some sc, some d', some (.str mkE), y3, y4, y5, y6, y7, y8, y9, y10, y11] ∧ fzO y9 = true ∧ DrOk (1000 * j) d') ⟨_, _, _, _, _, _, _, _, _, _, rfl, rfl, h0⟩ ?_ ?_
  · rintro j x ρ hj ⟨d', y3, y4, y5, y6, y7, y8, y9, y10, y11, rfl, hy9, hd'⟩
    obtain ⟨rfl, hj⟩ := rng_get hj
    simp (config := { maxSteps := 1000000 }) (disch := first | omega | assumption | (simp only [List.length_take, List.length_drop, List.length_append, List.length_cons, List.length_nil, List.length_map, List.length_reverse, List.length_range, List.length_replicate]; omega)) only [↓wp_sSeq, ↓WP0, WP1, List.getElem?_cons_zero, List.getElem?_cons_succ, Bool.false_and, List.singleton_append, List.cons_append, List.set_cons_zero, List.set_cons_succ, List.length_cons, List.length_nil, List.map_nil, List.append_nil, List.nil_append, frzs, frz, isFrz, areFrz, isFrzO, Bool.and_true, Bool.true_and, Bool.and_self, Bool.not_true, Bool.not_false, Bool.false_eq_true, and_self, true_and, and_true, eq_self, lim, Nat.zero_add, Nat.reduceAdd, Nat.reduceLeDiff, Int.reduceAdd, Int.reduceSub, Int.reduceMul, Int.reduceNeg, Int.reduceLT, Int.reduceLE, Int.reduceToNat, decide_true, decide_false, flatD, Int.toNat_natCast, Int.reduceBEq, Int.reduceEq, Nat.reduceBEq, beq_self_eq_true, wp_ok]
    refine take_wp hd' (by omega) (by omega) (by omega) fun r d1 r0 r1 hd1 => ?_
    obtain ⟨n, rfl⟩ : ∃ n : Nat, r = n := ⟨r.toNat, by omega⟩
    simp (config := { maxSteps := 1000000 }) (disch := first | omega | assumption | (simp only [List.length_take, List.length_drop, List.length_append, List.length_cons, List.length_nil, List.length_map, List.length_reverse, List.length_range, List.length_replicate]; omega)) only [↓wp_sSeq, ↓WP0, WP1, List.getElem?_cons_zero, List.getElem?_cons_succ, Bool.false_and, List.singleton_append, List.cons_append, List.set_cons_zero, List.set_cons_succ, List.length_cons, List.length_nil, List.map_nil, List.append_nil, List.nil_append, frzs, frz, isFrz, areFrz, isFrzO, Bool.and_true, Bool.true_and, Bool.and_self, Bool.not_true, Bool.not_false, Bool.false_eq_true, and_self, true_and, and_true, eq_self, lim, Nat.zero_add, Nat.reduceAdd, Nat.reduceLeDiff, Int.reduceAdd, Int.reduceSub, Int.reduceMul, Int.reduceNeg, Int.reduceLT, Int.reduceLE, Int.reduceToNat, decide_true, decide_false, flatD, Int.toNat_natCast, Int.reduceBEq, Int.reduceEq, Nat.reduceBEq, beq_self_eq_true, wp_ok]
    refine ⟨hy9, ⟨by omega, ?_⟩⟩
    refine comp_wp (fun i ρ acc => ∃ d2 l, ρ = [some sc, some d2, some (.str mkE), some (.int (0 + (j : Nat))), some (.nd false .lst (sD S10)), y5, y6, y7, y8, none, y10, y11] ∧ acc = sD l ∧ l.length = i ∧ (∀ w ∈ l, w ∈ S10) ∧ DrOk (1000 * j + 1 + 5 * i) d2) ⟨_, [], rfl, rfl, rfl, (fun _ h => by cases h), hd1⟩ ?_ ?_
    · rintro i x ρ acc hi ⟨d2, l, rfl, rfl, hl, hx, hd2⟩
      obtain ⟨rfl, hi⟩ := rng_get hi
      have fS := sD_frz S10
      simp (config := { maxSteps := 1000000 }) (disch := first | omega | assumption | (simp only [List.length_take, List.length_drop, List.length_append, List.length_cons, List.length_nil, List.length_map, List.length_reverse, List.length_range, List.length_replicate]; omega)) only [↓wp_sSeq, ↓WP0, WP1, List.getElem?_cons_zero, List.getElem?_cons_succ, Bool.false_and, List.singleton_append, List.cons_append, List.set_cons_zero, List.set_cons_succ, List.length_cons, List.length_nil, List.map_nil, List.append_nil, List.nil_append, frzs, frz, isFrz, areFrz, isFrzO, Bool.and_true, Bool.true_and, Bool.and_self, Bool.not_true, Bool.not_false, Bool.false_eq_true, and_self, true_and, and_true, eq_self, lim, Nat.zero_add, Nat.reduceAdd, Nat.reduceLeDiff, Int.reduceAdd, Int.reduceSub, Int.reduceMul, Int.reduceNeg, Int.reduceLT, Int.reduceLE, Int.reduceToNat, decide_true, decide_false, flatD, Int.toNat_natCast, Int.reduceBEq, Int.reduceEq, Nat.reduceBEq, beq_self_eq_true, fS]
      refine pick_wp (ds := sD S10) hd2 (by omega) (.inl rfl) (by decide) (by decide) rfl fun y d3 hy hd3 => ?_
      obtain ⟨w, hw, rfl⟩ := List.mem_map.mp hy
      simp (config := { maxSteps := 1000000 }) (disch := first | omega | assumption | (simp only [List.length_take, List.length_drop, List.length_append, List.length_cons, List.length_nil, List.length_map, List.length_reverse, List.length_range, List.length_replicate]; omega)) only [↓wp_sSeq, ↓WP0, WP1, List.getElem?_cons_zero, List.getElem?_cons_succ, Bool.false_and, List.singleton_append, List.cons_append, List.set_cons_zero, List.set_cons_succ, List.length_cons, List.length_nil, List.map_nil, List.append_nil, List.nil_append, frzs, frz, isFrz, areFrz, isFrzO, Bool.and_true, Bool.true_and, Bool.and_self, Bool.not_true, Bool.not_false, Bool.false_eq_true, and_self, true_and, and_true, eq_self, lim, Nat.zero_add, Nat.reduceAdd, Nat.reduceLeDiff, Int.reduceAdd, Int.reduceSub, Int.reduceMul, Int.reduceNeg, Int.reduceLT, Int.reduceLE, Int.reduceToNat, decide_true, decide_false, flatD, Int.toNat_natCast, Int.reduceBEq, Int.reduceEq, Nat.reduceBEq, beq_self_eq_true, wp_ok]
      refine ⟨_, l ++ [w], rfl, (sD_snoc l w).symm, by rw [List.length_append, hl]; rfl, fun v hv => ?_, hd3.mono (by omega)⟩
      rcases List.mem_append.mp hv with h | h
      · exact hx v h
      · rw [List.mem_singleton.mp h]; exact hw
    · rintro ρ acc ⟨d2, l, rfl, rfl, hl, hx, hd2⟩
      rw [rng_len] at hl hd2
      have fl := sD_frz l
      have fl' := frzs_id fl
      have ln := sD_len l
      simp (config := { maxSteps := 1000000 }) (disch := first | omega | assumption | (simp only [List.length_take, List.length_drop, List.length_append, List.length_cons, List.length_nil, List.length_map, List.length_reverse, List.length_range, List.length_replicate]; omega)) only [↓WP0, WP1, List.getElem?_cons_zero, List.getElem?_cons_succ, Bool.false_and, List.singleton_append, List.cons_append, List.set_cons_zero, List.set_cons_succ, List.length_cons, List.length_nil, List.map_nil, List.append_nil, List.nil_append, frzs, frz, isFrz, areFrz, isFrzO, Bool.and_true, Bool.true_and, Bool.and_self, Bool.not_true, Bool.not_false, Bool.false_eq_true, and_self, true_and, and_true, eq_self, lim, Nat.zero_add, Nat.reduceAdd, Nat.reduceLeDiff, Int.reduceAdd, Int.reduceSub, Int.reduceMul, Int.reduceNeg, Int.reduceLT, Int.reduceLE, Int.reduceToNat, decide_true, decide_false, flatD, Int.toNat_natCast, Int.reduceBEq, Int.reduceEq, Nat.reduceBEq, beq_self_eq_true, fl']
      refine mid_wp (fun ρ => ∃ d3 P last, ρ = [some sc, some d3, some (.str mkE), some (.int (0 + (j : Nat))), some (.nd false .lst (sD S10)), some (.nd false .lst (sD P)), y6, y7, y8, y9, y10, y11] ∧ P = l ++ (if last = [] then [] else [last]) ∧ (last ≠ [] → last ∈ T4) ∧ DrOk (1000 * j + 100) d3) ?_ ?_
      · simp (config := { maxSteps := 1000000 }) (disch := first | omega | assumption | (simp only [List.length_take, List.length_drop, List.length_append, List.length_cons, List.length_nil, List.length_map, List.length_reverse, List.length_range, List.length_replicate]; omega)) only [↓wp_sSeq, ↓WP0, WP1, List.getElem?_cons_zero, List.getElem?_cons_succ, Bool.false_and, List.singleton_append, List.cons_append, List.set_cons_zero, List.set_cons_succ, List.length_cons, List.length_nil, List.map_nil, List.append_nil, List.nil_append, frzs, frz, isFrz, areFrz, isFrzO, Bool.and_true, Bool.true_and, Bool.and_self, Bool.not_true, Bool.not_false, Bool.false_eq_true, and_self, true_and, and_true, eq_self, lim, Nat.zero_add, Nat.reduceAdd, Nat.reduceLeDiff, Int.reduceAdd, Int.reduceSub, Int.reduceMul, Int.reduceNeg, Int.reduceLT, Int.reduceLE, Int.reduceToNat, decide_true, decide_false, flatD, Int.toNat_natCast, Int.reduceBEq, Int.reduceEq, Nat.reduceBEq, beq_self_eq_true, wp_ok]
        refine take_wp hd2 (by omega) (by omega) (by omega) fun r d3 r0 r1 hd3 => ?_
        simp (config := { maxSteps := 1000000 }) (disch := first | omega | assumption | (simp only [List.length_take, List.length_drop, List.length_append, List.length_cons, List.length_nil, List.length_map, List.length_reverse, List.length_range, List.length_replicate]; omega)) only [↓wp_sSeq, ↓WP0, WP1, List.getElem?_cons_zero, List.getElem?_cons_succ, Bool.false_and, List.singleton_append, List.cons_append, List.set_cons_zero, List.set_cons_succ, List.length_cons, List.length_nil, List.map_nil, List.append_nil, List.nil_append, frzs, frz, isFrz, areFrz, isFrzO, Bool.and_true, Bool.true_and, Bool.and_self, Bool.not_true, Bool.not_false, Bool.false_eq_true, and_self, true_and, and_true, eq_self, lim, Nat.zero_add, Nat.reduceAdd, Nat.reduceLeDiff, Int.reduceAdd, Int.reduceSub, Int.reduceMul, Int.reduceNeg, Int.reduceLT, Int.reduceLE, Int.reduceToNat, decide_true, decide_false, flatD, Int.toNat_natCast, Int.reduceBEq, Int.reduceEq, Nat.reduceBEq, beq_self_eq_true, wp_ok]
        refine br_split (fun _ => ?_) fun _ => ?_
        · have sm := slD (w := mkE) (by decide)
          simp (config := { maxSteps := 1000000 }) (disch := first | omega | assumption | (simp only [List.length_take, List.length_drop, List.length_append, List.length_cons, List.length_nil, List.length_map, List.length_reverse, List.length_range, List.length_replicate]; omega)) only [↓wp_sSeq, ↓WP0, WP1, List.getElem?_cons_zero, List.getElem?_cons_succ, Bool.false_and, List.singleton_append, List.cons_append, List.set_cons_zero, List.set_cons_succ, List.length_cons, List.length_nil, List.map_nil, List.append_nil, List.nil_append, frzs, frz, isFrz, areFrz, isFrzO, Bool.and_true, Bool.true_and, Bool.and_self, Bool.not_true, Bool.not_false, Bool.false_eq_true, and_self, true_and, and_true, eq_self, lim, Nat.zero_add, Nat.reduceAdd, Nat.reduceLeDiff, Int.reduceAdd, Int.reduceSub, Int.reduceMul, Int.reduceNeg, Int.reduceLT, Int.reduceLE, Int.reduceToNat, decide_true, decide_false, flatD, Int.toNat_natCast, Int.reduceBEq, Int.reduceEq, Nat.reduceBEq, beq_self_eq_true, sm]
          refine pick_wp (ds := sD T4) hd3 (by omega) (.inl rfl) (by decide) (by decide) rfl fun y d4 hy hd4 => ?_
          obtain ⟨w, hw, rfl⟩ := List.mem_map.mp hy
          have a1 : addF (.nd false .lst (sD l)) (.nd false .lst [.str w]) = some (.lst true (sD l ++ [.str w])) := addL fl rfl (by simp; omega)
          have f1 : areFrz (sD l ++ [D.str w]) = true := by rw [← sD_snoc]; exact sD_frz _
          have wn := (t4_ok w hw).1
          simp (config := { maxSteps := 1000000 }) (disch := first | omega | assumption | (simp only [List.length_take, List.length_drop, List.length_append, List.length_cons, List.length_nil, List.length_map, List.length_reverse, List.length_range, List.length_replicate]; omega)) only [↓wp_sSeq, ↓WP0, WP1, List.getElem?_cons_zero, List.getElem?_cons_succ, Bool.false_and, List.singleton_append, List.cons_append, List.set_cons_zero, List.set_cons_succ, List.length_cons, List.length_nil, List.map_nil, List.append_nil, List.nil_append, frzs, frz, isFrz, areFrz, isFrzO, Bool.and_true, Bool.true_and, Bool.and_self, Bool.not_true, Bool.not_false, Bool.false_eq_true, and_self, true_and, and_true, eq_self, lim, Nat.zero_add, Nat.reduceAdd, Nat.reduceLeDiff, Int.reduceAdd, Int.reduceSub, Int.reduceMul, Int.reduceNeg, Int.reduceLT, Int.reduceLE, Int.reduceToNat, decide_true, decide_false, flatD, Int.toNat_natCast, Int.reduceBEq, Int.reduceEq, Nat.reduceBEq, beq_self_eq_true, a1, f1, frzs_id f1]
          exact ⟨d4, l ++ [w], w, by rw [sD_snoc], by rw [if_neg wn], fun _ => hw, hd4.mono (by omega)⟩
        · simp (config := { maxSteps := 1000000 }) (disch := first | omega | assumption | (simp only [List.length_take, List.length_drop, List.length_append, List.length_cons, List.length_nil, List.length_map, List.length_reverse, List.length_range, List.length_replicate]; omega)) only [↓wp_sSeq, ↓WP0, WP1, List.getElem?_cons_zero, List.getElem?_cons_succ, Bool.false_and, List.singleton_append, List.cons_append, List.set_cons_zero, List.set_cons_succ, List.length_cons, List.length_nil, List.map_nil, List.append_nil, List.nil_append, frzs, frz, isFrz, areFrz, isFrzO, Bool.and_true, Bool.true_and, Bool.and_self, Bool.not_true, Bool.not_false, Bool.false_eq_true, and_self, true_and, and_true, eq_self, lim, Nat.zero_add, Nat.reduceAdd, Nat.reduceLeDiff, Int.reduceAdd, Int.reduceSub, Int.reduceMul, Int.reduceNeg, Int.reduceLT, Int.reduceLE, Int.reduceToNat, decide_true, decide_false, flatD, Int.toNat_natCast, Int.reduceBEq, Int.reduceEq, Nat.reduceBEq, beq_self_eq_true, wp_ok]
          exact ⟨d3, l, [], rfl, by simp, fun h => absurd rfl h, hd3.mono (by omega)⟩
      · rintro ρ ⟨d3, P, last, rfl, eP, hlast, hd3⟩
        have hPl : P.length ≤ 9 := by
          rw [eP, List.length_append]
          split <;> simp <;> omega
        have hPok : ∀ p ∈ P, p ≠ [] ∧ p.length ≤ 100 ∧ p.all (· < 0x110000) = true := fun p hp => by
          rw [eP] at hp
          rcases List.mem_append.mp hp with h | h
          · have := s10_ok p (hx p h); exact ⟨this.1, this.2.1, this.2.2.2.2⟩
          · split at h
            · cases h
            · rename_i hne
              have := t4_ok last (hlast hne)
              rw [List.mem_singleton.mp h]; exact ⟨this.1, this.2.1, this.2.2.2⟩
        have fP := sD_frz P
        have fP' := frzs_id fP
        have lP := sD_len P
        simp (config := { maxSteps := 1000000 }) (disch := first | omega | assumption | (simp only [List.length_take, List.length_drop, List.length_append, List.length_cons, List.length_nil, List.length_map, List.length_reverse, List.length_range, List.length_replicate]; omega)) only [↓wp_sSeq, ↓WP0, WP1, List.getElem?_cons_zero, List.getElem?_cons_succ, Bool.false_and, List.singleton_append, List.cons_append, List.set_cons_zero, List.set_cons_succ, List.length_cons, List.length_nil, List.map_nil, List.append_nil, List.nil_append, frzs, frz, isFrz, areFrz, isFrzO, Bool.and_true, Bool.true_and, Bool.and_self, Bool.not_true, Bool.not_false, Bool.false_eq_true, and_self, true_and, and_true, eq_self, lim, Nat.zero_add, Nat.reduceAdd, Nat.reduceLeDiff, Int.reduceAdd, Int.reduceSub, Int.reduceMul, Int.reduceNeg, Int.reduceLT, Int.reduceLE, Int.reduceToNat, decide_true, decide_false, flatD, Int.toNat_natCast, Int.reduceBEq, Int.reduceEq, Nat.reduceBEq, beq_self_eq_true, fP', fP, items_lst]
        refine for_wp (fun i ρ => ∃ due R y9 y10 y11, ρ = [some sc, some d3, some (.str mkE), some (.int (0 + (j : Nat))), some (.nd false .lst (sD S10)), some (.nd false .lst (sD P)), y6, some due, some (.nd false .lst (sD R)), y9, y10, y11] ∧ fzO y9 = true ∧ ((due = .non ∧ (∀ k (h : k < P.length), k < i → rbad (rsts (P.take k)) P[k] = false) ∧ R = (rsts (P.take i)).1) ∨ ∃ k, ∃ h : k < P.length, due = .int (k : Nat) ∧ rbad (rsts (P.take k)) P[k] = true ∧ ∀ i (h : i < k), rbad (rsts (P.take i)) P[i] = false) ∧ R.length ≤ i ∧ (∀ w ∈ R, w.length ≤ 100)) ⟨.non, [], _, _, _, rfl, hy9, .inl ⟨rfl, (fun k h hk => by omega), rfl⟩, Nat.le_refl _, (fun _ h => by cases h)⟩ ?_ ?_
        · rintro i x ρ hi ⟨due, R, y9, y10, y11, rfl, hy9, hcase, hR, hR2⟩
          rw [enuL_get] at hi
          obtain ⟨e, hie, rfl⟩ := Option.map_eq_some_iff.mp hi
          clear hi
          show Op (wTup 2 _ (D.tup [.int ((0 + i : Nat) : Int), e]) _) _ _
          rw [Nat.zero_add]
          have hlt : i < P.length := by
            have := (List.getElem?_eq_some_iff.mp hie).1
            rw [sD_len] at this; exact this
          have : e = .str P[i] := by
            unfold sD at hie
            rw [List.getElem?_map, List.getElem?_eq_getElem hlt] at hie
            exact (Option.some.inj hie).symm
          subst this
          obtain ⟨pn, pl, _⟩ := hPok P[i] (List.getElem_mem _)
          simp (config := { maxSteps := 1000000 }) (disch := first | omega | assumption | (simp only [List.length_take, List.length_drop, List.length_append, List.length_cons, List.length_nil, List.length_map, List.length_reverse, List.length_range, List.length_replicate]; omega)) only [↓WP0, WP1, List.getElem?_cons_zero, List.getElem?_cons_succ, Bool.false_and, List.singleton_append, List.cons_append, List.set_cons_zero, List.set_cons_succ, List.length_cons, List.length_nil, List.map_nil, List.append_nil, List.nil_append, frzs, frz, isFrz, areFrz, isFrzO, Bool.and_true, Bool.true_and, Bool.and_self, Bool.not_true, Bool.not_false, Bool.false_eq_true, and_self, true_and, and_true, eq_self, lim, Nat.zero_add, Nat.reduceAdd, Nat.reduceLeDiff, Int.reduceAdd, Int.reduceSub, Int.reduceMul, Int.reduceNeg, Int.reduceLT, Int.reduceLE, Int.reduceToNat, decide_true, decide_false, flatD, Int.toNat_natCast, Int.reduceBEq, Int.reduceEq, Nat.reduceBEq, beq_self_eq_true, wp_ok]
          refine mid_wp (fun ρ => ρ = [some sc, some d3, some (.str mkE), some (.int (0 + (j : Nat))), some (.nd false .lst (sD S10)), some (.nd false .lst (sD P)), y6, some due, some (.nd false .lst (sD R)), some (.int (i : Nat)), some (.str P[i]), some (.str (if i = 0 then [10] else P[i - 1]?.getD []))]) ?_ ?_
          · simp (config := { maxSteps := 1000000 }) (disch := first | omega | assumption | (simp only [List.length_take, List.length_drop, List.length_append, List.length_cons, List.length_nil, List.length_map, List.length_reverse, List.length_range, List.length_replicate]; omega)) only [↓wp_sSeq, ↓WP0, WP1, List.getElem?_cons_zero, List.getElem?_cons_succ, Bool.false_and, List.singleton_append, List.cons_append, List.set_cons_zero, List.set_cons_succ, List.length_cons, List.length_nil, List.map_nil, List.append_nil, List.nil_append, frzs, frz, isFrz, areFrz, isFrzO, Bool.and_true, Bool.true_and, Bool.and_self, Bool.not_true, Bool.not_false, Bool.false_eq_true, and_self, true_and, and_true, eq_self, lim, Nat.zero_add, Nat.reduceAdd, Nat.reduceLeDiff, Int.reduceAdd, Int.reduceSub, Int.reduceMul, Int.reduceNeg, Int.reduceLT, Int.reduceLE, Int.reduceToNat, decide_true, decide_false, flatD, Int.toNat_natCast, Int.reduceBEq, Int.reduceEq, Nat.reduceBEq, beq_self_eq_true, wp_ok]
            refine br_if (fun h0 => ?_) fun h0 => ?_
            · have hi1 : i - 1 < P.length := by omega
              have gx : getIx (.nd false .lst (sD P)) (.int ((i : Int) - 1)) = some (.str (P[i - 1]?.getD [])) := by
                rw [getIx_lst, atI_ok (by omega) (by rw [sD_len]; omega), show ((i : Int) - 1).toNat = i - 1 by omega]
                unfold sD
                rw [List.getElem?_map, List.getElem?_eq_getElem hi1]; rfl
              simp (config := { maxSteps := 1000000 }) (disch := first | omega | assumption | (simp only [List.length_take, List.length_drop, List.length_append, List.length_cons, List.length_nil, List.length_map, List.length_reverse, List.length_range, List.length_replicate]; omega)) only [↓wp_sSeq, ↓WP0, WP1, List.getElem?_cons_zero, List.getElem?_cons_succ, Bool.false_and, List.singleton_append, List.cons_append, List.set_cons_zero, List.set_cons_succ, List.length_cons, List.length_nil, List.map_nil, List.append_nil, List.nil_append, frzs, frz, isFrz, areFrz, isFrzO, Bool.and_true, Bool.true_and, Bool.and_self, Bool.not_true, Bool.not_false, Bool.false_eq_true, and_self, true_and, and_true, eq_self, lim, Nat.zero_add, Nat.reduceAdd, Nat.reduceLeDiff, Int.reduceAdd, Int.reduceSub, Int.reduceMul, Int.reduceNeg, Int.reduceLT, Int.reduceLE, Int.reduceToNat, decide_true, decide_false, flatD, Int.toNat_natCast, Int.reduceBEq, Int.reduceEq, Nat.reduceBEq, beq_self_eq_true, gx]
              rw [if_neg (by omega)]
            · simp (config := { maxSteps := 1000000 }) (disch := first | omega | assumption | (simp only [List.length_take, List.length_drop, List.length_append, List.length_cons, List.length_nil, List.length_map, List.length_reverse, List.length_range, List.length_replicate]; omega)) only [↓wp_sSeq, ↓WP0, WP1, List.getElem?_cons_zero, List.getElem?_cons_succ, Bool.false_and, List.singleton_append, List.cons_append, List.set_cons_zero, List.set_cons_succ, List.length_cons, List.length_nil, List.map_nil, List.append_nil, List.nil_append, frzs, frz, isFrz, areFrz, isFrzO, Bool.and_true, Bool.true_and, Bool.and_self, Bool.not_true, Bool.not_false, Bool.false_eq_true, and_self, true_and, and_true, eq_self, lim, Nat.zero_add, Nat.reduceAdd, Nat.reduceLeDiff, Int.reduceAdd, Int.reduceSub, Int.reduceMul, Int.reduceNeg, Int.reduceLT, Int.reduceLE, Int.reduceToNat, decide_true, decide_false, flatD, Int.toNat_natCast, Int.reduceBEq, Int.reduceEq, Nat.reduceBEq, beq_self_eq_true, wp_ok]
              rw [if_pos (by omega)]
          · rintro ρ rfl
            have es := rsts_snoc (P.take i) P[i]
            rw [← List.take_succ_eq_append_getElem hlt] at es
            generalize hah : (if i = 0 then [10] else P[i - 1]?.getD []) = ah
            have fR := sD_frz R
            have lR := sD_len R
            obtain ⟨c, v, ep⟩ := List.exists_cons_of_ne_nil pn
            have g0 : getIx (.str P[i]) (.int 0) = some (.str [c]) := by rw [ep]; exact getS_0 (by rw [← ep]; omega)
            have n92 : neF (.str [c]) (.str [92]) = some (.bl (!([c] == [92]))) := rfl
            have nmk : neF (.str P[i]) (.str mkE) = some (.bl (!(P[i] == mkE))) := rfl
            have aR : addF (.nd false .lst (sD R)) (.nd false .lst [.str P[i]]) = some (.lst true (sD (R ++ [P[i]]))) := by
              rw [addL fR rfl (by simp; omega), sD_snoc]
            have fR2 := sD_frz (R ++ [P[i]])
            have hR3 : ∀ w ∈ R ++ [P[i]], w.length ≤ 100 := fun w hw => by
              rcases List.mem_append.mp hw with h | h
              · exact hR2 w h
              · rw [List.mem_singleton.mp h]; exact pl
            have hR4 : (R ++ [P[i]]).length ≤ i + 1 := by rw [List.length_append]; simp; omega
            rcases hcase with ⟨rfl, hall, hRe⟩ | ⟨k, hk, rfl, hkb, hka⟩
            · obtain ⟨A1, A2⟩ := ahead_at i (by omega) hall
              have key : (ah == mkE || ah == [10]) = ((rsts (P.take i)).2 == [10]) := by
                rw [A1, ← hah]
                by_cases h0 : i = 0
                · rw [if_pos h0, if_pos h0]; rfl
                · rw [if_neg h0, if_neg h0]
                  cases hm : (P[i - 1]?.getD [] == mkE)
                  · rw [if_neg (by simp), Bool.false_or]
                  · rw [if_pos rfl]; rfl
              have i1 : isF .non .non = some (.bl true) := rfl
              have hall2 : rbad (rsts (P.take i)) P[i] = false → ∀ k (h : k < P.length), k < i + 1 → rbad (rsts (P.take k)) P[k] = false := fun hb k h hk => by
                by_cases e : k = i
                · subst e; exact hb
                · exact hall k h (by omega)
              simp (config := { maxSteps := 1000000 }) (disch := first | omega | assumption | (simp only [List.length_take, List.length_drop, List.length_append, List.length_cons, List.length_nil, List.length_map, List.length_reverse, List.length_range, List.length_replicate]; omega)) only [↓wp_sSeq, ↓WP0, WP1, List.getElem?_cons_zero, List.getElem?_cons_succ, Bool.false_and, List.singleton_append, List.cons_append, List.set_cons_zero, List.set_cons_succ, List.length_cons, List.length_nil, List.map_nil, List.append_nil, List.nil_append, frzs, frz, isFrz, areFrz, isFrzO, Bool.and_true, Bool.true_and, Bool.and_self, Bool.not_true, Bool.not_false, Bool.false_eq_true, and_self, true_and, and_true, eq_self, lim, Nat.zero_add, Nat.reduceAdd, Nat.reduceLeDiff, Int.reduceAdd, Int.reduceSub, Int.reduceMul, Int.reduceNeg, Int.reduceLT, Int.reduceLE, Int.reduceToNat, decide_true, decide_false, flatD, Int.toNat_natCast, Int.reduceBEq, Int.reduceEq, Nat.reduceBEq, beq_self_eq_true, g0, eqF_str, i1]
              refine br_split (fun hc => ?_) fun hc => ?_
              · have hc : c = 92 := by simpa using hc
                have hd92 : (P[i].head? == some 92) = true := by rw [ep, hc]; rfl
                have bad : (P[i] != mkE || (rsts (P.take i)).2 == [10]) = true → rbad (rsts (P.take i)) P[i] = true := fun e => by
                  unfold rbad
                  rw [hd92, e]; rfl
                have hcb : ([c] == [92]) = true := by rw [hc]; rfl
                have i2 : isF (.int (i : Nat)) .non = some (.bl false) := rfl
                have fin : rbad (rsts (P.take i)) P[i] = true → ∃ k, ∃ h : k < P.length, D.int (i : Nat) = D.int (k : Nat) ∧ rbad (rsts (P.take k)) P[k] = true ∧ ∀ i (h : i < k), rbad (rsts (P.take i)) P[i] = false := fun hb => ⟨i, hlt, rfl, hb, fun i' h => hall i' (by omega) h⟩
                simp (config := { maxSteps := 1000000 }) (disch := first | omega | assumption | (simp only [List.length_take, List.length_drop, List.length_append, List.length_cons, List.length_nil, List.length_map, List.length_reverse, List.length_range, List.length_replicate]; omega)) only [↓wp_sSeq, ↓WP0, WP1, List.getElem?_cons_zero, List.getElem?_cons_succ, Bool.false_and, List.singleton_append, List.cons_append, List.set_cons_zero, List.set_cons_succ, List.length_cons, List.length_nil, List.map_nil, List.append_nil, List.nil_append, frzs, frz, isFrz, areFrz, isFrzO, Bool.and_true, Bool.true_and, Bool.and_self, Bool.not_true, Bool.not_false, Bool.false_eq_true, and_self, true_and, and_true, eq_self, lim, Nat.zero_add, Nat.reduceAdd, Nat.reduceLeDiff, Int.reduceAdd, Int.reduceSub, Int.reduceMul, Int.reduceNeg, Int.reduceLT, Int.reduceLE, Int.reduceToNat, decide_true, decide_false, flatD, Int.toNat_natCast, Int.reduceBEq, Int.reduceEq, Nat.reduceBEq, beq_self_eq_true, i1, nmk]
                refine br_split (fun hm => ?_) fun hm => ?_
                · simp (config := { maxSteps := 1000000 }) (disch := first | omega | assumption | (simp only [List.length_take, List.length_drop, List.length_append, List.length_cons, List.length_nil, List.length_map, List.length_reverse, List.length_range, List.length_replicate]; omega)) only [↓wp_sSeq, ↓WP0, WP1, List.getElem?_cons_zero, List.getElem?_cons_succ, Bool.false_and, List.singleton_append, List.cons_append, List.set_cons_zero, List.set_cons_succ, List.length_cons, List.length_nil, List.map_nil, List.append_nil, List.nil_append, frzs, frz, isFrz, areFrz, isFrzO, Bool.and_true, Bool.true_and, Bool.and_self, Bool.not_true, Bool.not_false, Bool.false_eq_true, and_self, true_and, and_true, eq_self, lim, Nat.zero_add, Nat.reduceAdd, Nat.reduceLeDiff, Int.reduceAdd, Int.reduceSub, Int.reduceMul, Int.reduceNeg, Int.reduceLT, Int.reduceLE, Int.reduceToNat, decide_true, decide_false, flatD, Int.toNat_natCast, Int.reduceBEq, Int.reduceEq, Nat.reduceBEq, beq_self_eq_true, inF_ah]
                  refine br_split (fun ha => ?_) fun ha => ?_
                  · simp (config := { maxSteps := 1000000 }) (disch := first | omega | assumption | (simp only [List.length_take, List.length_drop, List.length_append, List.length_cons, List.length_nil, List.length_map, List.length_reverse, List.length_range, List.length_replicate]; omega)) only [↓wp_sSeq, ↓WP0, WP1, List.getElem?_cons_zero, List.getElem?_cons_succ, Bool.false_and, List.singleton_append, List.cons_append, List.set_cons_zero, List.set_cons_succ, List.length_cons, List.length_nil, List.map_nil, List.append_nil, List.nil_append, frzs, frz, isFrz, areFrz, isFrzO, Bool.and_true, Bool.true_and, Bool.and_self, Bool.not_true, Bool.not_false, Bool.false_eq_true, and_self, true_and, and_true, eq_self, lim, Nat.zero_add, Nat.reduceAdd, Nat.reduceLeDiff, Int.reduceAdd, Int.reduceSub, Int.reduceMul, Int.reduceNeg, Int.reduceLT, Int.reduceLE, Int.reduceToNat, decide_true, decide_false, flatD, Int.toNat_natCast, Int.reduceBEq, Int.reduceEq, Nat.reduceBEq, beq_self_eq_true, g0, n92]
                    rw [br_t hcb]
                    simp (config := { maxSteps := 1000000 }) (disch := first | omega | assumption | (simp only [List.length_take, List.length_drop, List.length_append, List.length_cons, List.length_nil, List.length_map, List.length_reverse, List.length_range, List.length_replicate]; omega)) only [↓wp_sSeq, ↓WP0, WP1, List.getElem?_cons_zero, List.getElem?_cons_succ, Bool.false_and, List.singleton_append, List.cons_append, List.set_cons_zero, List.set_cons_succ, List.length_cons, List.length_nil, List.map_nil, List.append_nil, List.nil_append, frzs, frz, isFrz, areFrz, isFrzO, Bool.and_true, Bool.true_and, Bool.and_self, Bool.not_true, Bool.not_false, Bool.false_eq_true, and_self, true_and, and_true, eq_self, lim, Nat.zero_add, Nat.reduceAdd, Nat.reduceLeDiff, Int.reduceAdd, Int.reduceSub, Int.reduceMul, Int.reduceNeg, Int.reduceLT, Int.reduceLE, Int.reduceToNat, decide_true, decide_false, flatD, Int.toNat_natCast, Int.reduceBEq, Int.reduceEq, Nat.reduceBEq, beq_self_eq_true, i2, fR, frzs_id fR]
                    exact ⟨.int (i : Nat), R, _, _, _, rfl, rfl, .inr (fin (bad (by rw [← key, ha]; simp))), by omega, hR2⟩
                  · simp (config := { maxSteps := 1000000 }) (disch := first | omega | assumption | (simp only [List.length_take, List.length_drop, List.length_append, List.length_cons, List.length_nil, List.length_map, List.length_reverse, List.length_range, List.length_replicate]; omega)) only [↓wp_sSeq, ↓WP0, WP1, List.getElem?_cons_zero, List.getElem?_cons_succ, Bool.false_and, List.singleton_append, List.cons_append, List.set_cons_zero, List.set_cons_succ, List.length_cons, List.length_nil, List.map_nil, List.append_nil, List.nil_append, frzs, frz, isFrz, areFrz, isFrzO, Bool.and_true, Bool.true_and, Bool.and_self, Bool.not_true, Bool.not_false, Bool.false_eq_true, and_self, true_and, and_true, eq_self, lim, Nat.zero_add, Nat.reduceAdd, Nat.reduceLeDiff, Int.reduceAdd, Int.reduceSub, Int.reduceMul, Int.reduceNeg, Int.reduceLT, Int.reduceLE, Int.reduceToNat, decide_true, decide_false, flatD, Int.toNat_natCast, Int.reduceBEq, Int.reduceEq, Nat.reduceBEq, beq_self_eq_true, g0, n92]
                    rw [br_t hcb]
                    have h10 : ((rsts (P.take i)).2 == [10]) = false := by rw [← key]; exact ha
                    have em : P[i] = mkE := by simpa using hm
                    have hRn : R ≠ [] := by rw [hRe]; exact A2 (by simpa using h10)
                    have eR := (List.dropLast_concat_getLast hRn).symm
                    have eD : sD R = sD R.dropLast ++ [.str (R.getLast hRn)] := by
                      conv => lhs; rw [eR]
                      exact sD_snoc _ _
                    have lw := hR2 _ (List.getLast_mem hRn)
                    have fd := sD_frz R.dropLast
                    have ld := sD_len R.dropLast
                    rw [List.length_dropLast] at ld
                    have q1 : slF (.nd false .lst (sD R)) none (some (-1)) = some (.lst true (sD R.dropLast)) := by
                      rw [slL fR, cutD, eD]
                      simp
                    have q2 : getIx (.nd false .lst (sD R)) (.int (-1)) = some (.str (R.getLast hRn)) := by rw [eD]; exact getLast_s false _ _
                    have q3 := slD (w := R.getLast hRn) (by omega)
                    have q4 : addF (.nd true .lst (sD R.dropLast)) (.nd false .lst [.str (dropN (R.getLast hRn))]) = some (.lst true (sD (R.dropLast ++ [dropN (R.getLast hRn)]))) := by rw [addL fd rfl (by simp; omega), sD_snoc]
                    have f4 := sD_frz (R.dropLast ++ [dropN (R.getLast hRn)])
                    have nb : rbad (rsts (P.take i)) P[i] = false := by
                      unfold rbad
                      rw [hd92, h10, em]; simp
                    have er : (rsts (P.take (i + 1))).1 = R.dropLast ++ [dropN (R.getLast hRn)] := by
                      rw [es]
                      unfold rst
                      rw [if_pos (by simpa using hd92), ← hRe]
                      show R.dropLast ++ [dropN (R.getLastD [])] = _
                      rw [List.getLastD_eq_getLast?, List.getLast?_eq_some_getLast hRn]; rfl
                    simp (config := { maxSteps := 1000000 }) (disch := first | omega | assumption | (simp only [List.length_take, List.length_drop, List.length_append, List.length_cons, List.length_nil, List.length_map, List.length_reverse, List.length_range, List.length_replicate]; omega)) only [↓wp_sSeq, ↓WP0, WP1, List.getElem?_cons_zero, List.getElem?_cons_succ, Bool.false_and, List.singleton_append, List.cons_append, List.set_cons_zero, List.set_cons_succ, List.length_cons, List.length_nil, List.map_nil, List.append_nil, List.nil_append, frzs, frz, isFrz, areFrz, isFrzO, Bool.and_true, Bool.true_and, Bool.and_self, Bool.not_true, Bool.not_false, Bool.false_eq_true, and_self, true_and, and_true, eq_self, lim, Nat.zero_add, Nat.reduceAdd, Nat.reduceLeDiff, Int.reduceAdd, Int.reduceSub, Int.reduceMul, Int.reduceNeg, Int.reduceLT, Int.reduceLE, Int.reduceToNat, decide_true, decide_false, flatD, Int.toNat_natCast, Int.reduceBEq, Int.reduceEq, Nat.reduceBEq, beq_self_eq_true, i1, q1, q2, q3, q4, f4, frzs_id f4]
                    refine ⟨.non, R.dropLast ++ [dropN (R.getLast hRn)], _, _, _, rfl, rfl, .inl ⟨rfl, hall2 nb, er.symm⟩, by rw [List.length_append, List.length_dropLast]; simp; omega, fun w hw => ?_⟩
                    rcases List.mem_append.mp hw with h | h
                    · exact hR2 w (by rw [eR]; exact List.mem_append_left _ h)
                    · rw [List.mem_singleton.mp h]
                      unfold dropN
                      rw [List.length_take]; omega
                · simp (config := { maxSteps := 1000000 }) (disch := first | omega | assumption | (simp only [List.length_take, List.length_drop, List.length_append, List.length_cons, List.length_nil, List.length_map, List.length_reverse, List.length_range, List.length_replicate]; omega)) only [↓wp_sSeq, ↓WP0, WP1, List.getElem?_cons_zero, List.getElem?_cons_succ, Bool.false_and, List.singleton_append, List.cons_append, List.set_cons_zero, List.set_cons_succ, List.length_cons, List.length_nil, List.map_nil, List.append_nil, List.nil_append, frzs, frz, isFrz, areFrz, isFrzO, Bool.and_true, Bool.true_and, Bool.and_self, Bool.not_true, Bool.not_false, Bool.false_eq_true, and_self, true_and, and_true, eq_self, lim, Nat.zero_add, Nat.reduceAdd, Nat.reduceLeDiff, Int.reduceAdd, Int.reduceSub, Int.reduceMul, Int.reduceNeg, Int.reduceLT, Int.reduceLE, Int.reduceToNat, decide_true, decide_false, flatD, Int.toNat_natCast, Int.reduceBEq, Int.reduceEq, Nat.reduceBEq, beq_self_eq_true, g0, n92]
                  rw [br_t hcb]
                  simp (config := { maxSteps := 1000000 }) (disch := first | omega | assumption | (simp only [List.length_take, List.length_drop, List.length_append, List.length_cons, List.length_nil, List.length_map, List.length_reverse, List.length_range, List.length_replicate]; omega)) only [↓wp_sSeq, ↓WP0, WP1, List.getElem?_cons_zero, List.getElem?_cons_succ, Bool.false_and, List.singleton_append, List.cons_append, List.set_cons_zero, List.set_cons_succ, List.length_cons, List.length_nil, List.map_nil, List.append_nil, List.nil_append, frzs, frz, isFrz, areFrz, isFrzO, Bool.and_true, Bool.true_and, Bool.and_self, Bool.not_true, Bool.not_false, Bool.false_eq_true, and_self, true_and, and_true, eq_self, lim, Nat.zero_add, Nat.reduceAdd, Nat.reduceLeDiff, Int.reduceAdd, Int.reduceSub, Int.reduceMul, Int.reduceNeg, Int.reduceLT, Int.reduceLE, Int.reduceToNat, decide_true, decide_false, flatD, Int.toNat_natCast, Int.reduceBEq, Int.reduceEq, Nat.reduceBEq, beq_self_eq_true, i2, fR, frzs_id fR]
                  exact ⟨.int (i : Nat), R, _, _, _, rfl, rfl, .inr (fin (bad (by rw [bne, hm]; rfl))), by omega, hR2⟩
              · have hc : c ≠ 92 := by simpa using hc
                have hd : (P[i].head? == some 92) = false := by rw [ep]; simpa using hc
                have nb : rbad (rsts (P.take i)) P[i] = false := by
                  unfold rbad
                  rw [hd]; rfl
                have er : (rsts (P.take (i + 1))).1 = R ++ [P[i]] := by
                  rw [es]
                  unfold rst
                  rw [if_neg (by simpa using hd), ← hRe]
                simp (config := { maxSteps := 1000000 }) (disch := first | omega | assumption | (simp only [List.length_take, List.length_drop, List.length_append, List.length_cons, List.length_nil, List.length_map, List.length_reverse, List.length_range, List.length_replicate]; omega)) only [↓wp_sSeq, ↓WP0, WP1, List.getElem?_cons_zero, List.getElem?_cons_succ, Bool.false_and, List.singleton_append, List.cons_append, List.set_cons_zero, List.set_cons_succ, List.length_cons, List.length_nil, List.map_nil, List.append_nil, List.nil_append, frzs, frz, isFrz, areFrz, isFrzO, Bool.and_true, Bool.true_and, Bool.and_self, Bool.not_true, Bool.not_false, Bool.false_eq_true, and_self, true_and, and_true, eq_self, lim, Nat.zero_add, Nat.reduceAdd, Nat.reduceLeDiff, Int.reduceAdd, Int.reduceSub, Int.reduceMul, Int.reduceNeg, Int.reduceLT, Int.reduceLE, Int.reduceToNat, decide_true, decide_false, flatD, Int.toNat_natCast, Int.reduceBEq, Int.reduceEq, Nat.reduceBEq, beq_self_eq_true, g0, n92]
                rw [br_f (by simpa using hc)]
                simp (config := { maxSteps := 1000000 }) (disch := first | omega | assumption | (simp only [List.length_take, List.length_drop, List.length_append, List.length_cons, List.length_nil, List.length_map, List.length_reverse, List.length_range, List.length_replicate]; omega)) only [↓wp_sSeq, ↓WP0, WP1, List.getElem?_cons_zero, List.getElem?_cons_succ, Bool.false_and, List.singleton_append, List.cons_append, List.set_cons_zero, List.set_cons_succ, List.length_cons, List.length_nil, List.map_nil, List.append_nil, List.nil_append, frzs, frz, isFrz, areFrz, isFrzO, Bool.and_true, Bool.true_and, Bool.and_self, Bool.not_true, Bool.not_false, Bool.false_eq_true, and_self, true_and, and_true, eq_self, lim, Nat.zero_add, Nat.reduceAdd, Nat.reduceLeDiff, Int.reduceAdd, Int.reduceSub, Int.reduceMul, Int.reduceNeg, Int.reduceLT, Int.reduceLE, Int.reduceToNat, decide_true, decide_false, flatD, Int.toNat_natCast, Int.reduceBEq, Int.reduceEq, Nat.reduceBEq, beq_self_eq_true, aR, fR2, frzs_id fR2]
                exact ⟨.non, R ++ [P[i]], _, _, _, rfl, rfl, .inl ⟨rfl, hall2 nb, er.symm⟩, hR4, hR3⟩
            · have i2 : isF (.int (k : Nat)) .non = some (.bl false) := rfl
              have fin : ∃ k', ∃ h : k' < P.length, D.int (k : Nat) = D.int (k' : Nat) ∧ rbad (rsts (P.take k')) P[k'] = true ∧ ∀ i (h : i < k'), rbad (rsts (P.take i)) P[i] = false := ⟨k, hk, rfl, hkb, hka⟩
              simp (config := { maxSteps := 1000000 }) (disch := first | omega | assumption | (simp only [List.length_take, List.length_drop, List.length_append, List.length_cons, List.length_nil, List.length_map, List.length_reverse, List.length_range, List.length_replicate]; omega)) only [↓wp_sSeq, ↓WP0, WP1, List.getElem?_cons_zero, List.getElem?_cons_succ, Bool.false_and, List.singleton_append, List.cons_append, List.set_cons_zero, List.set_cons_succ, List.length_cons, List.length_nil, List.map_nil, List.append_nil, List.nil_append, frzs, frz, isFrz, areFrz, isFrzO, Bool.and_true, Bool.true_and, Bool.and_self, Bool.not_true, Bool.not_false, Bool.false_eq_true, and_self, true_and, and_true, eq_self, lim, Nat.zero_add, Nat.reduceAdd, Nat.reduceLeDiff, Int.reduceAdd, Int.reduceSub, Int.reduceMul, Int.reduceNeg, Int.reduceLT, Int.reduceLE, Int.reduceToNat, decide_true, decide_false, flatD, Int.toNat_natCast, Int.reduceBEq, Int.reduceEq, Nat.reduceBEq, beq_self_eq_true, g0, eqF_str, i2]
              refine br_split (fun hc => ?_) fun hc => ?_
              · simp (config := { maxSteps := 1000000 }) (disch := first | omega | assumption | (simp only [List.length_take, List.length_drop, List.length_append, List.length_cons, List.length_nil, List.length_map, List.length_reverse, List.length_range, List.length_replicate]; omega)) only [↓wp_sSeq, ↓WP0, WP1, List.getElem?_cons_zero, List.getElem?_cons_succ, Bool.false_and, List.singleton_append, List.cons_append, List.set_cons_zero, List.set_cons_succ, List.length_cons, List.length_nil, List.map_nil, List.append_nil, List.nil_append, frzs, frz, isFrz, areFrz, isFrzO, Bool.and_true, Bool.true_and, Bool.and_self, Bool.not_true, Bool.not_false, Bool.false_eq_true, and_self, true_and, and_true, eq_self, lim, Nat.zero_add, Nat.reduceAdd, Nat.reduceLeDiff, Int.reduceAdd, Int.reduceSub, Int.reduceMul, Int.reduceNeg, Int.reduceLT, Int.reduceLE, Int.reduceToNat, decide_true, decide_false, flatD, Int.toNat_natCast, Int.reduceBEq, Int.reduceEq, Nat.reduceBEq, beq_self_eq_true, i2, g0, n92]
                rw [br_t hc]
                simp (config := { maxSteps := 1000000 }) (disch := first | omega | assumption | (simp only [List.length_take, List.length_drop, List.length_append, List.length_cons, List.length_nil, List.length_map, List.length_reverse, List.length_range, List.length_replicate]; omega)) only [↓wp_sSeq, ↓WP0, WP1, List.getElem?_cons_zero, List.getElem?_cons_succ, Bool.false_and, List.singleton_append, List.cons_append, List.set_cons_zero, List.set_cons_succ, List.length_cons, List.length_nil, List.map_nil, List.append_nil, List.nil_append, frzs, frz, isFrz, areFrz, isFrzO, Bool.and_true, Bool.true_and, Bool.and_self, Bool.not_true, Bool.not_false, Bool.false_eq_true, and_self, true_and, and_true, eq_self, lim, Nat.zero_add, Nat.reduceAdd, Nat.reduceLeDiff, Int.reduceAdd, Int.reduceSub, Int.reduceMul, Int.reduceNeg, Int.reduceLT, Int.reduceLE, Int.reduceToNat, decide_true, decide_false, flatD, Int.toNat_natCast, Int.reduceBEq, Int.reduceEq, Nat.reduceBEq, beq_self_eq_true, i2, fR, frzs_id fR]
                exact ⟨.int (k : Nat), R, _, _, _, rfl, rfl, .inr fin, by omega, hR2⟩
              · simp (config := { maxSteps := 1000000 }) (disch := first | omega | assumption | (simp only [List.length_take, List.length_drop, List.length_append, List.length_cons, List.length_nil, List.length_map, List.length_reverse, List.length_range, List.length_replicate]; omega)) only [↓wp_sSeq, ↓WP0, WP1, List.getElem?_cons_zero, List.getElem?_cons_succ, Bool.false_and, List.singleton_append, List.cons_append, List.set_cons_zero, List.set_cons_succ, List.length_cons, List.length_nil, List.map_nil, List.append_nil, List.nil_append, frzs, frz, isFrz, areFrz, isFrzO, Bool.and_true, Bool.true_and, Bool.and_self, Bool.not_true, Bool.not_false, Bool.false_eq_true, and_self, true_and, and_true, eq_self, lim, Nat.zero_add, Nat.reduceAdd, Nat.reduceLeDiff, Int.reduceAdd, Int.reduceSub, Int.reduceMul, Int.reduceNeg, Int.reduceLT, Int.reduceLE, Int.reduceToNat, decide_true, decide_false, flatD, Int.toNat_natCast, Int.reduceBEq, Int.reduceEq, Nat.reduceBEq, beq_self_eq_true, i2, g0, n92]
                rw [br_f hc]
                simp (config := { maxSteps := 1000000 }) (disch := first | omega | assumption | (simp only [List.length_take, List.length_drop, List.length_append, List.length_cons, List.length_nil, List.length_map, List.length_reverse, List.length_range, List.length_replicate]; omega)) only [↓wp_sSeq, ↓WP0, WP1, List.getElem?_cons_zero, List.getElem?_cons_succ, Bool.false_and, List.singleton_append, List.cons_append, List.set_cons_zero, List.set_cons_succ, List.length_cons, List.length_nil, List.map_nil, List.append_nil, List.nil_append, frzs, frz, isFrz, areFrz, isFrzO, Bool.and_true, Bool.true_and, Bool.and_self, Bool.not_true, Bool.not_false, Bool.false_eq_true, and_self, true_and, and_true, eq_self, lim, Nat.zero_add, Nat.reduceAdd, Nat.reduceLeDiff, Int.reduceAdd, Int.reduceSub, Int.reduceMul, Int.reduceNeg, Int.reduceLT, Int.reduceLE, Int.reduceToNat, decide_true, decide_false, flatD, Int.toNat_natCast, Int.reduceBEq, Int.reduceEq, Nat.reduceBEq, beq_self_eq_true, aR, fR2, frzs_id fR2]
                exact ⟨.int (k : Nat), R ++ [P[i]], _, _, _, rfl, rfl, .inr fin, hR4, hR3⟩
        · rintro ρ ⟨due, R, y9, y10, y11, rfl, hy9, hcase, hR, hR2⟩
          rw [enuL_len, sD_len] at hcase hR
          rw [List.take_length] at hcase
          have hl10 : ∀ p ∈ l, p = dropN p ++ [10] := fun p hp => (s10_ok p (hx p hp)).2.2.1
          obtain ⟨fd1, fd2⟩ := flat_drop hl10
          have hpc : ∀ p ∈ P, p.all (· < 0x110000) = true := fun p hp => (hPok p hp).2.2
          have ePs : P = piecesOf (l.map dropN) last := by unfold piecesOf; rw [fd2]; exact eP
          have ef : P.flatten = ((l.map dropN).flatMap fun p => p ++ [10]) ++ last := by
            rw [eP, List.flatten_append, fd1]
            congr 1
            split
            · rename_i h; rw [h]; rfl
            · simp
          have flen : P.flatten.length ≤ 100 * P.length := by
            rw [List.length_flatten]
            have : ∀ Q : List (List Nat), (∀ p ∈ Q, p.length ≤ 100) → (Q.map List.length).sum ≤ 100 * Q.length := by
              intro Q
              induction Q with
              | nil => intro _; simp
              | cons q Q ih =>
                intro h
                have h1 := h q List.mem_cons_self
                have h2 := ih fun x hx => h x (List.mem_cons_of_mem _ hx)
                rw [List.map_cons, List.sum_cons, List.length_cons]; omega
            exact this P fun p hp => (hPok p hp).2.1
          have jn := joinF_sD false (l := P) (by omega)
          have nP := ne_nilP hpc
          have fR := sD_frz R
          have fR' := frzs_id fR
          have lR := sD_len R
          have hp10 : ∀ p ∈ l.map dropN, ¬ 10 ∈ p := fun p hp => by
            obtain ⟨q, hq, rfl⟩ := List.mem_map.mp hp
            exact (s10_ok q (hx q hq)).2.2.2.1
          have hl0 : ¬ 10 ∈ last := by
            by_cases h : last = []
            · rw [h]; simp
            · exact (t4_ok last (hlast h)).2.2.1
          have hll : last.length ≤ 200 := by
            by_cases h : last = []
            · rw [h]; simp
            · have := (t4_ok last (hlast h)).2.1; omega
          have hps : ∀ p ∈ l.map dropN, p.length ≤ 200 := fun p hp => by
            obtain ⟨q, hq, rfl⟩ := List.mem_map.mp hp
            have := (s10_ok q (hx q hq)).2.1
            unfold dropN
            rw [List.length_take]; omega
          have hnl : (l.map dropN).length ≤ 300 := by rw [List.length_map]; omega
          have cl : ∀ k : Nat, cwD (clause c_BadRow clT) [.str [110, 117, 109, 98, 101, 114], .int (k : Nat)] = some (.tup [.str [114, 111, 119], .int (k : Nat)]) := fun _ => rfl
          have s1 : ∀ k : Nat, F_q_same 6 [.tup [.str [114, 111, 119], .int (k : Nat)], .tup [.str [114, 111, 119], .int (k : Nat)]] = .ok (.bl true, []) := fun k => same_pl (n := 6) rfl
          rcases hcase with ⟨rfl, hall, hRe⟩ | ⟨k, hk, rfl, hkb, hka⟩
          · have i1 : isF .non .non = some (.bl true) := rfl
            simp (config := { maxSteps := 1000000 }) (disch := first | omega | assumption | (simp only [List.length_take, List.length_drop, List.length_append, List.length_cons, List.length_nil, List.length_map, List.length_reverse, List.length_range, List.length_replicate]; omega)) only [↓WP0, WP1, List.getElem?_cons_zero, List.getElem?_cons_succ, Bool.false_and, List.singleton_append, List.cons_append, List.set_cons_zero, List.set_cons_succ, List.length_cons, List.length_nil, List.map_nil, List.append_nil, List.nil_append, frzs, frz, isFrz, areFrz, isFrzO, Bool.and_true, Bool.true_and, Bool.and_self, Bool.not_true, Bool.not_false, Bool.false_eq_true, and_self, true_and, and_true, eq_self, lim, Nat.zero_add, Nat.reduceAdd, Nat.reduceLeDiff, Int.reduceAdd, Int.reduceSub, Int.reduceMul, Int.reduceNeg, Int.reduceLT, Int.reduceLE, Int.reduceToNat, decide_true, decide_false, flatD, Int.toNat_natCast, Int.reduceBEq, Int.reduceEq, Nat.reduceBEq, beq_self_eq_true, wp_ok]
            refine mid_wp (fun ρ => ρ = [some sc, some d3, some (.str mkE), some (.int (0 + (j : Nat))), some (.nd false .lst (sD S10)), some (.nd false .lst (sD P)), y6, some (if last = [] then .non else .int ((P.length - 1 : Nat) : Int)), some (.nd false .lst (sD R)), y9, y10, y11]) ?_ ?_
            · simp (config := { maxSteps := 1000000 }) (disch := first | omega | assumption | (simp only [List.length_take, List.length_drop, List.length_append, List.length_cons, List.length_nil, List.length_map, List.length_reverse, List.length_range, List.length_replicate]; omega)) only [↓wp_sSeq, ↓WP0, WP1, List.getElem?_cons_zero, List.getElem?_cons_succ, Bool.false_and, List.singleton_append, List.cons_append, List.set_cons_zero, List.set_cons_succ, List.length_cons, List.length_nil, List.map_nil, List.append_nil, List.nil_append, frzs, frz, isFrz, areFrz, isFrzO, Bool.and_true, Bool.true_and, Bool.and_self, Bool.not_true, Bool.not_false, Bool.false_eq_true, and_self, true_and, and_true, eq_self, lim, Nat.zero_add, Nat.reduceAdd, Nat.reduceLeDiff, Int.reduceAdd, Int.reduceSub, Int.reduceMul, Int.reduceNeg, Int.reduceLT, Int.reduceLE, Int.reduceToNat, decide_true, decide_false, flatD, Int.toNat_natCast, Int.reduceBEq, Int.reduceEq, Nat.reduceBEq, beq_self_eq_true, i1, nP]
              rcases List.eq_nil_or_concat P with hP0 | ⟨P', p, hP1⟩
              · have h0 : last = [] := by
                  by_cases h : last = []
                  · exact h
                  · rw [hP0, if_neg h] at eP
                    simp at eP
                rw [br_t (by rw [hP0]; rfl), if_pos h0]
                simp (config := { maxSteps := 1000000 }) (disch := first | omega | assumption | (simp only [List.length_take, List.length_drop, List.length_append, List.length_cons, List.length_nil, List.length_map, List.length_reverse, List.length_range, List.length_replicate]; omega)) only [↓wp_sSeq, ↓WP0, WP1, List.getElem?_cons_zero, List.getElem?_cons_succ, Bool.false_and, List.singleton_append, List.cons_append, List.set_cons_zero, List.set_cons_succ, List.length_cons, List.length_nil, List.map_nil, List.append_nil, List.nil_append, frzs, frz, isFrz, areFrz, isFrzO, Bool.and_true, Bool.true_and, Bool.and_self, Bool.not_true, Bool.not_false, Bool.false_eq_true, and_self, true_and, and_true, eq_self, lim, Nat.zero_add, Nat.reduceAdd, Nat.reduceLeDiff, Int.reduceAdd, Int.reduceSub, Int.reduceMul, Int.reduceNeg, Int.reduceLT, Int.reduceLE, Int.reduceToNat, decide_true, decide_false, flatD, Int.toNat_natCast, Int.reduceBEq, Int.reduceEq, Nat.reduceBEq, beq_self_eq_true, wp_ok]
              · rw [List.concat_eq_append] at hP1
                have gl : getIx (.nd false .lst (sD P)) (.int (-1)) = some (.str p) := by rw [hP1, sD_snoc]; exact getLast_s false _ _
                rw [br_f (by rw [hP1]; cases P' <;> rfl)]
                by_cases h0 : last = []
                · have hp : p ∈ S10 := by
                    rw [h0] at eP
                    have : p ∈ P := by rw [hP1]; simp
                    rw [eP] at this
                    simp at this
                    exact hx p this
                  rw [if_pos h0]
                  simp (config := { maxSteps := 1000000 }) (disch := first | omega | assumption | (simp only [List.length_take, List.length_drop, List.length_append, List.length_cons, List.length_nil, List.length_map, List.length_reverse, List.length_range, List.length_replicate]; omega)) only [↓wp_sSeq, ↓WP0, WP1, List.getElem?_cons_zero, List.getElem?_cons_succ, Bool.false_and, List.singleton_append, List.cons_append, List.set_cons_zero, List.set_cons_succ, List.length_cons, List.length_nil, List.map_nil, List.append_nil, List.nil_append, frzs, frz, isFrz, areFrz, isFrzO, Bool.and_true, Bool.true_and, Bool.and_self, Bool.not_true, Bool.not_false, Bool.false_eq_true, and_self, true_and, and_true, eq_self, lim, Nat.zero_add, Nat.reduceAdd, Nat.reduceLeDiff, Int.reduceAdd, Int.reduceSub, Int.reduceMul, Int.reduceNeg, Int.reduceLT, Int.reduceLE, Int.reduceToNat, decide_true, decide_false, flatD, Int.toNat_natCast, Int.reduceBEq, Int.reduceEq, Nat.reduceBEq, beq_self_eq_true, gl, endsS p hp]
                · have hp : p ∈ T4 := by
                    rw [if_neg h0] at eP
                    rw [eP] at hP1
                    have := List.append_inj_right' hP1 rfl
                    injection this with this
                    rw [← this]; exact hlast h0
                  rw [if_neg h0]
                  simp (config := { maxSteps := 1000000 }) (disch := first | omega | assumption | (simp only [List.length_take, List.length_drop, List.length_append, List.length_cons, List.length_nil, List.length_map, List.length_reverse, List.length_range, List.length_replicate]; omega)) only [↓wp_sSeq, ↓WP0, WP1, List.getElem?_cons_zero, List.getElem?_cons_succ, Bool.false_and, List.singleton_append, List.cons_append, List.set_cons_zero, List.set_cons_succ, List.length_cons, List.length_nil, List.map_nil, List.append_nil, List.nil_append, frzs, frz, isFrz, areFrz, isFrzO, Bool.and_true, Bool.true_and, Bool.and_self, Bool.not_true, Bool.not_false, Bool.false_eq_true, and_self, true_and, and_true, eq_self, lim, Nat.zero_add, Nat.reduceAdd, Nat.reduceLeDiff, Int.reduceAdd, Int.reduceSub, Int.reduceMul, Int.reduceNeg, Int.reduceLT, Int.reduceLE, Int.reduceToNat, decide_true, decide_false, flatD, Int.toNat_natCast, Int.reduceBEq, Int.reduceEq, Nat.reduceBEq, beq_self_eq_true, gl, endsT p hp, lP]
                  have : 1 ≤ P.length := by rw [hP1]; simp
                  rw [show ((P.length - 1 : Nat) : Int) = (P.length : Int) - 1 by omega]
            · rintro ρ rfl
              by_cases h0 : last = []
              · rw [if_pos h0]
                simp (config := { maxSteps := 1000000 }) (disch := first | omega | assumption | (simp only [List.length_take, List.length_drop, List.length_append, List.length_cons, List.length_nil, List.length_map, List.length_reverse, List.length_range, List.length_replicate]; omega)) only [↓wp_sSeq, ↓WP0, WP1, List.getElem?_cons_zero, List.getElem?_cons_succ, Bool.false_and, List.singleton_append, List.cons_append, List.set_cons_zero, List.set_cons_succ, List.length_cons, List.length_nil, List.map_nil, List.append_nil, List.nil_append, frzs, frz, isFrz, areFrz, isFrzO, Bool.and_true, Bool.true_and, Bool.and_self, Bool.not_true, Bool.not_false, Bool.false_eq_true, and_self, true_and, and_true, eq_self, lim, Nat.zero_add, Nat.reduceAdd, Nat.reduceLeDiff, Int.reduceAdd, Int.reduceSub, Int.reduceMul, Int.reduceNeg, Int.reduceLT, Int.reduceLE, Int.reduceToNat, decide_true, decide_false, flatD, Int.toNat_natCast, Int.reduceBEq, Int.reduceEq, Nat.reduceBEq, beq_self_eq_true, i1, jn]
                rw [ef]
                refine rows_wp hp10 hl0 hnl hps hll ePs hpc (by rw [← ef]; omega) (fun _ _ => ?_) (fun k hk hb _ => ?_) fun h _ => absurd h0 h
                · rw [← hRe]
                  have hPl2 : P = l := by rw [eP, if_pos h0, List.append_nil]
                  have iv := iv_at (P := P) (fun p hp => by rw [hPl2] at hp; exact hx p hp) P.length (Nat.le_refl _) hall
                  rw [List.take_length] at iv
                  have ivt := iv.txt
                  rw [← hRe] at ivt
                  have ivm : ∀ w ∈ R, w ∈ R9 := fun w hw => iv.mem w (by rw [← hRe]; exact hw)
                  have tx := text_ok (l := R) (.inl rfl) (by omega) fun w hw => r9_good w (ivm w hw)
                  have s2 : F_q_same 6 [.tup [.str [116, 111, 108, 100], .nd false .lst (sD R)], .tup [.str [116, 111, 108, 100], .nd false .lst (sD R)]] = .ok (.bl true, []) := same_tup 5 _ (by show (true && ((true && areFrz (sD R)) && true)) = true; rw [fR]; rfl) (by simp) fun d hd => by
                    simp only [List.mem_cons, List.not_mem_nil, or_false] at hd
                    rcases hd with rfl | rfl
                    · exact same_str 4 _
                    · exact same_lst 4 _ fR (by rw [lR]; omega) fun d hd => by obtain ⟨w, _, rfl⟩ := List.mem_map.mp hd; exact same_str 3 w
                  have n3 : neF (.str (txt R)) (.str P.flatten) = some (.bl false) := by
                    show some (D.bl (!(txt R == P.flatten))) = _
                    rw [beq_iff_eq.mpr ivt]; rfl
                  simp (config := { maxSteps := 1000000 }) (disch := first | omega | assumption | (simp only [List.length_take, List.length_drop, List.length_append, List.length_cons, List.length_nil, List.length_map, List.length_reverse, List.length_range, List.length_replicate]; omega)) only [↓wp_sSeq, ↓WP0, WP1, List.getElem?_cons_zero, List.getElem?_cons_succ, Bool.false_and, List.singleton_append, List.cons_append, List.set_cons_zero, List.set_cons_succ, List.length_cons, List.length_nil, List.map_nil, List.append_nil, List.nil_append, frzs, frz, isFrz, areFrz, isFrzO, Bool.and_true, Bool.true_and, Bool.and_self, Bool.not_true, Bool.not_false, Bool.false_eq_true, and_self, true_and, and_true, eq_self, lim, Nat.zero_add, Nat.reduceAdd, Nat.reduceLeDiff, Int.reduceAdd, Int.reduceSub, Int.reduceMul, Int.reduceNeg, Int.reduceLT, Int.reduceLE, Int.reduceToNat, decide_true, decide_false, flatD, Int.toNat_natCast, Int.reduceBEq, Int.reduceEq, Nat.reduceBEq, beq_self_eq_true, i1, fR, fR', s2, tx, jn, n3]
                  exact ⟨_, _, _, _, _, _, _, _, _, _, rfl, hy9, hd3.mono (by omega)⟩
                · rw [hall k hk hk] at hb; cases hb
              · rw [if_neg h0]
                have i2 : isF (.int ((P.length - 1 : Nat) : Int)) .non = some (.bl false) := rfl
                simp (config := { maxSteps := 1000000 }) (disch := first | omega | assumption | (simp only [List.length_take, List.length_drop, List.length_append, List.length_cons, List.length_nil, List.length_map, List.length_reverse, List.length_range, List.length_replicate]; omega)) only [↓wp_sSeq, ↓WP0, WP1, List.getElem?_cons_zero, List.getElem?_cons_succ, Bool.false_and, List.singleton_append, List.cons_append, List.set_cons_zero, List.set_cons_succ, List.length_cons, List.length_nil, List.map_nil, List.append_nil, List.nil_append, frzs, frz, isFrz, areFrz, isFrzO, Bool.and_true, Bool.true_and, Bool.and_self, Bool.not_true, Bool.not_false, Bool.false_eq_true, and_self, true_and, and_true, eq_self, lim, Nat.zero_add, Nat.reduceAdd, Nat.reduceLeDiff, Int.reduceAdd, Int.reduceSub, Int.reduceMul, Int.reduceNeg, Int.reduceLT, Int.reduceLE, Int.reduceToNat, decide_true, decide_false, flatD, Int.toNat_natCast, Int.reduceBEq, Int.reduceEq, Nat.reduceBEq, beq_self_eq_true, i2, jn]
                rw [ef]
                refine rows_wp hp10 hl0 hnl hps hll ePs hpc (by rw [← ef]; omega) (fun h _ => absurd h h0) (fun k hk hb _ => ?_) fun _ _ => ?_
                · rw [hall k hk hk] at hb; cases hb
                · have : 1 ≤ P.length := by rw [eP, if_neg h0]; simp
                  rw [show (P.length : Int) - 1 = ((P.length - 1 : Nat) : Int) by omega]
                  refine ⟨_, cl _, ?_⟩
                  simp (config := { maxSteps := 1000000 }) (disch := first | omega | assumption | (simp only [List.length_take, List.length_drop, List.length_append, List.length_cons, List.length_nil, List.length_map, List.length_reverse, List.length_range, List.length_replicate]; omega)) only [↓wp_sSeq, ↓WP0, WP1, List.getElem?_cons_zero, List.getElem?_cons_succ, Bool.false_and, List.singleton_append, List.cons_append, List.set_cons_zero, List.set_cons_succ, List.length_cons, List.length_nil, List.map_nil, List.append_nil, List.nil_append, frzs, frz, isFrz, areFrz, isFrzO, Bool.and_true, Bool.true_and, Bool.and_self, Bool.not_true, Bool.not_false, Bool.false_eq_true, and_self, true_and, and_true, eq_self, lim, Nat.zero_add, Nat.reduceAdd, Nat.reduceLeDiff, Int.reduceAdd, Int.reduceSub, Int.reduceMul, Int.reduceNeg, Int.reduceLT, Int.reduceLE, Int.reduceToNat, decide_true, decide_false, flatD, Int.toNat_natCast, Int.reduceBEq, Int.reduceEq, Nat.reduceBEq, beq_self_eq_true, i2, s1]
                  exact ⟨_, _, _, _, _, _, _, _, _, _, rfl, hy9, hd3.mono (by omega)⟩
          · have i2 : isF (.int (k : Nat)) .non = some (.bl false) := rfl
            simp (config := { maxSteps := 1000000 }) (disch := first | omega | assumption | (simp only [List.length_take, List.length_drop, List.length_append, List.length_cons, List.length_nil, List.length_map, List.length_reverse, List.length_range, List.length_replicate]; omega)) only [↓wp_sSeq, ↓WP0, WP1, List.getElem?_cons_zero, List.getElem?_cons_succ, Bool.false_and, List.singleton_append, List.cons_append, List.set_cons_zero, List.set_cons_succ, List.length_cons, List.length_nil, List.map_nil, List.append_nil, List.nil_append, frzs, frz, isFrz, areFrz, isFrzO, Bool.and_true, Bool.true_and, Bool.and_self, Bool.not_true, Bool.not_false, Bool.false_eq_true, and_self, true_and, and_true, eq_self, lim, Nat.zero_add, Nat.reduceAdd, Nat.reduceLeDiff, Int.reduceAdd, Int.reduceSub, Int.reduceMul, Int.reduceNeg, Int.reduceLT, Int.reduceLE, Int.reduceToNat, decide_true, decide_false, flatD, Int.toNat_natCast, Int.reduceBEq, Int.reduceEq, Nat.reduceBEq, beq_self_eq_true, i2, jn]
            rw [ef]
            refine rows_wp hp10 hl0 hnl hps hll ePs hpc (by rw [← ef]; omega) (fun _ h => ?_) (fun k' hk' hb hb2 => ?_) fun _ h => ?_
            · rw [h k hk] at hkb; cases hkb
            · have ek : k' = k := by
                by_cases h1 : k' < k
                · rw [hka k' h1] at hb; cases hb
                · by_cases h2 : k < k'
                  · rw [hb2 k h2] at hkb; cases hkb
                  · omega
              subst ek
              refine ⟨_, cl k', ?_⟩
              simp (config := { maxSteps := 1000000 }) (disch := first | omega | assumption | (simp only [List.length_take, List.length_drop, List.length_append, List.length_cons, List.length_nil, List.length_map, List.length_reverse, List.length_range, List.length_replicate]; omega)) only [↓wp_sSeq, ↓WP0, WP1, List.getElem?_cons_zero, List.getElem?_cons_succ, Bool.false_and, List.singleton_append, List.cons_append, List.set_cons_zero, List.set_cons_succ, List.length_cons, List.length_nil, List.map_nil, List.append_nil, List.nil_append, frzs, frz, isFrz, areFrz, isFrzO, Bool.and_true, Bool.true_and, Bool.and_self, Bool.not_true, Bool.not_false, Bool.false_eq_true, and_self, true_and, and_true, eq_self, lim, Nat.zero_add, Nat.reduceAdd, Nat.reduceLeDiff, Int.reduceAdd, Int.reduceSub, Int.reduceMul, Int.reduceNeg, Int.reduceLT, Int.reduceLE, Int.reduceToNat, decide_true, decide_false, flatD, Int.toNat_natCast, Int.reduceBEq, Int.reduceEq, Nat.reduceBEq, beq_self_eq_true, i2, s1]
              exact ⟨_, _, _, _, _, _, _, _, _, _, rfl, hy9, hd3.mono (by omega)⟩
            · rw [h k hk] at hkb; cases hkb
  · intro ρ hρ
    have ⟨d', y3, y4, y5, y6, y7, y8, y9, y10, y11, er, _⟩ := hρ
    rw [er]
    clear er hρ
    simp (config := { maxSteps := 1000000 }) (disch := first | omega | assumption | (simp only [List.length_take, List.length_drop, List.length_append, List.length_cons, List.length_nil, List.length_map, List.length_reverse, List.length_range, List.length_replicate]; omega)) only [↓wp_sSeq, ↓WP0, WP1, List.getElem?_cons_zero, List.getElem?_cons_succ, Bool.false_and, List.singleton_append, List.cons_append, List.set_cons_zero, List.set_cons_succ, List.length_cons, List.length_nil, List.map_nil, List.append_nil, List.nil_append, frzs, frz, isFrz, areFrz, isFrzO, Bool.and_true, Bool.true_and, Bool.and_self, Bool.not_true, Bool.not_false, Bool.false_eq_true, and_self, true_and, and_true, eq_self, lim, Nat.zero_add, Nat.reduceAdd, Nat.reduceLeDiff, Int.reduceAdd, Int.reduceSub, Int.reduceMul, Int.reduceNeg, Int.reduceLT, Int.reduceLE, Int.reduceToNat, decide_true, decide_false, flatD, Int.toNat_natCast, Int.reduceBEq, Int.reduceEq, Nat.reduceBEq, beq_self_eq_true, wp_ok]
end Tw.Lw

open PySem PySem.W PySem.Calls PyProof.Rows Tw in
set_option maxRecDepth 100000 in
set_option maxHeartbeats 0 in
theorem PySem.Challenge.cw_twinseam_k74_texts_cut_into_rows_holds : PySem.Challenge.rw_twinseam_k74_texts_cut_into_rows.Holds := by
  w_on; o_law
  refine HandSHeadRun.head_any (r := OpenLaw.row PySem.Challenge.rw_twinseam_k74_texts_cut_into_rows) (q := view (OpenLaw.row PySem.Challenge.rw_twinseam_k74_texts_cut_into_rows).prog [25]) (H := Tw.Lw.hkL) (ob := Tw.Lw.obL) (M := 30000) (loose := Tw.Lw.nmL) (d := HandSHeadRun.topDef (OpenLaw.row PySem.Challenge.rw_twinseam_k74_texts_cut_into_rows).prog 25) (kwd := []) Tw.Lw.obL_eq
    (by kernel_rfl) (fun s => by kernel_rfl) Tw.Lw.runL (by kernel_rfl) (by kernel_rfl) (by kernel_rfl) (by rfl) (by first | assumption | decide +kernel) (by decide +kernel) ⟨rfl, rfl, rfl, rfl, rfl, by decide +kernel⟩ ?hw ?hc
  case hw => w_witness2
  case hc =>
    refine Tw.walkX (l := PySem.Challenge.rw_twinseam_k74_texts_cut_into_rows) (n := 63) (k := 13) (x := "_law_script") rfl (by decide) (by kernel_rfl) ⟨rfl, by decide, by decide⟩ Tw.Lw.law_ok ?F
    intro w mg fa h Y Gm hmg0
    obtain ⟨K, KX, c⟩ := Y
    have hmg : mg ("law" : PySem.Str) = some (.ref fa) := by
      have e : (HandSHeadRun.topDef (OpenLaw.row PySem.Challenge.rw_twinseam_k74_texts_cut_into_rows).prog 25).name = ("law" : PySem.Str) := by kernel_rfl
      rw [← e]
      exact hmg0
    exact Tw.Lw.law_main KX Gm c hmg
