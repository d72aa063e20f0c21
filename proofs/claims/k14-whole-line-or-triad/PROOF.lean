import PyProof.Rows.All
import HandS.ForMost
import HandS.ForExc
import HandS.Walk
import HandS.Wide
import HandS.TupAny
import HandS.TupLe
import HandS.TupMul
import HandS.Deep
import HandS.Style
import HandS.IsInst
import HandS.Zip
import HandS.Comp
import HandS.DictComp
import HandS.ExcOwn
import HandS.WordsExc
import HandS.Ends
import PyProof.ReprRoads
import HandS.EndBits
import HandS.More
import KE.KRevSl
import PyProof.ListStr
import HandS.Set
import HandS.SetTxt0
import HandS.SetFor
import KE.SortData
import KE.OsSortAny
import HandS.Strs
import PyProof.Rows.SetFrom
import KE.GoesEnum
import PyProof.NeKinds
import PyProof.NeData
import KE.KExcSuper
import KE.KSuper
import HandS.ExcInit
import HandS.ExcSuper
import HandS.ExcValue
import HandS.ExcIs
import HandS.ExcField
import HandS.Words
import PyProof.Rows.RuleIs
import PySem.Challenge.RW_answercut_k14_whole_line_or_triad
import Wide.All
import OpenK.AllK
import Wide.FinOn
set_option Elab.async false
set_option linter.all false
set_option maxRecDepth 100000
namespace VS
open PySem L2

abbrev D := PyData
def kD : Key → D
  | .inl i => .int i
  | .inr s => .str s

/-! ### data in the heap: Z the addresses that stay -/
mutual
inductive Rep (K : PySem.W.Frag) (Z : Addr → Prop) (H : Hp) : V → D → Prop
  | non : Rep K Z H .non .none
  | bl (b : Bool) : Rep K Z H (.bl b) (.bool b)
  | int (i : Int) : Rep K Z H (.int i) (.int i)
  | str (s : Str) : Rep K Z H (.str s) (.str s)
  | tup {a : Addr} {vs : List V} {ds : List D} : SqT K H a vs → RepL K Z H vs ds → Rep K Z H (.ref a) (.tuple ds)
  | lst {a : Addr} {vs : List V} {ds : List D} : Z a → H a = some (.lst vs) → RepL K Z H vs ds → Rep K Z H (.ref a) (.list ds)
  | dic {a : Addr} {o : Obj} {kv : List (Key × V)} {ds : List (D × D)} : Z a → H a = some (.frz o (.dK kv)) → RepD K Z H kv ds → Rep K Z H (.ref a) (.dict ds)
inductive RepL (K : PySem.W.Frag) (Z : Addr → Prop) (H : Hp) : List V → List D → Prop
  | nil : RepL K Z H [] []
  | cons {v : V} {d : D} {vs : List V} {ds : List D} : Rep K Z H v d → RepL K Z H vs ds → RepL K Z H (v :: vs) (d :: ds)
inductive RepD (K : PySem.W.Frag) (Z : Addr → Prop) (H : Hp) : List (Key × V) → List (D × D) → Prop
  | nil : RepD K Z H [] []
  | cons {k : Key} {v : V} {d : D} {vs : List (Key × V)} {ds : List (D × D)} : Rep K Z H v d → RepD K Z H vs ds → RepD K Z H ((k, v) :: vs) ((kD k, d) :: ds)
end

structure Step (O Z : Addr → Prop) (H : Hp) (Z' : Addr → Prop) (H' : Hp) : Prop where
  keep : ∀ a o, H a = some o → ¬ O a → H' a = some o
  mono : ∀ a, Z a → Z' a
  new : ∀ a, Z' a → Z a ∨ H a = none
  there : ∀ a o, H a = some o → ∃ o', H' a = some o'
abbrev Ext (Z : Addr → Prop) (H : Hp) (Z' : Addr → Prop) (H' : Hp) : Prop := Step (fun _ => False) Z H Z' H'

/-- what is own may be written -/
def MutO (O : Addr → Prop) (H : Hp) : Prop := ∀ a, O a → Mut (H a)

theorem MutO.rdT {O : Addr → Prop} {H : Hp} (m : MutO O H) {a : Addr} {xs : List V} (h : Rd H a (.tup xs)) : ¬ O a := fun o => by
  have q := m a o
  rcases h with h | ⟨_, h⟩ <;> (rw [h] at q; exact q)
theorem Step.rd {O Z Z' : Addr → Prop} {H H' : Hp} (s : Step O Z H Z' H') {a : Addr} {u : HO} (n : ¬ O a) (h : Rd H a u) : Rd H' a u := by
  rcases h with h | ⟨o, h⟩
  · exact .inl (s.keep a _ h n)
  · exact .inr ⟨o, s.keep a _ h n⟩
theorem Step.sqT {K : PySem.W.Frag} {O Z Z' : Addr → Prop} {H H' : Hp} (s : Step O Z H Z' H') (m : MutO O H) {a : Addr} {xs : List V} (h : SqT K H a xs) : SqT K H' a xs := by
  rcases h with h | h
  · exact .inl (s.rd (m.rdT h) h)
  · exact .inr h

section
variable {K : PySem.W.Frag} {O Z Z' : Addr → Prop} {H H' : Hp}
mutual
theorem Rep.step (s : Step O Z H Z' H') (m : MutO O H) (hz : ∀ a, Z a → ¬ O a) : ∀ {v : V} {d : D}, Rep K Z H v d → Rep K Z' H' v d
  | _, _, .non => .non
  | _, _, .bl b => .bl b
  | _, _, .int i => .int i
  | _, _, .str x => .str x
  | _, _, .tup h r => .tup (s.sqT m h) (RepL.step s m hz r)
  | _, _, .lst z h r => .lst (s.mono _ z) (s.keep _ _ h (hz _ z)) (RepL.step s m hz r)
  | _, _, .dic z h r => .dic (s.mono _ z) (s.keep _ _ h (hz _ z)) (RepD.step s m hz r)
theorem RepL.step (s : Step O Z H Z' H') (m : MutO O H) (hz : ∀ a, Z a → ¬ O a) : ∀ {v : List V} {d : List D}, RepL K Z H v d → RepL K Z' H' v d
  | _, _, .nil => .nil
  | _, _, .cons r t => .cons (Rep.step s m hz r) (RepL.step s m hz t)
theorem RepD.step (s : Step O Z H Z' H') (m : MutO O H) (hz : ∀ a, Z a → ¬ O a) : ∀ {v : List (Key × V)} {d : List (D × D)}, RepD K Z H v d → RepD K Z' H' v d
  | _, _, .nil => .nil
  | _, _, .cons r t => .cons (Rep.step s m hz r) (RepD.step s m hz t)
end
theorem mutF : MutO (fun _ => False) H := fun _ h => h.elim
theorem Rep.ext (s : Ext Z H Z' H') {v : V} {d : D} (r : Rep K Z H v d) : Rep K Z' H' v d := r.step s mutF fun _ _ h => h
theorem RepL.ext (s : Ext Z H Z' H') {v : List V} {d : List D} (r : RepL K Z H v d) : RepL K Z' H' v d := r.step s mutF fun _ _ h => h
theorem RepD.ext (s : Ext Z H Z' H') {v : List (Key × V)} {d : List (D × D)} (r : RepD K Z H v d) : RepD K Z' H' v d := r.step s mutF fun _ _ h => h
theorem RepL.length : ∀ {v : List V} {d : List D}, RepL K Z H v d → v.length = d.length
  | _, _, .nil => rfl
  | _, _, .cons _ t => by simp [RepL.length t]
theorem RepL.get : ∀ {vs : List V} {ds : List D} {i : Nat} {d : D}, RepL K Z H vs ds → ds[i]? = some d → ∃ v, vs[i]? = some v ∧ Rep K Z H v d
  | _, _, _, _, .nil, e => by simp at e
  | _, _, 0, _, .cons r _, e => by simp at e; subst e; exact ⟨_, rfl, r⟩
  | _, _, i + 1, d, .cons _ t, e => by
    obtain ⟨u, h1, h2⟩ := RepL.get (i := i) (d := d) t (by simpa using e)
    exact ⟨u, by simpa using h1, h2⟩
theorem RepL.get' : ∀ {vs : List V} {ds : List D} {i : Nat} {v : V}, RepL K Z H vs ds → vs[i]? = some v → ∃ d, ds[i]? = some d ∧ Rep K Z H v d
  | _, _, _, _, .nil, e => by simp at e
  | _, _, 0, _, .cons r _, e => by simp at e; subst e; exact ⟨_, rfl, r⟩
  | _, _, i + 1, d, .cons _ t, e => by
    obtain ⟨u, h1, h2⟩ := RepL.get' (i := i) (v := d) t (by simpa using e)
    exact ⟨u, by simpa using h1, h2⟩
theorem RepL.append : ∀ {vs : List V} {ds : List D} {us : List V} {es : List D}, RepL K Z H vs ds → RepL K Z H us es → RepL K Z H (vs ++ us) (ds ++ es)
  | _, _, _, _, .nil, s => s
  | _, _, _, _, .cons r t, s => .cons r (RepL.append t s)
theorem RepL.take : ∀ {vs : List V} {ds : List D} (n : Nat), RepL K Z H vs ds → RepL K Z H (vs.take n) (ds.take n)
  | _, _, 0, _ => .nil
  | _, _, _ + 1, .nil => .nil
  | _, _, n + 1, .cons r t => .cons r (RepL.take n t)
theorem RepL.drop : ∀ {vs : List V} {ds : List D} (n : Nat), RepL K Z H vs ds → RepL K Z H (vs.drop n) (ds.drop n)
  | _, _, 0, r => r
  | _, _, _ + 1, .nil => .nil
  | _, _, n + 1, .cons _ t => RepL.drop n t
theorem RepL.set {v : V} {d : D} (r : Rep K Z H v d) : ∀ {vs : List V} {ds : List D} (i : Nat), RepL K Z H vs ds → RepL K Z H (vs.set i v) (ds.set i d)
  | _, _, _, .nil => .nil
  | _, _, 0, .cons _ t => .cons r t
  | _, _, i + 1, .cons q t => .cons q (RepL.set r i t)
theorem RepL.reverse {vs : List V} {ds : List D} (h : RepL K Z H vs ds) : RepL K Z H vs.reverse ds.reverse := by
  induction vs generalizing ds with
  | nil => cases h; exact .nil
  | cons v vs ih =>
    cases h with
    | cons r t => simp only [List.reverse_cons]; exact (ih t).append (.cons r .nil)
end

theorem Step.refl {O Z : Addr → Prop} {H : Hp} : Step O Z H Z H := ⟨fun _ _ h _ => h, fun _ h => h, fun _ h => .inl h, fun _ o h => ⟨o, h⟩⟩
theorem Step.weak {O O' Z Z' : Addr → Prop} {H H' : Hp} (s : Step O Z H Z' H') (h : ∀ a, O a → O' a) : Step O' Z H Z' H' := ⟨fun a o e n => s.keep a o e fun q => n (h a q), s.mono, s.new, s.there⟩
theorem Step.trans {O O' Z Z1 Z2 : Addr → Prop} {H H1 H2 : Hp} (s : Step O Z H Z1 H1) (t : Step O' Z1 H1 Z2 H2) (h : ∀ a, O' a → O a ∨ H a = none) : Step O Z H Z2 H2 where
  keep := fun a o e n => t.keep a o (s.keep a o e n) fun q => by
    rcases h a q with k | k
    · exact n k
    · rw [k] at e; cases e
  mono := fun a z => t.mono a (s.mono a z)
  new := fun a z => by
    rcases t.new a z with k | k
    · exact s.new a k
    · cases e : H a with
      | none => exact .inr rfl
      | some o =>
        obtain ⟨o', q⟩ := s.there a o e
        rw [k] at q; cases q
  there := fun a o e => by
    obtain ⟨o', q⟩ := s.there a o e
    exact t.there a o' q
theorem Step.free {O Z Z' : Addr → Prop} {H H' : Hp} (s : Step O Z H Z' H') {c : Addr} (e : H' c = none) : H c = none := by
  cases q : H c with
  | none => rfl
  | some o =>
    obtain ⟨o', k⟩ := s.there c o q
    rw [e] at k; cases k
/-- a new object at a free place -/
theorem Ext.upd {Z : Addr → Prop} {H : Hp} {p : Addr} {o : HO} (hp : H p = none) (Z' : Addr → Prop) (m : ∀ a, Z a → Z' a) (n : ∀ a, Z' a → Z a ∨ a = p) : Ext Z H Z' (upd H p o) where
  keep := fun a u e _ => by rw [upd_ne (ne_of_none e hp)]; exact e
  mono := m
  new := fun a z => (n a z).imp_right fun e => by rw [e]; exact hp
  there := fun a u e => ⟨u, by rw [upd_ne (ne_of_none e hp)]; exact e⟩

/-! ### slots -/
inductive Sl where
  | emp | val (d : D) | own (d : D) | frz (d : D)
  | exc (cls : Str) (fs : List (Str × D))
  | scr (ns : List Int)
abbrev Rho := List Sl
def Sl.tag : Sl → Nat
  | .emp => 0 | .val _ => 1 | .own _ => 2 | .frz _ => 3 | .exc _ _ => 4 | .scr _ => 5
def tags (ρ : Rho) : List Nat := ρ.map Sl.tag

def Cell (K : PySem.W.Frag) (Z : Addr → Prop) (H : Hp) (a : Addr) : D → Prop
  | .list ds => ∃ vs, H a = some (.lst vs) ∧ RepL K Z H vs ds
  | .dict ds => ∃ kv, H a = some (.dK kv) ∧ RepD K Z H kv ds
  | _ => False
/-- the own dict of an exception -/
def XRep (K : PySem.W.Frag) (Z : Addr → Prop) (H : Hp) (dx : Option Addr) (fs : List (Str × D)) : Prop :=
  match fs with
  | [] => dx = none
  | fs => ∃ d us, dx = some d ∧ H d = some (.xd us) ∧ RepL K Z H (us.map (·.2)) (fs.map (·.2)) ∧ us.map (·.1) = fs.map (·.1)

section
variable {K : PySem.W.Frag} {O Z Z' B : Addr → Prop} {H H' : Hp} {σ σ' : St} {ρ ρ' : Rho}
theorem XRep.step (s : Step O Z H Z' H') (m : MutO O H) (hz : ∀ a, Z a → ¬ O a) {dx : Option Addr} {fs : List (Str × D)} (x : XRep K Z H dx fs) : XRep K Z' H' dx fs := by
  cases fs with
  | nil => exact x
  | cons f fs =>
    obtain ⟨d, us, e, h, r, q⟩ := x
    refine ⟨d, us, e, s.keep _ _ h fun o => ?_, r.step s m hz, q⟩
    have z := m d o
    rw [h] at z
    exact z
theorem Cell.step (s : Step O Z H Z' H') (m : MutO O H) (hz : ∀ a, Z a → ¬ O a) {a : Addr} {d : D} (n : ¬ O a) (c : Cell K Z H a d) : Cell K Z' H' a d := by
  cases d with
  | list ds => obtain ⟨vs, h, r⟩ := c; exact ⟨vs, s.keep _ _ h n, r.step s m hz⟩
  | dict ds => obtain ⟨kv, h, r⟩ := c; exact ⟨kv, s.keep _ _ h n, r.step s m hz⟩
  | _ => exact c.elim
theorem Cell.there {a : Addr} {d : D} (c : Cell K Z H a d) : ∃ o, H a = some o ∧ Mut (some o) := by
  cases d with
  | list ds => obtain ⟨vs, h, r⟩ := c; exact ⟨_, h, trivial⟩
  | dict ds => obtain ⟨kv, h, r⟩ := c; exact ⟨_, h, trivial⟩
  | _ => exact c.elim
/-- a container that stays: a list, a locked dict -/
def FCell (K : PySem.W.Frag) (Z : Addr → Prop) (H : Hp) (a : Addr) : D → Prop
  | .list ds => ∃ vs, H a = some (.lst vs) ∧ RepL K Z H vs ds
  | .dict ds => ∃ o kv, H a = some (.frz o (.dK kv)) ∧ RepD K Z H kv ds
  | _ => False
theorem FCell.rep {a : Addr} {d : D} (c : FCell K Z H a d) (z : Z a) : Rep K Z H (.ref a) d := by
  cases d with
  | list ds => obtain ⟨vs, h, r⟩ := c; exact .lst z h r
  | dict ds => obtain ⟨o, kv, h, r⟩ := c; exact .dic z h r
  | _ => exact c.elim
theorem FCell.step (s : Step O Z H Z' H') (m : MutO O H) (hz : ∀ a, Z a → ¬ O a) {a : Addr} {d : D} (n : ¬ O a) (c : FCell K Z H a d) : FCell K Z' H' a d := by
  cases d with
  | list ds => obtain ⟨vs, h, r⟩ := c; exact ⟨vs, s.keep _ _ h n, r.step s m hz⟩
  | dict ds => obtain ⟨o, kv, h, r⟩ := c; exact ⟨o, kv, s.keep _ _ h n, r.step s m hz⟩
  | _ => exact c.elim

/-- the script: a list that stays, locked or kept -/
def ScrAt (K : PySem.W.Frag) (Z : Addr → Prop) (H : Hp) (a : Addr) (xs : List V) : Prop := (Z a ∧ Rd H a (.lst xs)) ∨
    ∃ (o : Obj) (its : Array Value) (n : Nat), K.lookup a = some o ∧ o.cls = .type "list" ∧ o.dict = none ∧ o.data = .seq its n ∧ its.size ≤ sizeLine ∧ Vals xs its.toList
theorem ScrAt.step {a : Addr} {xs : List V} (s : Step O Z H Z' H') (hz : ∀ a, Z a → ¬ O a) (h : ScrAt K Z H a xs) : ScrAt K Z' H' a xs := by
  rcases h with ⟨z, h⟩ | h
  · exact .inl ⟨s.mono a z, s.rd (hz a z) h⟩
  · exact .inr h
theorem ScrAt.sq {a : Addr} {xs : List V} (h : ScrAt K Z H a xs) : SqL K H a xs := by
  rcases h with ⟨z, h⟩ | h
  · exact .inl h
  · exact .inr h
def SRep (K : PySem.W.Frag) (B Z : Addr → Prop) (H : Hp) (x : Option V) : Sl → Prop
  | .emp => True
  | .val d => ∃ v, x = some v ∧ Rep K Z H v d
  | .own d => ∃ a, x = some (.ref a) ∧ ¬ Z a ∧ Cell K Z H a d
  | .frz d => ∃ a, x = some (.ref a) ∧ Z a ∧ ¬ B a ∧ FCell K Z H a d
  | .exc c fs => ∃ (a C : Addr) (oe : Obj) (vs : Array Value) (u : HO), x = some (.ref a) ∧ H a = some (.frz oe u) ∧ oe.cls = .ref C ∧ oe.data = .fields vs ∧ PySem.W.nsIn K mainGlobals c = some (some (.ref C)) ∧ XRep K Z H oe.dict fs
  | .scr ns => ∃ a, x = some (.ref a) ∧ ScrAt K Z H a (ns.map V.int)

def OwnAt (σ : St) (ρ : Rho) (i : Nat) (a : Addr) : Prop := (∃ d, ρ[i]? = some (.own d)) ∧ σ[i]? = some (some (.ref a))
def Owns (σ : St) (ρ : Rho) (a : Addr) : Prop := ∃ i, OwnAt σ ρ i a

structure Good (K : PySem.W.Frag) (B Z : Addr → Prop) (H : Hp) (σ : St) (ρ : Rho) : Prop where
  len : ρ.length = σ.length
  bz : ∀ a, B a → Z a
  zt : ∀ a, Z a → ∃ o, H a = some o
  sl : ∀ (i : Nat) x r, σ[i]? = some x → ρ[i]? = some r → SRep K B Z H x r
  ap : ∀ i j a, OwnAt σ ρ i a → OwnAt σ ρ j a → i = j

theorem Good.ownAt (g : Good K B Z H σ ρ) {i : Nat} {a : Addr} (o : OwnAt σ ρ i a) : ∃ d, ρ[i]? = some (.own d) ∧ ¬ Z a ∧ Cell K Z H a d := by
  obtain ⟨⟨d, e⟩, q⟩ := o
  obtain ⟨b, e1, n, c⟩ := g.sl i _ _ q e
  cases e1
  exact ⟨d, e, n, c⟩
theorem Good.mut (g : Good K B Z H σ ρ) : MutO (Owns σ ρ) H := fun a ⟨i, o⟩ => by
  obtain ⟨d, _, _, c⟩ := g.ownAt o
  obtain ⟨u, h, m⟩ := c.there
  rw [h]; exact m
theorem Good.nz (g : Good K B Z H σ ρ) : ∀ a, Z a → ¬ Owns σ ρ a := fun a z ⟨i, o⟩ => by
  obtain ⟨d, _, n, _⟩ := g.ownAt o
  exact n z
theorem Good.own (g : Good K B Z H σ ρ) {i : Nat} {d : D} (e : ρ[i]? = some (.own d)) : ∃ a, σ[i]? = some (some (.ref a)) ∧ ¬ Z a ∧ Cell K Z H a d ∧ Owns σ ρ a := by
  have hi : i < σ.length := by rw [← g.len]; exact (List.getElem?_eq_some_iff.mp e).1
  have q : σ[i]? = some σ[i] := by simp [hi]
  obtain ⟨a, e1, n, c⟩ := g.sl i _ _ q e
  rw [e1] at q
  exact ⟨a, q, n, c, i, ⟨d, e⟩, q⟩
theorem Good.val (g : Good K B Z H σ ρ) {i : Nat} {d : D} (e : ρ[i]? = some (.val d)) : ∃ v, σ[i]? = some (some v) ∧ Rep K Z H v d := by
  have hi : i < σ.length := by rw [← g.len]; exact (List.getElem?_eq_some_iff.mp e).1
  have q : σ[i]? = some σ[i] := by simp [hi]
  obtain ⟨v, e1, r⟩ := g.sl i _ _ q e
  rw [e1] at q
  exact ⟨v, q, r⟩
theorem Good.frz (g : Good K B Z H σ ρ) {i : Nat} {d : D} (e : ρ[i]? = some (.frz d)) : ∃ a, σ[i]? = some (some (.ref a)) ∧ Z a ∧ ¬ B a ∧ FCell K Z H a d := by
  have hi : i < σ.length := by rw [← g.len]; exact (List.getElem?_eq_some_iff.mp e).1
  have q : σ[i]? = some σ[i] := by simp [hi]
  obtain ⟨v, e1, r⟩ := g.sl i _ _ q e
  rw [e1] at q
  exact ⟨v, q, r⟩
theorem Good.scr (g : Good K B Z H σ ρ) {i : Nat} {ns : List Int} (e : ρ[i]? = some (.scr ns)) : ∃ a, σ[i]? = some (some (.ref a)) ∧ ScrAt K Z H a (ns.map V.int) := by
  have hi : i < σ.length := by rw [← g.len]; exact (List.getElem?_eq_some_iff.mp e).1
  have q : σ[i]? = some σ[i] := by simp [hi]
  obtain ⟨v, e1, r⟩ := g.sl i _ _ q e
  rw [e1] at q
  exact ⟨v, q, r⟩
theorem SRep.ext (s : Ext Z H Z' H') (nw : ∀ a, Z' a → Z a ∨ H a = none) {x : Option V} {r : Sl} (h : SRep K B Z H x r) : SRep K B Z' H' x r := by
  cases r with
  | emp => trivial
  | val d => obtain ⟨v, e, r⟩ := h; exact ⟨v, e, r.ext s⟩
  | own d =>
    obtain ⟨a, e, n, c⟩ := h
    refine ⟨a, e, fun z => ?_, c.step s mutF (fun _ _ h => h) (fun h => h)⟩
    rcases nw a z with k | k
    · exact n k
    · obtain ⟨o, h, _⟩ := c.there
      rw [h] at k; cases k
  | frz d => obtain ⟨a, e, n, b, c⟩ := h; exact ⟨a, e, s.mono _ n, b, c.step s mutF (fun _ _ h => h) (fun h => h)⟩
  | exc c f => obtain ⟨a, C, oe, vs, u, e, h1, h2, h3, h4, x⟩ := h; exact ⟨a, C, oe, vs, u, e, s.keep _ _ h1 fun h => h, h2, h3, h4, x.step s mutF (fun _ _ h => h)⟩
  | scr ns => obtain ⟨a, e, q⟩ := h; exact ⟨a, e, q.step s fun _ _ h => h⟩
theorem Good.ext (g : Good K B Z H σ ρ) (s : Ext Z H Z' H') (t : ∀ a, Z' a → ∃ o, H' a = some o) : Good K B Z' H' σ ρ :=
  ⟨g.len, fun a b => s.mono a (g.bz a b), t, fun i x r e1 e2 => (g.sl i x r e1 e2).ext s s.new, g.ap⟩

theorem tag_own {r : Sl} (h : r.tag = 2) : ∃ d, r = .own d := by
  cases r <;> first | exact ⟨_, rfl⟩ | cases h
theorem ownAt_tags (t : tags ρ' = tags ρ) {i : Nat} {a : Addr} (o : OwnAt σ ρ' i a) : OwnAt σ ρ i a := by
  obtain ⟨⟨d, e⟩, q⟩ := o
  have z := congrArg (fun l => l[i]?) t
  simp only [tags, List.getElem?_map, e, Option.map_some] at z
  cases k : ρ[i]? with
  | none => rw [k] at z; cases z
  | some r =>
    rw [k] at z
    obtain ⟨d', rfl⟩ := tag_own (r := r) (Option.some.inj z).symm
    exact ⟨⟨d', k⟩, q⟩
theorem owns_tags (t : tags ρ' = tags ρ) (a : Addr) (h : Owns σ ρ' a) : Owns σ ρ a := let ⟨i, o⟩ := h; ⟨i, ownAt_tags t o⟩
end

/-! ### outcomes -/
inductive Res (α : Type) where
  | ok (a : α) (ρ : Rho)
  | exc (cls : Str) (fs : List (Str × D)) (ρ : Rho)
  | no
abbrev M (α : Type) := Rho → Res α
def Res.bind {α β : Type} (r : Res α) (g : α → M β) : Res β := match r with
  | .ok a ρ => g a ρ
  | .exc c f ρ => .exc c f ρ
  | .no => .no
def mbind {α β : Type} (f : M α) (g : α → M β) : M β := fun ρ => (f ρ).bind g
def mret {α : Type} (a : α) : M α := fun ρ => .ok a ρ
def mno {α : Type} : M α := fun _ => .no
def mopt {α : Type} (o : Option α) : M α := fun ρ => match o with
  | some a => .ok a ρ
  | none => .no
/-- the slots keep their kinds -/
structure TP {α : Type} (f : M α) : Prop where
  ok : ∀ ρ a ρ', f ρ = .ok a ρ' → tags ρ' = tags ρ
  ex : ∀ ρ c x ρ', f ρ = .exc c x ρ' → tags ρ' = tags ρ
theorem TP.bind {α β : Type} {f : M α} {g : α → M β} (hf : TP f) (hg : ∀ a, TP (g a)) : TP (mbind f g) := by
  refine ⟨fun ρ b ρ' e => ?_, fun ρ c x ρ' e => ?_⟩ <;> unfold mbind at e <;> cases q : f ρ with
  | ok a ρ1 =>
    rw [q] at e
    first
      | exact ((hg a).ok ρ1 _ _ e).trans (hf.ok _ _ _ q)
      | exact ((hg a).ex ρ1 _ _ _ e).trans (hf.ex _ _ _ _ q)
      | exact ((hg a).ex ρ1 _ _ _ e).trans (hf.ok _ _ _ q)
  | exc c f ρ1 =>
    rw [q] at e
    first
      | (cases e; exact hf.ex _ _ _ _ q)
      | cases e
  | no => rw [q] at e; cases e
theorem TP.ret {α : Type} (a : α) : TP (mret a) := ⟨fun ρ b ρ' e => by cases e; rfl, fun ρ c x ρ' e => by cases e⟩
theorem TP.opt {α : Type} (o : Option α) : TP (mopt o) := by
  cases o with
  | none => exact ⟨fun ρ b ρ' e => (by cases e), fun ρ c x ρ' e => by cases e⟩
  | some a => exact ⟨fun ρ b ρ' e => (by cases e; rfl), fun ρ c x ρ' e => by cases e⟩

/-! ### readings of outcomes -/
section
variable {α β γ δ : Type}
/-- what is wanted of an exception -/
def XPost (X : Cx) (W : WX) (B Z : Addr → Prop) (H : Hp) (σ : St) (ρ : Rho) (c : Str) (fs : List (Str × D)) (ρ' : Rho) : Prop :=
  ∀ H' Z' C dx, Step (Owns σ ρ) Z H Z' H' → Good X.K B Z' H' σ ρ' → X.mg c = some (.ref C) → XRep X.K Z' H' dx fs → W (.ref C) dx σ H'
/-- how an outcome stands for what the machine gives: the slots, the heap at the beginning, at the end -/
structure Rl (β α : Type) where
  r : St → Rho → Hp → (Addr → Prop) → Hp → β → α → Prop
  anti : ∀ {σ ρ H0 H1 Z H b a}, (∀ c, H1 c = none → H0 c = none) → r σ ρ H1 Z H b a → r σ ρ H0 Z H b a
def Post (X : Cx) (W : WX) (R : Rl β α) (B Z : Addr → Prop) (H : Hp) (σ : St) (ρ : Rho) (r : Res α) (Q : β → Hp → Prop) : Prop := match r with
  | .ok a ρ' => ∀ b H' Z', Step (Owns σ ρ) Z H Z' H' → Good X.K B Z' H' σ ρ' → R.r σ ρ' H Z' H' b a → Q b H'
  | .exc c fs ρ' => XPost X W B Z H σ ρ c fs ρ'
  | .no => False
def Lf (X : Cx) (W : WX) (R : Rl β α) (f : M α) : St → Hp → (β → Hp → Prop) → Prop := fun σ H Q => ∃ B Z ρ, Good X.K B Z H σ ρ ∧ Post X W R B Z H σ ρ (f ρ) Q
variable {X : Cx} {W : WX} {R : Rl β α} {R' : Rl δ γ} {B Z Z1 : Addr → Prop} {H H1 : Hp} {σ : St} {ρ ρ1 : Rho}
theorem XPost.after {c : Str} {fs : List (Str × D)} {ρ' : Rho} (s : Step (Owns σ ρ) Z H Z1 H1) (t : tags ρ1 = tags ρ) (p : XPost X W B Z H σ ρ c fs ρ') : XPost X W B Z1 H1 σ ρ1 c fs ρ' :=
  fun H' Z' C dx s' g m x => p H' Z' C dx (s.trans s' fun a o => .inl (owns_tags t a o)) g m x
theorem Post.after {r : Res α} {Q : β → Hp → Prop} (s : Step (Owns σ ρ) Z H Z1 H1) (t : tags ρ1 = tags ρ) (p : Post X W R B Z H σ ρ r Q) : Post X W R B Z1 H1 σ ρ1 r Q := by
  cases r with
  | ok a ρ' => exact fun b H' Z' s' g x => p b H' Z' (s.trans s' fun a o => .inl (owns_tags t a o)) g (R.anti (fun c e => s.free e) x)
  | exc c fs ρ' => exact XPost.after s t p
  | no => exact p
/-- an end that only lays new things -/
theorem Post.lay {a : α} {Q : β → Hp → Prop} {b : β} {H' : Hp} {Z' : Addr → Prop} (G : Good X.K B Z H σ ρ) (p : Post X W R B Z H σ ρ (.ok a ρ) Q) (s : Ext Z H Z' H') (t : ∀ a, Z' a → ∃ o, H' a = some o) (r : R.r σ ρ H Z' H' b a) : Q b H' :=
  p b H' Z' (s.weak fun _ h => h.elim) (G.ext s t) r
theorem Post.at {a : α} {Q : β → Hp → Prop} {b : β} (G : Good X.K B Z H σ ρ) (p : Post X W R B Z H σ ρ (.ok a ρ) Q) (r : R.r σ ρ H Z H b a) : Q b H :=
  p b H Z .refl G r
end

end VS

set_option Elab.async false
set_option linter.all false
set_option maxRecDepth 100000
namespace VS
open PySem L2
section
variable {α β γ δ : Type} {X : Cx} {W : WX} {R : Rl β α} {R' : Rl δ γ} {B Z Z1 : Addr → Prop} {H H1 : Hp} {σ : St} {ρ ρ1 : Rho}
theorem Post.bind {f : M α} {g : α → M γ} {Q : δ → Hp → Prop} {Q' : β → Hp → Prop} (tp : TP f) (G : Good X.K B Z H σ ρ) (p : Post X W R' B Z H σ ρ (mbind f g ρ) Q)
    (k : ∀ b H1 Z1 ρ1 a, Step (Owns σ ρ) Z H Z1 H1 → Good X.K B Z1 H1 σ ρ1 → tags ρ1 = tags ρ → R.r σ ρ1 H Z1 H1 b a → Post X W R' B Z1 H1 σ ρ1 (g a ρ1) Q → Q' b H1) : Lf X W R f σ H Q' := by
  refine ⟨B, Z, ρ, G, ?_⟩
  unfold mbind at p
  cases e : f ρ with
  | ok a ρ1 =>
    rw [e] at p
    exact fun b H1 Z1 s1 G1 r1 => k b H1 Z1 ρ1 a s1 G1 (tp.ok _ _ _ e) r1 (p.after s1 (tp.ok _ _ _ e))
  | exc c fs ρ1 => rw [e] at p; exact p
  | no => rw [e] at p; exact p
end

/-! ### operands: a value, or the place of what is own -/
inductive Op where
  | v (d : D) | p (j : Nat) | s (ns : List Int)
def RepB (K : PySem.W.Frag) (Z : Addr → Prop) (H : Hp) (v : V) (d : D) : Prop := Rep K Z H v d ∨ ∃ a, v = .ref a ∧ Cell K Z H a d
def RepO (K : PySem.W.Frag) (σ : St) (Z : Addr → Prop) (H : Hp) (v : V) : Op → Prop
  | .v d => Rep K Z H v d
  | .p j => σ[j]? = some (some v)
  | .s ns => ∃ a, v = .ref a ∧ ScrAt K Z H a (ns.map V.int)
abbrev RV (X : Cx) : Rl V D := ⟨fun _ _ _ Z H v d => Rep X.K Z H v d, fun _ h => h⟩
abbrev RO (X : Cx) : Rl V Op := ⟨fun σ _ _ Z H v o => RepO X.K σ Z H v o, fun _ h => h⟩
abbrev RT : Rl Bool Bool := ⟨fun _ _ _ _ _ b c => b = c, fun _ h => h⟩
abbrev RA (X : Cx) : Rl (List V) (List Op) := ⟨fun σ _ _ Z H vs os => PySem.Paired (fun v o => RepO X.K σ Z H v o) vs os, fun _ h => h⟩
/-- a new container that nothing else holds -/
abbrev RF (X : Cx) : Rl V D := ⟨fun σ ρ H0 Z H v d => ∃ a, v = .ref a ∧ ¬ Z a ∧ Cell X.K Z H a d ∧ ¬ Owns σ ρ a ∧ H0 a = none, fun h ⟨a, e, z, c, o, n⟩ => ⟨a, e, z, c, o, h a n⟩⟩

structure VE (X : Cx) (W : WX) (e : Expr) (f : M D) : Prop where
  pe : PE X e (Lf X W (RV X) f)
  tp : TP f
structure BE (X : Cx) (W : WX) (e : Expr) (f : M Op) : Prop where
  pe : PE X e (Lf X W (RO X) f)
  tp : TP f
structure VT (X : Cx) (W : WX) (e : Expr) (f : M Bool) : Prop where
  pt : PT X e (Lf X W RT f)
  tp : TP f
structure VA (X : Cx) (W : WX) (es : List Expr) (f : M (List Op)) : Prop where
  pa : PA X es (Lf X W (RA X) f)
  tp : TP f

theorem PE.imp {X : Cx} {e : Expr} {t t' : TE} (h : PE X e t) (i : ∀ σ H Q, t' σ H Q → t σ H Q) : PE X e t' := ⟨fun pins s σ H Q I q => h.run pins s σ H Q I (i σ H Q q)⟩
theorem PT.imp {X : Cx} {e : Expr} {t t' : TT} (h : PT X e t) (i : ∀ σ H Q, t' σ H Q → t σ H Q) : PT X e t' := ⟨fun pins s σ H Q I q => h.run pins s σ H Q I (i σ H Q q)⟩
theorem PA.imp {X : Cx} {e : List Expr} {t t' : TA} (h : PA X e t) (i : ∀ σ H Q, t' σ H Q → t σ H Q) : PA X e t' := ⟨fun pos pins s σ H Q I q => h.run pos pins s σ H Q I (i σ H Q q)⟩
theorem PS.imp {X : Cx} {e : Stmt} {t t' : TS} (h : PS X e t) (i : ∀ D σ H, t' D σ H → t D σ H) : PS X e t' := ⟨fun pins s σ H Q I q => h.run pins s σ H Q I (i Q σ H q)⟩
theorem PSs.imp {X : Cx} {e : List Stmt} {t t' : TS} (h : PSs X e t) (i : ∀ D σ H, t' D σ H → t D σ H) : PSs X e t' := ⟨fun pins s σ H Q I q => h.run pins s σ H Q I (i Q σ H q)⟩

def mder (o : Op) : M D := fun ρ => match o with
  | .v d => .ok d ρ
  | .p j => match ρ[j]? with
    | some (.own d) => .ok d ρ
    | _ => .no
  | .s _ => .no
theorem TP.der (o : Op) : TP (mder o) := by
  cases o with
  | v d => exact .ret d
  | p j =>
    refine ⟨fun ρ a ρ' e => ?_, fun ρ c x ρ' e => ?_⟩ <;> unfold mder at e <;> dsimp only at e <;> split at e <;> cases e
    rfl
  | s ns => exact ⟨fun ρ a ρ' e => (by cases e), fun ρ c x ρ' e => by cases e⟩
/-- what may be read behind operands -/
theorem RepO.step {K : PySem.W.Frag} {O Z Z' : Addr → Prop} {H H' : Hp} {σ : St} (s : Step O Z H Z' H') (m : MutO O H) (hz : ∀ a, Z a → ¬ O a) {v : V} {o : Op} (r : RepO K σ Z H v o) : RepO K σ Z' H' v o := by
  cases o with
  | v d => exact Rep.step s m hz r
  | p j => exact r
  | s ns => obtain ⟨a, e, q⟩ := r; exact ⟨a, e, q.step s hz⟩
theorem RepO.der {K : PySem.W.Frag} {B Z : Addr → Prop} {H : Hp} {σ : St} {ρ ρ' : Rho} (G : Good K B Z H σ ρ) {v : V} {o : Op} {d : D} (r : RepO K σ Z H v o) (e : mder o ρ = .ok d ρ') : ρ' = ρ ∧ RepB K Z H v d := by
  cases o with
  | v c => cases e; exact ⟨rfl, .inl r⟩
  | p j =>
    unfold mder at e
    dsimp only at e
    split at e
    · rename_i c q
      cases e
      obtain ⟨a, h1, n, c, _⟩ := G.own q
      have r' : σ[j]? = some (some v) := r
      rw [h1] at r'
      cases r'
      exact ⟨rfl, .inr ⟨a, rfl, c⟩⟩
    · cases e
  | s ns => cases e
theorem mder_ok (o : Op) (ρ : Rho) : (mder o ρ = .no ∨ ∃ d, mder o ρ = .ok d ρ) := by
  cases o with
  | v d => exact .inr ⟨d, rfl⟩
  | p j =>
    unfold mder
    dsimp only
    split
    · exact .inr ⟨_, rfl⟩
    · exact .inl rfl
  | s ns => exact .inl rfl
/-- a dereference ahead of the rest -/
theorem Post.der {γ δ : Type} {X : Cx} {W : WX} {R' : Rl δ γ} {B Z : Addr → Prop} {H : Hp} {σ : St} {ρ : Rho} {v : V} {o : Op} {g : D → M γ} {Q : δ → Hp → Prop} (G : Good X.K B Z H σ ρ) (r : RepO X.K σ Z H v o)
    (p : Post X W R' B Z H σ ρ (mbind (mder o) g ρ) Q) : ∃ d, RepB X.K Z H v d ∧ Post X W R' B Z H σ ρ (g d ρ) Q := by
  unfold mbind at p
  rcases mder_ok o ρ with e | ⟨d, e⟩
  · rw [e] at p; exact p.elim
  · rw [e] at p
    exact ⟨d, (RepO.der G r e).2, p⟩

/-! ### what a representation says -/
section
variable {K : PySem.W.Frag} {Z : Addr → Prop} {H : Hp} {x : V}
theorem RepB.of {d : D} (r : Rep K Z H x d) : RepB K Z H x d := .inl r
theorem RepB.non (r : RepB K Z H x .none) : x = .non := by
  rcases r with r | ⟨a, _, c⟩
  · cases r; rfl
  · exact c.elim
theorem RepB.bl {b : Bool} (r : RepB K Z H x (.bool b)) : x = .bl b := by
  rcases r with r | ⟨a, _, c⟩
  · cases r; rfl
  · exact c.elim
theorem RepB.int {i : Int} (r : RepB K Z H x (.int i)) : x = .int i := by
  rcases r with r | ⟨a, _, c⟩
  · cases r; rfl
  · exact c.elim
theorem RepB.str {i : Str} (r : RepB K Z H x (.str i)) : x = .str i := by
  rcases r with r | ⟨a, _, c⟩
  · cases r; rfl
  · exact c.elim
theorem RepB.tup {ds : List D} (r : RepB K Z H x (.tuple ds)) : ∃ a vs, x = .ref a ∧ SqT K H a vs ∧ RepL K Z H vs ds := by
  rcases r with r | ⟨a, _, c⟩
  · cases r with
    | tup h r => exact ⟨_, _, rfl, h, r⟩
  · exact c.elim
theorem RepB.lst {ds : List D} (r : RepB K Z H x (.list ds)) : ∃ a vs, x = .ref a ∧ H a = some (.lst vs) ∧ RepL K Z H vs ds := by
  rcases r with r | ⟨a, e, c⟩
  · cases r with
    | lst z h r => exact ⟨_, _, rfl, h, r⟩
  · obtain ⟨vs, h, r⟩ := c
    exact ⟨a, vs, e, h, r⟩
theorem RepB.dic {ds : List (D × D)} (r : RepB K Z H x (.dict ds)) : ∃ a kv, x = .ref a ∧ Rd H a (.dK kv) ∧ RepD K Z H kv ds := by
  rcases r with r | ⟨a, e, c⟩
  · cases r with
    | dic z h r => exact ⟨_, _, rfl, .inr ⟨_, h⟩, r⟩
  · obtain ⟨vs, h, r⟩ := c
    exact ⟨a, vs, e, .inl h, r⟩
end

/-! ### names, constants -/
def mvar (i : Nat) : M D := fun ρ => match ρ[i]? with
  | some (.val d) => .ok d ρ
  | some (.frz d) => .ok d ρ
  | _ => .no
def mopd (i : Nat) : M Op := fun ρ => match ρ[i]? with
  | some (.val d) => .ok (.v d) ρ
  | some (.frz d) => .ok (.v d) ρ
  | some (.own _) => .ok (.p i) ρ
  | some (.scr ns) => .ok (.s ns) ρ
  | _ => .no
theorem TP.var (i : Nat) : TP (mvar i) := by
  refine ⟨fun ρ a ρ' e => ?_, fun ρ c x ρ' e => ?_⟩ <;> unfold mvar at e <;> split at e <;> cases e <;> rfl
theorem TP.opd (i : Nat) : TP (mopd i) := by
  refine ⟨fun ρ a ρ' e => ?_, fun ρ c x ρ' e => ?_⟩ <;> unfold mopd at e <;> split at e <;> cases e <;> rfl
section
variable {X : Cx} {W : WX} {e : Expr}
theorem ve_pv {x : Str} {pos : Pos} {i : Nat} (h : PE X (.Name x pos) (tVar i)) : VE X W (.Name x pos) (mvar i) := by
  refine ⟨PE.imp h fun σ H Q ⟨B, Z, ρ, G, p⟩ => ?_, .var i⟩
  unfold mvar at p
  split at p
  · rename_i d q
    obtain ⟨v, e1, r⟩ := G.val q
    exact ⟨v, e1, p.at G r⟩
  · rename_i d q
    obtain ⟨a, e1, z, b, c⟩ := G.frz q
    exact ⟨_, e1, p.at G (c.rep z)⟩
  · exact p.elim
theorem be_pv {x : Str} {pos : Pos} {i : Nat} (h : PE X (.Name x pos) (tVar i)) : BE X W (.Name x pos) (mopd i) := by
  refine ⟨PE.imp h fun σ H Q ⟨B, Z, ρ, G, p⟩ => ?_, .opd i⟩
  unfold mopd at p
  split at p
  · rename_i d q
    obtain ⟨v, e1, r⟩ := G.val q
    exact ⟨v, e1, p.at G (show RepO X.K σ Z H v (.v d) from r)⟩
  · rename_i d q
    obtain ⟨a, e1, z, b, c⟩ := G.frz q
    exact ⟨_, e1, p.at G (show RepO X.K σ Z H _ (.v d) from c.rep z)⟩
  · rename_i d q
    obtain ⟨a, e1, n, c, o⟩ := G.own q
    exact ⟨_, e1, p.at G (show RepO X.K σ Z H _ (.p i) from e1)⟩
  · rename_i ns q
    obtain ⟨a, e1, c⟩ := G.scr q
    exact ⟨_, e1, p.at G (show RepO X.K σ Z H _ (.s ns) from ⟨a, rfl, c⟩)⟩
  · exact p.elim
def mv (f : M D) : M Op := mbind f fun d => mret (.v d)
theorem be_ve {f : M D} (h : VE X W e f) : BE X W e (mv f) := by
  refine ⟨PE.imp h.pe fun σ H Q ⟨B, Z, ρ, G, p⟩ => ?_, h.tp.bind fun _ => .ret _⟩
  exact Post.bind h.tp G p fun b H1 Z1 ρ1 a s G1 t r p1 => p1.at G1 (show RepO X.K σ Z1 H1 b (.v a) from r)
theorem ve_c {v : V} {d : D} (h : PE X e (tC v)) (r : ∀ Z H, Rep X.K Z H v d) : VE X W e (mret d) :=
  ⟨PE.imp h fun σ H Q ⟨B, Z, ρ, G, p⟩ => p.at G (r Z H), .ret d⟩
theorem ve_int {i j pos} : VE X W (.Constant (.int i) j pos) (mret (.int i)) := ve_c pe_int fun _ _ => .int i
theorem ve_bl {b j pos} : VE X W (.Constant (.bool b) j pos) (mret (.bool b)) := ve_c pe_bl fun _ _ => .bl b
theorem ve_non {j pos} : VE X W (.Constant .none j pos) (mret .none) := ve_c pe_non fun _ _ => .non
theorem ve_str {x j pos} : VE X W (.Constant (.str x) j pos) (mret (.str x)) := ve_c pe_str fun _ _ => .str x
end

/-! ### operators by values -/
abbrev Trk (Z : Addr → Prop) (H : Hp) : Prop := ∀ a, Z a → ∃ o, H a = some o
def OpD (K : PySem.W.Frag) (r : R2) (g : D → D → Option D) : Prop := ∀ (Z : Addr → Prop) (H : Hp) (x y : V) (a b d : D) (Q : VK), RepB K Z H x a → RepB K Z H y b → Trk Z H → g a b = some d →
  (∀ v H' Z', Ext Z H Z' H' → Trk Z' H' → Rep K Z' H' v d → Q v H') → r x y H Q
def mbin (g : D → D → Option D) (fa fb : M Op) : M D := mbind fa fun a => mbind fb fun b => mbind (mder a) fun x => mbind (mder b) fun y => mopt (g x y)
theorem Post.opt {γ δ : Type} {X : Cx} {W : WX} {R' : Rl δ γ} {B Z : Addr → Prop} {H : Hp} {σ : St} {ρ : Rho} {o : Option γ} {Q : δ → Hp → Prop}
    (p : Post X W R' B Z H σ ρ (mopt o ρ) Q) : ∃ d, o = some d ∧ Post X W R' B Z H σ ρ (.ok d ρ) Q := by
  cases o with
  | none => exact p.elim
  | some d => exact ⟨d, rfl, p⟩
section
variable {X : Cx} {W : WX} {a b : Expr} {fa fb : M Op} {g : D → D → Option D} {r : R2} {pos : Pos}
theorem tp_bin (ha : TP fa) (hb : TP fb) : TP (mbin g fa fb) := ha.bind fun _ => hb.bind fun _ => (TP.der _).bind fun _ => (TP.der _).bind fun _ => .opt _
/-- both operands, then what is asked of their values -/
theorem bin_core {γ δ : Type} {R' : Rl δ γ} {k : D → D → M γ} {σ : St} {H : Hp} {Q : δ → Hp → Prop} {Q' : V → V → Hp → Prop} (ha : TP fa) (hb : TP fb)
    (h : Lf X W R' (mbind fa fun a => mbind fb fun b => mbind (mder a) fun x => mbind (mder b) fun y => k x y) σ H Q)
    (c : ∀ B Z H ρ x y d e, Good X.K B Z H σ ρ → RepB X.K Z H x d → RepB X.K Z H y e → Post X W R' B Z H σ ρ (k d e ρ) Q → Q' x y H) : Lf X W (RO X) fa σ H fun x H1 => Lf X W (RO X) fb σ H1 fun y H2 => Q' x y H2 := by
  obtain ⟨B, Z, ρ, G, p⟩ := h
  refine Post.bind ha G p fun x H1 Z1 ρ1 o1 s1 G1 t1 r1 p1 => ?_
  refine Post.bind hb G1 p1 fun y H2 Z2 ρ2 o2 s2 G2 t2 r2 p2 => ?_
  have r1' := RepO.step s2 G1.mut G1.nz r1
  obtain ⟨d, q1, p3⟩ := p2.der G2 r1'
  obtain ⟨e, q2, p4⟩ := p3.der G2 r2
  exact c B Z2 H2 ρ2 x y d e G2 q1 q2 p4
theorem op_imp {σ : St} {H : Hp} {Q : VK} (hg : OpD X.K r g) (ha : TP fa) (hb : TP fb) (h : Lf X W (RV X) (mbin g fa fb) σ H Q) : tOp r (Lf X W (RO X) fa) (Lf X W (RO X) fb) σ H Q := by
  refine bin_core ha hb h fun B Z H ρ x y d e G r1 r2 p => ?_
  obtain ⟨z, e1, p⟩ := p.opt
  exact hg Z H x y d e z Q r1 r2 G.zt e1 fun v H' Z' s t r => p.lay G s t r
theorem ve_op {op : Operator} (ho : OpR X (binaryOp op) r) (hg : OpD X.K r g) (ha : BE X W a fa) (hb : BE X W b fb) : VE X W (.BinOp a op b pos) (mbin g fa fb) :=
  ⟨PE.imp (pe_op ho ha.pe hb.pe) fun σ H Q h => op_imp hg ha.tp hb.tp h, tp_bin ha.tp hb.tp⟩
theorem ve_cmp {op : CmpOp} (ho : OpR X (compareOp op) r) (hg : OpD X.K r g) (ha : BE X W a fa) (hb : BE X W b fb) (hm : behindInMarks op b = false) : VE X W (.Compare a [op] [b] pos) (mbin g fa fb) :=
  ⟨PE.imp (pe_cmpR ho ha.pe hb.pe hm) fun σ H Q h => op_imp hg ha.tp hb.tp h, tp_bin ha.tp hb.tp⟩
/-- a truth value as a test -/
def mtest (f : M D) : M Bool := mbind f fun d => match d with
  | .bool b => mret b
  | _ => mno
theorem TP.no {α : Type} : TP (mno : M α) := ⟨fun ρ a ρ' e => (by cases e), fun ρ c x ρ' e => (by cases e)⟩
theorem tp_test {f : M D} (h : TP f) : TP (mtest f) := h.bind fun d => by
  cases d <;> first | exact .ret _ | exact .no
theorem test_imp {f : M D} {σ : St} {H : Hp} {Q : Bool → Hp → Prop} (hf : TP f) (h : Lf X W RT (mtest f) σ H Q) : Lf X W (RV X) f σ H fun x H' => ∃ k, x = .bl k ∧ Q k H' := by
  obtain ⟨B, Z, ρ, G, p⟩ := h
  refine Post.bind hf G p fun x H1 Z1 ρ1 d s1 G1 t1 r1 p1 => ?_
  cases d with
  | bool k =>
    cases r1
    exact ⟨k, rfl, p1.at G1 rfl⟩
  | _ => exact p1.elim
theorem vt_cmp {op : CmpOp} (ho : OpR X (compareOp op) r) (hg : OpD X.K r g) (ha : BE X W a fa) (hb : BE X W b fb) (hm : behindInMarks op b = false) : VT X W (.Compare a [op] [b] pos) (mtest (mbin g fa fb)) :=
  ⟨PT.imp (pt_cmpR ho ha.pe hb.pe hm) fun σ H Q h => op_imp hg ha.tp hb.tp (test_imp (tp_bin ha.tp hb.tp) h), tp_test (tp_bin ha.tp hb.tp)⟩
/-- an expression that gives a truth value, as a test -/
theorem vt_val {e : Expr} {f : M D} (h : VE X W e f) (he : ∀ whole, isTrue e X.env whole = (do let v ← whole; standAt e.pos; holding [v] (truthy v)) := by intro _; rfl) : VT X W e (mtest f) :=
  ⟨PT.imp (pt_val h.pe he) fun σ H Q q => test_imp h.tp q, tp_test h.tp⟩

/-! ### not, and, or; a if t else b -/
def mnotT (f : M Bool) : M Bool := mbind f fun b => mret (!b)
def mandT (f g : M Bool) : M Bool := mbind f fun b => if b = true then g else mret false
def morT (f g : M Bool) : M Bool := mbind f fun b => if b = true then mret true else g
structure VW (X : Cx) (W : WX) (e : Expr) (f : M Bool) : Prop where
  pw : PW X e (Lf X W RT f)
  tp : TP f
theorem PW.imp {e : Expr} {t t' : TT} (h : PW X e t) (i : ∀ σ H Q, t' σ H Q → t σ H Q) : PW X e t' := ⟨fun wh pins s σ H Q I q => h.run wh pins s σ H Q I (i σ H Q q)⟩
theorem VW.vt {e : Expr} {f : M Bool} (h : VW X W e f) : VT X W e f := ⟨h.pw.pt, h.tp⟩
theorem vt_not {f : M Bool} (h : VT X W a f) : VT X W (.UnaryOp .Not a pos) (mnotT f) := by
  refine ⟨PT.imp (pt_not h.pt) fun σ H Q ⟨B, Z, ρ, G, p⟩ => ?_, h.tp.bind fun _ => .ret _⟩
  exact Post.bind h.tp G p fun x H1 Z1 ρ1 d s1 G1 t1 r1 p1 => by
    have e : x = d := r1
    subst e
    exact p1.at G1 rfl
section
variable {f g : M Bool} {rest : List Expr}
theorem tp_and (hf : TP f) (hg : TP g) : TP (mandT f g) := hf.bind fun b => by
  by_cases h : b = true
  · simp only [h, if_true]; exact hg
  · simp only [h, if_false]; exact .ret _
theorem tp_or (hf : TP f) (hg : TP g) : TP (morT f g) := hf.bind fun b => by
  by_cases h : b = true
  · simp only [h, if_true]; exact .ret _
  · simp only [h, if_false]; exact hg
theorem vw_and1 (h : VT X W a f) : VW X W (.BoolOp .And [a] pos) f := ⟨pw_and1 h.pt, h.tp⟩
theorem vw_or1 (h : VT X W a f) : VW X W (.BoolOp .Or [a] pos) f := ⟨pw_or1 h.pt, h.tp⟩
theorem vw_and (ha : VT X W a f) (hb : VW X W (.BoolOp .And (b :: rest) pos) g) : VW X W (.BoolOp .And (a :: b :: rest) pos) (mandT f g) := by
  refine ⟨PW.imp (pw_and ha.pt hb.pw) fun σ H Q ⟨B, Z, ρ, G, p⟩ => ?_, tp_and ha.tp hb.tp⟩
  refine Post.bind ha.tp G p fun x H1 Z1 ρ1 d s1 G1 t1 r1 p1 => ?_
  have e : x = d := r1
  subst e
  cases x with
  | true => exact ⟨B, Z1, ρ1, G1, p1⟩
  | false => exact p1.at G1 rfl
theorem vw_or (ha : VT X W a f) (hb : VW X W (.BoolOp .Or (b :: rest) pos) g) : VW X W (.BoolOp .Or (a :: b :: rest) pos) (morT f g) := by
  refine ⟨PW.imp (pw_or ha.pt hb.pw) fun σ H Q ⟨B, Z, ρ, G, p⟩ => ?_, tp_or ha.tp hb.tp⟩
  refine Post.bind ha.tp G p fun x H1 Z1 ρ1 d s1 G1 t1 r1 p1 => ?_
  have e : x = d := r1
  subst e
  cases x with
  | true => exact p1.at G1 rfl
  | false => exact ⟨B, Z1, ρ1, G1, p1⟩
end
/-- .. as values -/
def mnotV (f : M D) : M D := mbind f fun d => match d with
  | .bool b => mret (.bool (!b))
  | _ => mno
def mandV (f g : M D) : M D := mbind f fun d => match d with
  | .bool b => if b = true then g else mret (.bool false)
  | _ => mno
def morV (f g : M D) : M D := mbind f fun d => match d with
  | .bool b => if b = true then mret (.bool true) else g
  | _ => mno
section
variable {f g : M D} {rest : List Expr}
theorem tp_notV (hf : TP f) : TP (mnotV f) := hf.bind fun d => by
  cases d <;> first | exact .ret _ | exact .no
theorem tp_andV (hf : TP f) (hg : TP g) : TP (mandV f g) := hf.bind fun d => by
  cases d with
  | bool b =>
    by_cases h : b = true
    · simp only [h, if_true]; exact hg
    · simp only [h, if_false]; exact .ret _
  | _ => exact .no
theorem tp_orV (hf : TP f) (hg : TP g) : TP (morV f g) := hf.bind fun d => by
  cases d with
  | bool b =>
    by_cases h : b = true
    · simp only [h, if_true]; exact .ret _
    · simp only [h, if_false]; exact hg
  | _ => exact .no
theorem ve_one {op} (h : VE X W a f) : VE X W (.BoolOp op [a] pos) f := ⟨pe_one h.pe, h.tp⟩
theorem ve_not (h : VE X W a f) : VE X W (.UnaryOp .Not a pos) (mnotV f) := by
  refine ⟨PE.imp (pe_not h.pe) fun σ H Q ⟨B, Z, ρ, G, p⟩ => ?_, tp_notV h.tp⟩
  refine Post.bind h.tp G p fun x H1 Z1 ρ1 d s1 G1 t1 r1 p1 => ?_
  cases d with
  | bool k => cases r1; exact ⟨k, rfl, p1.at G1 (.bl _)⟩
  | _ => exact p1.elim
theorem ve_and (ha : VE X W a f) (hb : VE X W (.BoolOp .And (b :: rest) pos) g) : VE X W (.BoolOp .And (a :: b :: rest) pos) (mandV f g) := by
  refine ⟨PE.imp (pe_and ha.pe hb.pe) fun σ H Q ⟨B, Z, ρ, G, p⟩ => ?_, tp_andV ha.tp hb.tp⟩
  refine Post.bind ha.tp G p fun x H1 Z1 ρ1 d s1 G1 t1 r1 p1 => ?_
  cases d with
  | bool k =>
    cases r1
    refine ⟨k, rfl, ?_⟩
    cases k with
    | true => exact ⟨B, Z1, ρ1, G1, p1⟩
    | false => exact p1.at G1 (.bl _)
  | _ => exact p1.elim
theorem ve_or (ha : VE X W a f) (hb : VE X W (.BoolOp .Or (b :: rest) pos) g) : VE X W (.BoolOp .Or (a :: b :: rest) pos) (morV f g) := by
  refine ⟨PE.imp (pe_or ha.pe hb.pe) fun σ H Q ⟨B, Z, ρ, G, p⟩ => ?_, tp_orV ha.tp hb.tp⟩
  refine Post.bind ha.tp G p fun x H1 Z1 ρ1 d s1 G1 t1 r1 p1 => ?_
  cases d with
  | bool k =>
    cases r1
    refine ⟨k, rfl, ?_⟩
    cases k with
    | true => exact p1.at G1 (.bl _)
    | false => exact ⟨B, Z1, ρ1, G1, p1⟩
  | _ => exact p1.elim
def mif {α : Type} (t : M Bool) (f g : M α) : M α := mbind t fun b => if b = true then f else g
theorem tp_if {α : Type} {t : M Bool} {f g : M α} (ht : TP t) (hf : TP f) (hg : TP g) : TP (mif t f g) := ht.bind fun b => by
  by_cases h : b = true
  · simp only [h, if_true]; exact hf
  · simp only [h, if_false]; exact hg
theorem ve_if {c : Expr} {t : M Bool} (hc : VT X W c t) (ha : VE X W a f) (hb : VE X W b g) : VE X W (.IfExp c a b pos) (mif t f g) := by
  refine ⟨PE.imp (pe_ifExp hc.pt ha.pe hb.pe) fun σ H Q ⟨B, Z, ρ, G, p⟩ => ?_, tp_if hc.tp ha.tp hb.tp⟩
  refine Post.bind hc.tp G p fun x H1 Z1 ρ1 d s1 G1 t1 r1 p1 => ?_
  have e : x = d := r1
  subst e
  cases x with
  | true => exact ⟨B, Z1, ρ1, G1, p1⟩
  | false => exact ⟨B, Z1, ρ1, G1, p1⟩
end

/-! ### arguments, displays -/
def mnil : M (List Op) := mret []
def mcons (f : M Op) (g : M (List Op)) : M (List Op) := mbind f fun o => mbind g fun os => mret (o :: os)
section
variable {es : List Expr} {f : M Op} {g : M (List Op)}
theorem va_nil : VA X W [] mnil := ⟨PA.imp pa_nil fun σ H Q ⟨B, Z, ρ, G, p⟩ => p.at G .nil, .ret _⟩
theorem va_cons (ha : BE X W a f) (hr : VA X W es g) (hs : starEach (a :: es) X.env = (false, eval a X.env) :: starEach es X.env := by rfl) : VA X W (a :: es) (mcons f g) := by
  refine ⟨PA.imp (pa_cons ha.pe hr.pa hs) fun σ H Q ⟨B, Z, ρ, G, p⟩ => ?_, ha.tp.bind fun _ => hr.tp.bind fun _ => .ret _⟩
  refine Post.bind ha.tp G p fun x H1 Z1 ρ1 d s1 G1 t1 r1 p1 => ?_
  refine Post.bind hr.tp G1 p1 fun xs H2 Z2 ρ2 ds s2 G2 t2 r2 p2 => ?_
  exact p2.at G2 (.cons (RepO.step s2 G1.mut G1.nz r1) r2)
end
end
end VS

set_option Elab.async false
set_option linter.all false
set_option maxRecDepth 100000
namespace VS
open PySem L2

theorem mbind_assoc {α β γ : Type} (f : M α) (g : α → M β) (h : β → M γ) : mbind (mbind f g) h = mbind f fun a => mbind (g a) h := by
  funext ρ
  unfold mbind
  cases f ρ <;> rfl
theorem mbind_ret {α β : Type} (a : α) (g : α → M β) : mbind (mret a) g = g a := rfl
/-! ### operands' values -/
def vals : List Op → Option (List D)
  | [] => some []
  | .v d :: r => (vals r).map (d :: ·)
  | .p _ :: _ => none
  | .s _ :: _ => none
def mders : List Op → M (List D)
  | [] => mret []
  | o :: r => mbind (mder o) fun d => mbind (mders r) fun ds => mret (d :: ds)
abbrev RepBs (K : PySem.W.Frag) (Z : Addr → Prop) (H : Hp) (vs : List V) (ds : List D) : Prop := PySem.Paired (fun v d => RepB K Z H v d) vs ds
theorem TP.ders : ∀ os, TP (mders os)
  | [] => .ret _
  | o :: r => (TP.der o).bind fun _ => (TP.ders r).bind fun _ => .ret _
section
variable {K : PySem.W.Frag} {Z : Addr → Prop} {H : Hp} {σ : St}
theorem vals_rep : ∀ {os : List Op} {vs : List V} {ds : List D}, vals os = some ds → PySem.Paired (fun v o => RepO K σ Z H v o) vs os → RepL K Z H vs ds
  | [], _, _, e, .nil => by cases e; exact .nil
  | .v d :: r, _, ds, e, .cons h t => by
    unfold vals at e
    cases q : vals r with
    | none => rw [q] at e; cases e
    | some es => rw [q] at e; cases e; exact .cons h (vals_rep q t)
  | .p _ :: _, _, _, e, _ => by cases e
  | .s _ :: _, _, _, e, _ => by cases e
theorem paired_len {α β : Type} {G : α → β → Prop} : ∀ {l₁ : List α} {l₂ : List β}, PySem.Paired G l₁ l₂ → l₁.length = l₂.length
  | _, _, .nil => rfl
  | _, _, .cons _ t => by simp [paired_len t]
end
theorem Post.ders {γ δ : Type} {X : Cx} {W : WX} {R' : Rl δ γ} {B Z : Addr → Prop} {H : Hp} {σ : St} {ρ : Rho} {Q : δ → Hp → Prop} (G : Good X.K B Z H σ ρ) :
    ∀ {vs : List V} {os : List Op} {g : List D → M γ}, PySem.Paired (fun v o => RepO X.K σ Z H v o) vs os → Post X W R' B Z H σ ρ (mbind (mders os) g ρ) Q → ∃ ds, RepBs X.K Z H vs ds ∧ Post X W R' B Z H σ ρ (g ds ρ) Q
  | _, [], g, .nil, p => ⟨[], .nil, p⟩
  | _, o :: r, g, .cons h t, p => by
    have p' : Post X W R' B Z H σ ρ (mbind (mder o) (fun d => mbind (mders r) fun ds => g (d :: ds)) ρ) Q := by
      have e : mbind (mders (o :: r)) g = mbind (mder o) (fun d => mbind (mders r) fun ds => g (d :: ds)) := by
        show mbind (mbind (mder o) fun d => mbind (mders r) fun ds => mret (d :: ds)) g = _
        rw [mbind_assoc]
        congr 1
        funext d
        rw [mbind_assoc]
        congr 1
      rw [← e]; exact p
    obtain ⟨d, r1, p1⟩ := p'.der G h
    obtain ⟨ds, r2, p2⟩ := Post.ders G t p1
    exact ⟨d :: ds, .cons r1 r2, p2⟩

/-! ### tuples, lists written out -/
def mtup (f : M (List Op)) : M D := mbind f fun os => if os.length ≤ 1000 then mopt ((vals os).map .tuple) else mno
def mlst (f : M (List Op)) : M D := mbind f fun os => if os.length ≤ 1000 then mopt ((vals os).map .list) else mno
theorem tp_ite {α : Type} {c : Prop} [Decidable c] {f g : M α} (hf : TP f) (hg : TP g) : TP (if c then f else g) := by
  by_cases h : c
  · rw [if_pos h]; exact hf
  · rw [if_neg h]; exact hg
theorem small {n : Nat} (h : n ≤ 1000) : n ≤ sizeLine := Nat.le_trans h (by rw [sizeLine_eq]; decide)
section
variable {X : Cx} {W : WX} {es : List Expr} {f : M (List Op)} {pos : Pos}
theorem tp_tup (h : TP f) : TP (mtup f) := h.bind fun _ => tp_ite (.opt _) .no
theorem tp_lst (h : TP f) : TP (mlst f) := h.bind fun _ => tp_ite (.opt _) .no
theorem ve_tup {k} (h : VA X W es f) : VE X W (.Tuple es k pos) (mtup f) := by
  refine ⟨PE.imp (pe_tup h.pa) fun σ H Q ⟨B, Z, ρ, G, p⟩ => ?_, tp_tup h.tp⟩
  refine Post.bind h.tp G p fun vs H1 Z1 ρ1 os s1 G1 t1 r1 p1 => ?_
  have el := paired_len r1
  by_cases hl : os.length ≤ 1000
  · rw [if_pos hl] at p1
    obtain ⟨d, e, p2⟩ := p1.opt
    obtain ⟨ds, e2, rfl⟩ := Option.map_eq_some_iff.mp e
    refine ⟨by rw [el]; exact small hl, fun q hq => ?_⟩
    have x : Ext Z1 H1 Z1 (upd H1 q (.tup vs)) := Ext.upd hq Z1 (fun _ h => h) fun _ h => .inl h
    refine p2.lay G1 x (fun a z => ?_) (.tup (SqT.of upd_same) ((vals_rep e2 r1).ext x))
    obtain ⟨o, h⟩ := G1.zt a z
    exact x.there a o h
  · rw [if_neg hl] at p1; exact p1.elim
theorem trk_upd {Z : Addr → Prop} {H : Hp} {q : Addr} {o : HO} (t : Trk Z H) : Trk (fun a => Z a ∨ a = q) (upd H q o) := fun a z => by
  by_cases e : a = q
  · subst e; exact ⟨o, upd_same⟩
  · rw [upd_ne e]
    exact (z.resolve_right e) |> t a
theorem ext_new {Z : Addr → Prop} {H : Hp} {q : Addr} {o : HO} (hq : H q = none) : Ext Z H (fun a => Z a ∨ a = q) (upd H q o) := Ext.upd hq _ (fun _ h => .inl h) fun _ h => h
theorem ve_lst (h : VA X W es f) : VE X W (.List es pos) (mlst f) := by
  refine ⟨PE.imp (pe_lst h.pa) fun σ H Q ⟨B, Z, ρ, G, p⟩ => ?_, tp_lst h.tp⟩
  refine Post.bind h.tp G p fun vs H1 Z1 ρ1 os s1 G1 t1 r1 p1 => ?_
  have el := paired_len r1
  by_cases hl : os.length ≤ 1000
  · rw [if_pos hl] at p1
    obtain ⟨d, e, p2⟩ := p1.opt
    obtain ⟨ds, e2, rfl⟩ := Option.map_eq_some_iff.mp e
    refine ⟨by rw [el]; exact small hl, fun q hq => ?_⟩
    have x : Ext Z1 H1 (fun a => Z1 a ∨ a = q) (upd H1 q (.lst vs)) := ext_new hq
    exact p2.lay G1 x (trk_upd G1.zt) (.lst (.inr rfl) upd_same ((vals_rep e2 r1).ext x))
  · rw [if_neg hl] at p1; exact p1.elim
/-- a container to be held by one name -/
structure FE (X : Cx) (W : WX) (e : Expr) (f : M D) : Prop where
  pe : PE X e (Lf X W (RF X) f)
  tp : TP f
theorem Good.free {K : PySem.W.Frag} {B Z : Addr → Prop} {H : Hp} {σ : St} {ρ : Rho} (G : Good K B Z H σ ρ) {q : Addr} (hq : H q = none) : ¬ Z q ∧ ¬ Owns σ ρ q := by
  refine ⟨fun z => ?_, fun ⟨i, o⟩ => ?_⟩
  · obtain ⟨u, h⟩ := G.zt q z; rw [hq] at h; cases h
  · obtain ⟨d, _, _, c⟩ := G.ownAt o
    obtain ⟨u, h, _⟩ := c.there
    rw [hq] at h; cases h
theorem Trk.ext {Z : Addr → Prop} {H H' : Hp} (t : Trk Z H) (x : Ext Z H Z H') : Trk Z H' := fun a z => let ⟨o, h⟩ := t a z; x.there a o h
theorem fe_lst (h : VA X W es f) : FE X W (.List es pos) (mlst f) := by
  refine ⟨PE.imp (pe_lst h.pa) fun σ H Q ⟨B, Z, ρ, G, p⟩ => ?_, tp_lst h.tp⟩
  refine Post.bind h.tp G p fun vs H1 Z1 ρ1 os s1 G1 t1 r1 p1 => ?_
  have el := paired_len r1
  by_cases hl : os.length ≤ 1000
  · rw [if_pos hl] at p1
    obtain ⟨d, e, p2⟩ := p1.opt
    obtain ⟨ds, e2, rfl⟩ := Option.map_eq_some_iff.mp e
    refine ⟨by rw [el]; exact small hl, fun q hq => ?_⟩
    have x : Ext Z1 H1 Z1 (upd H1 q (.lst vs)) := Ext.upd hq Z1 (fun _ h => h) fun _ h => .inl h
    have fr := G1.free hq
    exact p2.lay G1 x (Trk.ext G1.zt x) ⟨q, rfl, fr.1, ⟨vs, upd_same, (vals_rep e2 r1).ext x⟩, fr.2, hq⟩
  · rw [if_neg hl] at p1; exact p1.elim
end

/-! ### calls of built-ins by values -/
def CaD (K : PySem.W.Frag) (r : List V → Hp → VK → Prop) (g : List D → Option D) : Prop := ∀ (Z : Addr → Prop) (H : Hp) (vs : List V) (ds : List D) (d : D) (Q : VK), RepBs K Z H vs ds → Trk Z H → g ds = some d →
  (∀ v H' Z', Ext Z H Z' H' → Trk Z' H' → Rep K Z' H' v d → Q v H') → r vs H Q
def mcb (g : List D → Option D) (f : M (List Op)) : M D := mbind f fun os => mbind (mders os) fun ds => mopt (g ds)
section
variable {X : Cx} {W : WX} {e : Expr} {es : List Expr} {f : M (List Op)} {pos p : Pos} {x : Str} {id T : String} {r : List V → Hp → VK → Prop} {g : List D → Option D}
theorem tp_cb (h : TP f) : TP (mcb g f) := h.bind fun _ => (TP.ders _).bind fun _ => .opt _
theorem cb_imp {σ : St} {H : Hp} {Q : VK} (hg : CaD X.K r g) (hf : TP f) (h : Lf X W (RV X) (mcb g f) σ H Q) : tCB r (Lf X W (RA X) f) σ H Q := by
  obtain ⟨B, Z, ρ, G, p⟩ := h
  refine Post.bind hf G p fun vs H1 Z1 ρ1 os s1 G1 t1 r1 p1 => ?_
  obtain ⟨ds, r2, p2⟩ := Post.ders (g := fun ds => mopt (g ds)) G1 r1 p1
  obtain ⟨d, e1, p3⟩ := p2.opt
  exact hg Z1 H1 vs ds d Q r2 G1.zt e1 fun v H' Z' s t r => p3.lay G1 s t r
theorem ve_callB (hc : CallR X (.builtin id) r) (hg : CaD X.K r g) (gl : Gl X x) (hm : X.mg x = none) (hv : bootBuiltins x = some (.builtin id)) (ha : VA X W (e :: es) f) (hn : x ≠ "__name__" := by decide) (hdb : (x == ("__debug__" : Str)) = false := by decide)
    (he : starEach (e :: es) X.env = (false, eval e X.env) :: starEach es X.env := by rfl) (hpl : (backTo pos (starEach es X.env)).any (·.1) = false := by rfl) : VE X W (.Call (.Name x p) (e :: es) [] pos) (mcb g f) :=
  ⟨PE.imp (pe_callB hc gl hm hv ha.pa hn hdb he hpl) fun σ H Q h => cb_imp hg ha.tp h, tp_cb ha.tp⟩
theorem ve_callTy (hc : CallR X (.type T) r) (hg : CaD X.K r g) (gl : Gl X x) (hm : X.mg x = none) (hv : bootBuiltins x = some (.type T)) (ha : VA X W (e :: es) f) (hn : x ≠ "__name__" := by decide) (hdb : (x == ("__debug__" : Str)) = false := by decide)
    (he : starEach (e :: es) X.env = (false, eval e X.env) :: starEach es X.env := by rfl) (hpl : (backTo pos (starEach es X.env)).any (·.1) = false := by rfl) : VE X W (.Call (.Name x p) (e :: es) [] pos) (mcb g f) :=
  ⟨PE.imp (pe_callTy hc gl hm hv ha.pa hn hdb he hpl) fun σ H Q h => cb_imp hg ha.tp h, tp_cb ha.tp⟩
end
end VS

set_option Elab.async false
set_option linter.all false
set_option maxRecDepth 100000
namespace VS
open PySem L2

def orG {α β : Type} (g g' : α → β → Option D) : α → β → Option D := fun a b => match g a b with
  | some d => some d
  | none => g' a b
section
variable {K : PySem.W.Frag} {r r' : R2} {g g' : D → D → Option D}
theorem opd_or (h : OpD K r g) (h' : OpD K r' g') : OpD K (fun x y H Q => r x y H Q ∨ r' x y H Q) (orG g g') := by
  intro Z H x y a b d Q ra rb t e k
  unfold orG at e
  cases q : g a b with
  | some d' => rw [q] at e; cases e; exact .inl (h Z H x y a b _ Q ra rb t q k)
  | none => rw [q] at e; exact .inr (h' Z H x y a b _ Q ra rb t e k)
theorem same_ext {Z : Addr → Prop} {H : Hp} : Ext Z H Z H := .refl
/-- ints -/
def gI (f : Int → Int → Int) : D → D → Option D
  | .int i, .int j => some (.int (f i j))
  | _, _ => none
def gIC (C : Int → Int → Bool) (f : Int → Int → Int) : D → D → Option D
  | .int i, .int j => if C i j = true then some (.int (f i j)) else none
  | _, _ => none
def gB (f : Int → Int → Bool) : D → D → Option D
  | .int i, .int j => some (.bool (f i j))
  | _, _ => none
theorem opd_i {f : Int → Int → Int} : OpD K (rI0 fun i j => .int (f i j)) (gI f) := by
  intro Z H x y a b d Q ra rb t e k
  unfold gI at e
  split at e
  · cases e
    exact ⟨_, _, ra.int, rb.int, k _ H Z .refl t (.int _)⟩
  · cases e
theorem opd_ic {C : Int → Int → Prop} {c : Int → Int → Bool} {f : Int → Int → Int} (hc : ∀ i j, c i j = true → C i j) : OpD K (rI C fun i j => .int (f i j)) (gIC c f) := by
  intro Z H x y a b d Q ra rb t e k
  unfold gIC at e
  split at e
  · rename_i i j
    split at e
    · rename_i h
      cases e
      exact ⟨_, _, ra.int, rb.int, hc _ _ h, k _ H Z .refl t (.int _)⟩
    · cases e
  · cases e
theorem opd_b {f : Int → Int → Bool} : OpD K (rI0 fun i j => .bl (f i j)) (gB f) := by
  intro Z H x y a b d Q ra rb t e k
  unfold gB at e
  split at e
  · cases e
    exact ⟨_, _, ra.int, rb.int, k _ H Z .refl t (.bl _)⟩
  · cases e
/-- texts, lists, tuples put together -/
def lineN : Nat := 16777216
theorem lineN_eq : lineN = sizeLine := sizeLine_eq.symm
def gAddS : D → D → Option D
  | .str s, .str t => if s.length + t.length ≤ lineN then some (.str (s ++ t)) else none
  | _, _ => none
def gCat : D → D → Option D
  | .list s, .list t => if s.length + t.length ≤ lineN then some (.list (s ++ t)) else none
  | _, _ => none
def gCatT : D → D → Option D
  | .tuple s, .tuple t => if s.length + t.length ≤ lineN then some (.tuple (s ++ t)) else none
  | _, _ => none
theorem opd_addS : OpD K (fun x y H Q => ∃ i j, x = .str i ∧ y = .str j ∧ i.length + j.length ≤ sizeLine ∧ Q (.str (i ++ j)) H) gAddS := by
  intro Z H x y a b d Q ra rb t e k
  unfold gAddS at e
  split at e
  · split at e
    · rename_i h
      cases e
      exact ⟨_, _, ra.str, rb.str, by rw [← lineN_eq]; exact h, k _ H Z .refl t (.str _)⟩
    · cases e
  · cases e
theorem opd_cat : OpD K rCat gCat := by
  intro Z H x y a b d Q ra rb t e k
  unfold gCat at e
  split at e
  · split at e
    · rename_i s u h
      cases e
      obtain ⟨p, vs, rfl, h1, r1⟩ := ra.lst
      obtain ⟨q, us, rfl, h2, r2⟩ := rb.lst
      refine ⟨_, _, _, _, rfl, rfl, h1, h2, by rw [← lineN_eq, r1.length, r2.length]; exact h, fun l hl => ?_⟩
      have x : Ext Z H (fun a => Z a ∨ a = l) (upd H l (.lst (vs ++ us))) := ext_new hl
      exact k _ _ _ x (trk_upd t) (.lst (.inr rfl) upd_same ((r1.append r2).ext x))
    · cases e
  · cases e
theorem RepB.rep_tup {Z : Addr → Prop} {H : Hp} {x : V} {ds : List D} (r : RepB K Z H x (.tuple ds)) : Rep K Z H x (.tuple ds) := by
  rcases r with r | ⟨a, _, c⟩
  · exact r
  · exact c.elim
theorem opd_catT : OpD K (rCatA K) gCatT := by
  intro Z H x y a b d Q ra rb t e k
  unfold gCatT at e
  split at e
  · split at e
    · rename_i s u h
      cases e
      have w1 := ra.rep_tup
      have w2 := rb.rep_tup
      obtain ⟨p, vs, rfl, h1, r1⟩ := ra.tup
      obtain ⟨q, us, rfl, h2, r2⟩ := rb.tup
      refine ⟨_, _, _, _, rfl, rfl, h1, h2, by rw [← lineN_eq, r1.length, r2.length]; exact h, fun e1 => ?_, fun _ e2 => ?_, fun _ _ l hl => ?_⟩
      · subst e1
        have : s = [] := by
          have := r1.length
          simpa using this.symm
        subst this
        exact k _ H Z .refl t w2
      · subst e2
        have : u = [] := by
          have := r2.length
          simpa using this.symm
        subst this
        rw [List.append_nil] at k
        exact k _ H Z .refl t w1
      · have x : Ext Z H Z (upd H l (.tup (vs ++ us))) := Ext.upd hl Z (fun _ h => h) fun _ h => .inl h
        exact k _ _ _ x (Trk.ext t x) (.tup (SqT.of upd_same) ((r1.append r2).ext x))
    · cases e
  · cases e
/-- a list times an int -/
def gRep : D → D → Option D
  | .list s, .int n => if -1000 ≤ n ∧ n ≤ 1000 ∧ s.length ≤ 1000 then some (.list (List.replicate n.toNat s).flatten) else none
  | _, _ => none
theorem RepL.rep {Z : Addr → Prop} {H : Hp} {vs : List V} {ds : List D} (h : RepL K Z H vs ds) : ∀ k : Nat, RepL K Z H (List.replicate k vs).flatten (List.replicate k ds).flatten
  | 0 => .nil
  | k + 1 => by
    rw [List.replicate_succ, List.replicate_succ, List.flatten_cons, List.flatten_cons]
    exact h.append (RepL.rep h k)
theorem opd_rep : OpD K rRep gRep := by
  intro Z H x y a b d Q ra rb t e k
  unfold gRep at e
  split at e
  · split at e
    · rename_i s n h
      cases e
      obtain ⟨p, vs, rfl, h1, r1⟩ := ra.lst
      have l1 := r1.length
      refine ⟨_, _, _, rfl, rb.int, h1, by omega, by omega, ?_, fun l hl => ?_⟩
      · rw [sizeLine_eq, l1]
        have : s.length * n.toNat ≤ 1000 * 1000 := Nat.mul_le_mul h.2.2 (by omega)
        omega
      · have x : Ext Z H (fun a => Z a ∨ a = l) (upd H l (.lst (List.replicate n.toNat vs).flatten)) := ext_new hl
        exact k _ _ _ x (trk_upd t) (.lst (.inr rfl) upd_same ((r1.rep _).ext x))
    · cases e
  · cases e

/-! ### equal data -/
mutual
theorem Rep.dp {Z : Addr → Prop} {H : Hp} : ∀ {v : V} {d : D}, Rep K Z H v d → d.canLay0 = true → Dp K H v d
  | _, _, .non, _ => .non
  | _, _, .bl b, _ => .bl b
  | _, _, .int i, _ => .int i
  | _, _, .str x, _ => .str x
  | _, _, .tup h r, c => .tup h (RepL.dp r (by simpa [PyData.canLay0] using c))
  | _, _, .lst z h r, c => .lst (.inl (.inl h)) (RepL.dp r (by simpa [PyData.canLay0] using c))
  | _, _, .dic z h r, c => by simp [PyData.canLay0] at c
theorem RepL.dp {Z : Addr → Prop} {H : Hp} : ∀ {v : List V} {d : List D}, RepL K Z H v d → PyData.canLayAll0 d = true → DpAll K H v d
  | _, _, .nil, _ => .nil
  | _, _, .cons r t, c => by
    simp only [PyData.canLayAll0, Bool.and_eq_true] at c
    exact .cons (Rep.dp r c.1) (RepL.dp t c.2)
end
theorem RepB.dp {Z : Addr → Prop} {H : Hp} {v : V} {d : D} (r : RepB K Z H v d) (c : d.canLay0 = true) : Dp K H v d := by
  rcases r with r | ⟨a, rfl, q⟩
  · exact r.dp c
  · cases d with
    | list ds => obtain ⟨vs, h, r⟩ := q; exact .lst (.inl (.inl h)) (RepL.dp r (by simpa [PyData.canLay0] using c))
    | dict ds => simp [PyData.canLay0] at c
    | _ => exact q.elim
def gEq (a b : D) : Option D := if SeqAt.shaped a = true ∧ SeqAt.shaped b = true then some (.bool (PyData.eqv a b)) else none
def gNe (a b : D) : Option D := if SeqAt.shaped a = true ∧ SeqAt.shaped b = true then some (.bool (!PyData.eqv a b)) else none
theorem opd_eq : OpD K (rEqD K) gEq := by
  intro Z H x y a b d Q ra rb t e k
  unfold gEq at e
  split at e
  · rename_i h
    cases e
    exact ⟨a, b, ra.dp (SeqAt.canLay_of_shaped h.1), rb.dp (SeqAt.canLay_of_shaped h.2), h.1, h.2, k _ H Z .refl t (.bl _)⟩
  · cases e
theorem opd_ne : OpD K (rNeD K) gNe := by
  intro Z H x y a b d Q ra rb t e k
  unfold gNe at e
  split at e
  · rename_i h
    cases e
    exact ⟨a, b, ra.dp (SeqAt.canLay_of_shaped h.1), rb.dp (SeqAt.canLay_of_shaped h.2), h.1, h.2, k _ H Z .refl t (.bl _)⟩
  · cases e
/-- in a list, not in a list -/
def gInL : D → D → Option D
  | a, .list ds => if SeqAt.shaped a = true ∧ SeqAt.shaped (.list ds) = true then some (.bool (ds.any fun z => PyData.eqv z a)) else none
  | _, _ => none
def gNotInL : D → D → Option D
  | a, .list ds => if SeqAt.shaped a = true ∧ SeqAt.shaped (.list ds) = true then some (.bool (!ds.any fun z => PyData.eqv z a)) else none
  | _, _ => none
theorem opd_inL : OpD K (rInD K) gInL := by
  intro Z H x y a b d Q ra rb t e k
  unfold gInL at e
  split at e
  · split at e
    · rename_i h
      cases e
      exact ⟨_, _, ra.dp (SeqAt.canLay_of_shaped h.1), rb.dp (SeqAt.canLay_of_shaped h.2), h.1, h.2, k _ H Z .refl t (.bl _)⟩
    · cases e
  · cases e
theorem opd_notInL : OpD K (rNotInD K) gNotInL := by
  intro Z H x y a b d Q ra rb t e k
  unfold gNotInL at e
  split at e
  · split at e
    · rename_i h
      cases e
      exact ⟨_, _, ra.dp (SeqAt.canLay_of_shaped h.1), rb.dp (SeqAt.canLay_of_shaped h.2), h.1, h.2, k _ H Z .refl t (.bl _)⟩
    · cases e
  · cases e
/-- is None, is not None: the right side is None -/
def gIsN : D → D → Option D
  | .none, .none => some (.bool true)
  | _, .none => some (.bool false)
  | _, _ => none
def gNotN : D → D → Option D
  | .none, .none => some (.bool false)
  | _, .none => some (.bool true)
  | _, _ => none
theorem RepB.non_iff {Z : Addr → Prop} {H : Hp} {x : V} {d : D} (r : RepB K Z H x d) (h : d ≠ .none) : x ≠ .non := by
  rintro rfl
  rcases r with r | ⟨a, e, _⟩
  · cases r; exact h rfl
  · cases e
theorem opd_isN : OpD K (fun x y H Q => y = .non ∧ Q (.bl (decide (x = .non))) H) gIsN := by
  intro Z H x y a b d Q ra rb t e k
  unfold gIsN at e
  split at e
  · cases e; exact ⟨rb.non, by rw [decide_eq_true ra.non]; exact k _ H Z .refl t (.bl _)⟩
  · rename_i h
    cases e
    refine ⟨rb.non, ?_⟩
    rw [decide_eq_false (ra.non_iff fun z => h z)]
    exact k _ H Z .refl t (.bl _)
  · cases e
theorem opd_notN : OpD K (fun x y H Q => y = .non ∧ Q (.bl (!decide (x = .non))) H) gNotN := by
  intro Z H x y a b d Q ra rb t e k
  unfold gNotN at e
  split at e
  · cases e; exact ⟨rb.non, by rw [decide_eq_true ra.non]; exact k _ H Z .refl t (.bl _)⟩
  · rename_i h
    cases e
    refine ⟨rb.non, ?_⟩
    rw [decide_eq_false (ra.non_iff fun z => h z)]
    exact k _ H Z .refl t (.bl _)
  · cases e
end
end VS

set_option Elab.async false
set_option linter.all false
set_option maxRecDepth 100000
namespace VS
open PySem L2 PyProof.Rows

/-! ### dicts by value -/
def keyOf : D → Option Key
  | .int i => some (.inl i)
  | .str s => some (.inr s)
  | _ => none
def keq : D → Key → Bool
  | .int i, .inl j => decide (i = j)
  | .str s, .inr t => decide (s = t)
  | _, _ => false
def dlook (ds : List (D × D)) (k : Key) : Option D := (ds.find? fun p => keq p.1 k).map (·.2)
def dput (ds : List (D × D)) (k : Key) (v : D) : List (D × D) := if ds.any (fun p => keq p.1 k) = true then ds.map (fun p => if keq p.1 k = true then (p.1, v) else p) else ds ++ [(kD k, v)]
def ddrop (ds : List (D × D)) (k : Key) : List (D × D) := ds.filter fun p => !keq p.1 k
def keyV : D → Option V
  | .int i => some (.int i)
  | .str s => some (.str s)
  | _ => none
theorem keq_kD (j k : Key) : keq (kD j) k = decide (j = k) := by
  cases j <;> cases k <;> simp [keq, kD]
theorem keyOf_eq {d : D} {k : Key} (h : keyOf d = some k) : d = kD k := by
  cases d <;> simp [keyOf] at h <;> subst h <;> rfl
section
variable {K : PySem.W.Frag} {Z : Addr → Prop} {H : Hp}
theorem rep_kD {k : Key} : Rep K Z H (kV k) (kD k) := by
  cases k with
  | inl i => exact .int i
  | inr s => exact .str s
theorem RepB.key {x : V} {k : Key} (r : RepB K Z H x (kD k)) : x = kV k := by
  cases k with
  | inl i => exact r.int
  | inr s => exact r.str
theorem RepD.length : ∀ {kv : List (Key × V)} {ds : List (D × D)}, RepD K Z H kv ds → kv.length = ds.length
  | _, _, .nil => rfl
  | _, _, .cons _ t => by simp [RepD.length t]
theorem RepD.look (k : Key) : ∀ {kv : List (Key × V)} {ds : List (D × D)}, RepD K Z H kv ds → (valV kv k = none ∧ dlook ds k = none) ∨ ∃ v d, valV kv k = some v ∧ dlook ds k = some d ∧ Rep K Z H v d
  | _, _, .nil => .inl ⟨rfl, rfl⟩
  | (j, v) :: kv, (_, d) :: ds, .cons r t => by
    by_cases e : j = k
    · refine .inr ⟨v, d, valV_pos e, ?_, r⟩
      unfold dlook
      rw [List.find?_cons, keq_kD, decide_eq_true e]
      rfl
    · have e1 : valV ((j, v) :: kv) k = valV kv k := valV_neg e
      have e2 : dlook ((kD j, d) :: ds) k = dlook ds k := by
        unfold dlook
        rw [List.find?_cons, keq_kD, decide_eq_false e]
      rw [e1, e2]
      exact RepD.look k t
theorem RepD.any (k : Key) : ∀ {kv : List (Key × V)} {ds : List (D × D)}, RepD K Z H kv ds → (ds.any fun p => keq p.1 k) = kv.any fun p => decide (p.1 = k)
  | _, _, .nil => rfl
  | _, _, .cons r t => by rw [List.any_cons, List.any_cons, RepD.any k t, keq_kD]
theorem RepD.append : ∀ {a : List (Key × V)} {ds : List (D × D)} {b : List (Key × V)} {es : List (D × D)}, RepD K Z H a ds → RepD K Z H b es → RepD K Z H (a ++ b) (ds ++ es)
  | _, _, _, _, .nil, s => s
  | _, _, _, _, .cons r t, s => .cons r (RepD.append t s)
theorem RepD.repl (k : Key) {v : V} {d : D} (r : Rep K Z H v d) : ∀ {kv : List (Key × V)} {ds : List (D × D)}, RepD K Z H kv ds →
    RepD K Z H (kv.map fun p => if p.1 = k then (p.1, v) else p) (ds.map fun p => if keq p.1 k = true then (p.1, d) else p)
  | _, _, .nil => .nil
  | (j, u) :: kv, (_, e) :: ds, .cons q t => by
    have ih := RepD.repl k r t
    rw [List.map_cons, List.map_cons]
    by_cases h : j = k
    · have h2 : keq (kD j) k = true := by rw [keq_kD]; exact decide_eq_true h
      rw [if_pos h, if_pos h2]
      exact .cons r ih
    · have h2 : ¬ keq (kD j) k = true := by rw [keq_kD]; simpa using h
      rw [if_neg h, if_neg h2]
      exact .cons q ih
theorem RepD.put (k : Key) {v : V} {d : D} (r : Rep K Z H v d) {kv : List (Key × V)} {ds : List (D × D)} (h : RepD K Z H kv ds) : RepD K Z H (putK kv k v) (dput ds k d) := by
  have e := h.any k
  unfold putK dput
  rw [e]
  by_cases q : (kv.any fun p => decide (p.1 = k)) = true
  · rw [if_pos q, if_pos q]
    exact h.repl k r
  · rw [if_neg q, if_neg q]
    exact h.append (.cons r .nil)
theorem RepD.drop (k : Key) : ∀ {kv : List (Key × V)} {ds : List (D × D)}, RepD K Z H kv ds → RepD K Z H (dropK kv k) (ddrop ds k)
  | _, _, .nil => .nil
  | (j, u) :: kv, (_, e) :: ds, .cons q t => by
    have ih := RepD.drop k t
    unfold dropK ddrop at *
    rw [List.filter_cons, List.filter_cons]
    by_cases h : j = k
    · subst h
      have h2 : keq (kD j) j = true := by rw [keq_kD]; exact decide_eq_true rfl
      rw [if_neg (by simp), if_neg (by simp [h2])]
      exact ih
    · have h2 : keq (kD j) k = false := by rw [keq_kD]; exact decide_eq_false h
      rw [if_pos (by simpa using h), if_pos (by simp [h2])]
      exact .cons q ih
end

/-! ### places -/
def dIx : D → D → Option D
  | .list xs, .int i => atI xs i
  | .tuple xs, .int i => atI xs i
  | .str s, .int i => if s.length ≤ lineN then (atI s.cps.toList i).map fun c => .str ⟨#[c]⟩ else none
  | .dict kvs, k => (keyOf k).bind (dlook kvs)
  | _, _ => none
def rIxD : R2 := fun x y H Q => ∃ a v, x = .ref a ∧ DGet H a y (some v) ∧ Q v H
theorem ix_dict {X : Cx} (hu : X.A.units + 1 < cLine) : IxR X rIxD := by
  intro value slice pins s σ H x y v u Q I rx ry h hs
  obtain ⟨a, w, rfl, g, q⟩ := h
  cases rx
  exact tail_any (dict_typeIs I g) PySem.F.slot_dict_getitem.lookup (d_getItem hu I g ry fun w' s' I' r' => ⟨w, H, I', r', q⟩) hs
def rIxA (K : PySem.W.Frag) : R2 := fun x y H Q => rIx K x y H Q ∨ rIxD x y H Q
theorem ix_any {X : Cx} (hu : X.A.units + 1 < cLine) : IxR X (rIxA X.K) := ix_seq.or (ix_dict hu)
section
variable {K : PySem.W.Frag}
theorem RepL.atI {Z : Addr → Prop} {H : Hp} {vs : List V} {ds : List D} (r : RepL K Z H vs ds) {i : Int} {d : D} (e : L2.atI ds i = some d) : ∃ v, L2.atI vs i = some v ∧ Rep K Z H v d := by
  unfold L2.atI at e ⊢
  rw [r.length]
  cases q : ixN ds.length i with
  | none => rw [q] at e; cases e
  | some j =>
    rw [q] at e
    obtain ⟨v, h1, h2⟩ := r.get (show ds[j]? = some d from e)
    exact ⟨v, h1, h2⟩
theorem DGet.rd {H : Hp} {a : Addr} {kvs : List (Key × V)} {k : Key} (e : Rd H a (.dK kvs)) : DGet H a (kV k) (valV kvs k) := .inl ⟨kvs, k, e, rfl, rfl⟩
theorem opd_ix : OpD K (rIxA K) dIx := by
  intro Z H x y a b d Q ra rb t e k
  unfold dIx at e
  split at e
  · obtain ⟨p, vs, rfl, h1, r1⟩ := ra.lst
    obtain ⟨v, h2, r2⟩ := r1.atI e
    exact .inl (.inl ⟨_, _, _, _, rfl, rb.int, .inl (.inl h1), h2, k _ H Z .refl t r2⟩)
  · obtain ⟨p, vs, rfl, h1, r1⟩ := ra.tup
    obtain ⟨v, h2, r2⟩ := r1.atI e
    exact .inl (.inr (.inl ⟨_, _, _, _, rfl, rb.int, h1, h2, k _ H Z .refl t r2⟩))
  · split at e
    · rename_i h
      obtain ⟨c, e1, e2⟩ := Option.map_eq_some_iff.mp e
      cases e2
      exact .inl (.inr (.inr ⟨_, _, _, ra.str, rb.int, by rw [← lineN_eq]; exact h, e1, k _ H Z .refl t (.str _)⟩))
    · cases e
  · rename_i kvs kk
    obtain ⟨key, e1, e2⟩ := Option.bind_eq_some_iff.mp e
    have e3 := keyOf_eq e1
    subst e3
    obtain ⟨p, kv, rfl, h1, r1⟩ := ra.dic
    have ek := rb.key
    subst ek
    rcases r1.look key with ⟨_, q⟩ | ⟨v, d', q1, q2, r2⟩
    · rw [q] at e2; cases e2
    · rw [q2] at e2; cases e2
      exact .inr ⟨p, v, rfl, by rw [← q1]; exact DGet.rd h1, k _ H Z .refl t r2⟩
  · cases e
end
section
variable {X : Cx} {W : WX} {a b : Expr} {fa fb : M Op} {pos : Pos}
theorem ve_ix (hu : X.A.units + 1 < cLine) (ha : BE X W a fa) (hb : BE X W b fb) (hs : PlainIx b := by intro _ _; rfl) : VE X W (.Subscript a b pos) (mbin dIx fa fb) :=
  ⟨PE.imp (pe_ix (ix_any hu) ha.pe hb.pe hs) fun σ H Q h => op_imp opd_ix ha.tp hb.tp h, tp_bin ha.tp hb.tp⟩
end

/-! ### in, not in: a list, a tuple, a dict, a text -/
section
variable {X : Cx} {K : PySem.W.Frag}
def rInT (K : PySem.W.Frag) : R2 := fun x y H Q => ∃ d ds, Dp K H x d ∧ Dp K H y (.tuple ds) ∧ SeqAt.shaped d = true ∧ SeqAt.shaped (.tuple ds) = true ∧ Q (.bl (ds.any fun z => PyData.eqv z d)) H
def rNotInT (K : PySem.W.Frag) : R2 := fun x y H Q => ∃ d ds, Dp K H x d ∧ Dp K H y (.tuple ds) ∧ SeqAt.shaped d = true ∧ SeqAt.shaped (.tuple ds) = true ∧ Q (.bl (!ds.any fun z => PyData.eqv z d)) H
theorem op_inT (hu : X.A.units + 65 < cLine) : OpR X (compareOp .In) (rInT X.K) := by
  intro pins s σ H x y v u Q I rx ry h
  obtain ⟨d, ds, hd, he, sd, se, q⟩ := h
  obtain ⟨as, r1⟩ := Dp.reads I d x v hd rx
  obtain ⟨bs, r2⟩ := Dp.reads I (.tuple ds) y u he ry
  exact SeqAt.in_tuple_reads r2 r1 (SeqAt.canLay_of_shaped se) (SeqAt.canLay_of_shaped sd) (room_in_shaped sd hu) ⟨.bl _, H, I, rfl, q⟩
theorem op_notInT (hu : X.A.units + 65 < cLine) : OpR X (compareOp .NotIn) (rNotInT X.K) := by
  intro pins s σ H x y v u Q I rx ry h
  obtain ⟨d, ds, hd, he, sd, se, q⟩ := h
  obtain ⟨as, r1⟩ := Dp.reads I d x v hd rx
  obtain ⟨bs, r2⟩ := Dp.reads I (.tuple ds) y u he ry
  exact SeqAt.notIn_tuple_reads r2 r1 (SeqAt.canLay_of_shaped se) (SeqAt.canLay_of_shaped sd) (room_in_shaped sd hu) ⟨.bl _, H, I, rfl, q⟩
def rInK : R2 := fun y x H Q => ∃ a o, x = .ref a ∧ DGet H a y o ∧ Q (.bl o.isSome) H
def rNotInK : R2 := fun y x H Q => ∃ a o, x = .ref a ∧ DGet H a y o ∧ Q (.bl (!o.isSome)) H
theorem op_inK (hu : X.A.units + 1 < cLine) : OpR X (compareOp .In) rInK := by
  intro pins s σ H y x u v Q I ry rx h
  obtain ⟨a, o, rfl, g, q⟩ := h
  cases rx
  exact d_in hu I g ry fun s' I' => ⟨.bl o.isSome, H, I', rfl, q⟩
theorem op_notInK (hu : X.A.units + 1 < cLine) : OpR X (compareOp .NotIn) rNotInK := by
  intro pins s σ H y x u v Q I ry rx h
  obtain ⟨a, o, rfl, g, q⟩ := h
  cases rx
  exact d_notIn hu I g ry fun s' I' => ⟨.bl (!o.isSome), H, I', rfl, q⟩
def gInT : D → D → Option D
  | a, .tuple ds => if SeqAt.shaped a = true ∧ SeqAt.shaped (.tuple ds) = true then some (.bool (ds.any fun z => PyData.eqv z a)) else none
  | _, _ => none
def gInK : D → D → Option D
  | a, .dict ds => (keyOf a).map fun k => .bool (dlook ds k).isSome
  | _, _ => none
def gInS : D → D → Option D
  | .str i, .str j => some (.bool (!(Builtin.Str.occurrences j i 0 j.length 1).isEmpty))
  | _, _ => none
def gNot (g : D → D → Option D) : D → D → Option D := fun a b => match g a b with
  | some (.bool k) => some (.bool (!k))
  | _ => none
theorem opd_inT : OpD K (rInT K) gInT := by
  intro Z H x y a b d Q ra rb t e k
  unfold gInT at e
  split at e
  · split at e
    · rename_i h
      cases e
      exact ⟨_, _, ra.dp (SeqAt.canLay_of_shaped h.1), rb.dp (SeqAt.canLay_of_shaped h.2), h.1, h.2, k _ H Z .refl t (.bl _)⟩
    · cases e
  · cases e
theorem opd_notInT : OpD K (rNotInT K) (gNot gInT) := by
  intro Z H x y a b d Q ra rb t e k
  unfold gNot gInT at e
  split at e
  · rename_i q
    split at q
    · split at q
      · rename_i h
        cases q
        cases e
        exact ⟨_, _, ra.dp (SeqAt.canLay_of_shaped h.1), rb.dp (SeqAt.canLay_of_shaped h.2), h.1, h.2, k _ H Z .refl t (.bl _)⟩
      · cases q
    · cases q
  · cases e
theorem opd_inK : OpD K rInK gInK := by
  intro Z H x y a b d Q ra rb t e k
  unfold gInK at e
  split at e
  · obtain ⟨key, e1, e2⟩ := Option.map_eq_some_iff.mp e
    have e3 := keyOf_eq e1
    subst e3
    cases e2
    obtain ⟨p, kv, rfl, h1, r1⟩ := rb.dic
    have ek := ra.key
    subst ek
    refine ⟨p, valV kv key, rfl, DGet.rd h1, ?_⟩
    rcases r1.look key with ⟨q1, q2⟩ | ⟨v, d', q1, q2, r2⟩ <;> (rw [q1]; rw [q2] at k; exact k _ H Z .refl t (.bl _))
  · cases e
theorem opd_notInK : OpD K rNotInK (gNot gInK) := by
  intro Z H x y a b d Q ra rb t e k
  unfold gNot gInK at e
  split at e
  · rename_i q
    split at q
    · obtain ⟨key, e1, e2⟩ := Option.map_eq_some_iff.mp q
      have e3 := keyOf_eq e1
      subst e3
      cases e2
      cases e
      obtain ⟨p, kv, rfl, h1, r1⟩ := rb.dic
      have ek := ra.key
      subst ek
      refine ⟨p, valV kv key, rfl, DGet.rd h1, ?_⟩
      rcases r1.look key with ⟨q1, q2⟩ | ⟨v, d', q1, q2, r2⟩ <;> (rw [q1]; rw [q2] at k; exact k _ H Z .refl t (.bl _))
    · cases q
  · cases e
theorem opd_inS : OpD K (fun x y H Q => ∃ i j, x = .str i ∧ y = .str j ∧ Q (.bl (!(Builtin.Str.occurrences j i 0 j.length 1).isEmpty)) H) gInS := by
  intro Z H x y a b d Q ra rb t e k
  unfold gInS at e
  split at e
  · cases e; exact ⟨_, _, ra.str, rb.str, k _ H Z .refl t (.bl _)⟩
  · cases e
theorem opd_notInS : OpD K (fun x y H Q => ∃ i j, x = .str i ∧ y = .str j ∧ Q (.bl (!(!(Builtin.Str.occurrences j i 0 j.length 1).isEmpty))) H) (gNot gInS) := by
  intro Z H x y a b d Q ra rb t e k
  unfold gNot gInS at e
  split at e
  · rename_i q
    split at q
    · cases q; cases e; exact ⟨_, _, ra.str, rb.str, k _ H Z .refl t (.bl _)⟩
    · cases q
  · cases e
/-- all kinds -/
def dIn : D → D → Option D := orG gInL (orG gInT (orG gInK gInS))
def dNotIn : D → D → Option D := orG gNotInL (orG (gNot gInT) (orG (gNot gInK) (gNot gInS)))
def rInA (K : PySem.W.Frag) : R2 := fun x y H Q => rInD K x y H Q ∨ (rInT K x y H Q ∨ (rInK x y H Q ∨ ∃ i j, x = .str i ∧ y = .str j ∧ Q (.bl (!(Builtin.Str.occurrences j i 0 j.length 1).isEmpty)) H))
def rNotInA (K : PySem.W.Frag) : R2 := fun x y H Q => rNotInD K x y H Q ∨ (rNotInT K x y H Q ∨ (rNotInK x y H Q ∨ ∃ i j, x = .str i ∧ y = .str j ∧ Q (.bl (!(!(Builtin.Str.occurrences j i 0 j.length 1).isEmpty))) H))
theorem op_inA (hu : X.A.units + 65 < cLine) : OpR X (compareOp .In) (rInA X.K) := (op_inD hu).or ((op_inT hu).or ((op_inK (by omega)).or op_in_str))
theorem op_notInA (hu : X.A.units + 65 < cLine) : OpR X (compareOp .NotIn) (rNotInA X.K) := (op_notInD hu).or ((op_notInT hu).or ((op_notInK (by omega)).or op_notin_str))
theorem opd_in : OpD K (rInA K) dIn := opd_or opd_inL (opd_or opd_inT (opd_or opd_inK opd_inS))
theorem opd_notIn : OpD K (rNotInA K) dNotIn := opd_or opd_notInL (opd_or opd_notInT (opd_or opd_notInK opd_notInS))
end
end VS

set_option Elab.async false
set_option linter.all false
set_option maxRecDepth 100000
namespace VS
open PySem L2 PyProof.Rows

/-! ### == of scalars, or of data -/
def gEqS : D → D → Option D
  | .none, .none => some (.bool true)
  | .none, .int _ => some (.bool false) | .int _, .none => some (.bool false)
  | .none, .bool _ => some (.bool false) | .bool _, .none => some (.bool false)
  | .none, .str _ => some (.bool false) | .str _, .none => some (.bool false)
  | .int i, .int j => some (.bool (decide (i = j)))
  | .bool i, .bool j => some (.bool (decide (i = j)))
  | .str i, .str j => some (.bool (decide (i = j)))
  | .int _, .str _ => some (.bool false) | .str _, .int _ => some (.bool false)
  | .bool _, .str _ => some (.bool false) | .str _, .bool _ => some (.bool false)
  | _, _ => none
def rEqA (K : PySem.W.Frag) : R2 := fun x y H Q => rEq x y H Q ∨ rEqD K x y H Q
def rNeA (K : PySem.W.Frag) : R2 := fun x y H Q => rNe x y H Q ∨ rNeD K x y H Q
def dEq : D → D → Option D := orG gEqS gEq
def dNe : D → D → Option D := orG (gNot gEqS) gNe
section
variable {K : PySem.W.Frag}
theorem gEqS_ok {Z : Addr → Prop} {H : Hp} {x y : V} {a b d : D} (ra : RepB K Z H x a) (rb : RepB K Z H y b) (e : gEqS a b = some d) : scal x y = true ∧ d = .bool (decide (x = y)) := by
  unfold gEqS at e
  split at e <;> cases e <;> first
    | (rw [ra.non, rb.non]; exact ⟨rfl, by simp⟩)
    | (rw [ra.non, rb.int]; exact ⟨rfl, by simp⟩)
    | (rw [ra.int, rb.non]; exact ⟨rfl, by simp⟩)
    | (rw [ra.non, rb.bl]; exact ⟨rfl, by simp⟩)
    | (rw [ra.bl, rb.non]; exact ⟨rfl, by simp⟩)
    | (rw [ra.non, rb.str]; exact ⟨rfl, by simp⟩)
    | (rw [ra.str, rb.non]; exact ⟨rfl, by simp⟩)
    | (rw [ra.int, rb.int]; exact ⟨rfl, by simp⟩)
    | (rw [ra.bl, rb.bl]; exact ⟨rfl, by simp⟩)
    | (rw [ra.str, rb.str]; exact ⟨rfl, by simp⟩)
    | (rw [ra.int, rb.str]; exact ⟨rfl, by simp⟩)
    | (rw [ra.str, rb.int]; exact ⟨rfl, by simp⟩)
    | (rw [ra.bl, rb.str]; exact ⟨rfl, by simp⟩)
    | (rw [ra.str, rb.bl]; exact ⟨rfl, by simp⟩)
theorem opd_eqS : OpD K rEq gEqS := by
  intro Z H x y a b d Q ra rb t e k
  obtain ⟨h1, rfl⟩ := gEqS_ok ra rb e
  exact ⟨h1, k _ H Z .refl t (.bl _)⟩
theorem opd_neS : OpD K rNe (gNot gEqS) := by
  intro Z H x y a b d Q ra rb t e k
  unfold gNot at e
  split at e
  · rename_i q
    cases e
    obtain ⟨h1, h2⟩ := gEqS_ok ra rb q
    cases h2
    exact ⟨h1, k _ H Z .refl t (.bl _)⟩
  · cases e
theorem opd_eqA : OpD K (rEqA K) dEq := opd_or opd_eqS opd_eq
theorem opd_neA : OpD K (rNeA K) dNe := opd_or opd_neS opd_ne
theorem op_eqA {X : Cx} (hu : X.A.units + 64 < cLine) : OpR X (compareOp .Eq) (rEqA X.K) := op_eq.or (op_eqD hu)
theorem op_neA {X : Cx} (hu : X.A.units + 64 < cLine) : OpR X (compareOp .NotEq) (rNeA X.K) := op_ne.or (op_neD hu)
end

/-! ### isinstance by a built-in class -/
def dty : D → String
  | .none => "NoneType" | .bool _ => "bool" | .int _ => "int" | .str _ => "str" | .list _ => "list" | .tuple _ => "tuple" | .dict _ => "dict"
def tyIs (t T : String) : Bool := t == T || (t == "bool" && T == "int")
def kitAll (T : String) : Bool := (["NoneType", "bool", "int", "str", "list", "tuple", "dict"] : List String).all fun t => decide (kitB t T = some (tyIs t T))
theorem kitAll_of {T : String} (h : kitAll T = true) (d : D) : kitB (dty d) T = some (tyIs (dty d) T) := by
  unfold kitAll at h
  rw [List.all_eq_true] at h
  exact of_decide_eq_true (h (dty d) (by cases d <;> simp [dty]))
theorem ka_int : kitAll "int" = true := by decide +kernel
theorem ka_bool : kitAll "bool" = true := by decide +kernel
theorem ka_str : kitAll "str" = true := by decide +kernel
theorem ka_list : kitAll "list" = true := by decide +kernel
theorem ka_tuple : kitAll "tuple" = true := by decide +kernel
theorem ka_dict : kitAll "dict" = true := by decide +kernel
section
variable {K : PySem.W.Frag} {Z : Addr → Prop} {H : Hp}
theorem RepB.tyX {x : V} {d : D} (r : RepB K Z H x d) : TyX K H x (.type (dty d)) := by
  rcases r with r | ⟨a, rfl, c⟩
  · cases r with
    | non => exact .base .non
    | bl b => exact .base (.bl b)
    | int i => exact .base (.int i)
    | str s => exact .base (.str s)
    | tup h r =>
      rcases h with (h | ⟨o, h⟩) | ⟨o, its, n, h1, h2, _⟩
      · exact .base (.tup h)
      · exact .fTuple h
      · exact .kTuple h1 h2
    | lst z h r => exact .base (.lst h)
    | dic z h r => exact .fDict h
  · cases d with
    | list ds => obtain ⟨vs, h, _⟩ := c; exact .base (.lst h)
    | dict ds => obtain ⟨vs, h, _⟩ := c; exact .base (.dK h)
    | _ => exact c.elim
end
def misi (T : String) (f : M Op) : M D := mbind f fun o => mbind (mder o) fun d => mret (.bool (tyIs (dty d) T))
section
variable {X : Cx} {W : WX} {e c : Expr} {f : M Op} {pos p p2 : Pos} {T : String} {x : Str}
theorem ve_isi (hk : kitAll T = true) (gl : Gl X "isinstance") (hm : X.mg "isinstance" = none) (gx : Gl X x) (hmx : X.mg x = none) (hv : bootBuiltins x = some (.type T)) (he : BE X W e f)
    (hn : x ≠ "__name__" := by decide) (hdb : (x == ("__debug__" : Str)) = false := by decide)
    (hs : starEach [e, .Name x p2] X.env = (false, eval e X.env) :: starEach [.Name x p2] X.env := by rfl) (hpl : (backTo pos (starEach [.Name x p2] X.env)).any (·.1) = false := by rfl) :
    VE X W (.Call (.Name "isinstance" p) [e, .Name x p2] [] pos) (misi T f) := by
  have hT : PE X (.Name x p2) (tC (.ty T)) := pe_bltn gx hmx hv rfl hn hdb
  refine ⟨PE.imp (pe_callB call_isi gl hm (by decide +kernel) (pa_cons he.pe (pa_cons hT pa_nil) hs) (by decide) (by decide) hs hpl) fun σ H Q ⟨B, Z, ρ, G, q⟩ => ?_, he.tp.bind fun _ => (TP.der _).bind fun _ => .ret _⟩
  refine Post.bind he.tp G q fun v H1 Z1 ρ1 o s1 G1 t1 r1 p1 => ?_
  obtain ⟨d, r2, p2⟩ := p1.der G1 r1
  exact ⟨v, .ty T, .type (dty d), .type T, tyIs (dty d) T, rfl, .ty T, r2.tyX, kit_ty (kitAll_of hk d), p2.at G1 (.bl _)⟩
end

/-! ### len, tuple(..), list(..), abs, int, all, any, sum -/
section
variable {K : PySem.W.Frag}
def gLen : List D → Option D
  | [.list xs] => some (.int xs.length)
  | [.tuple xs] => some (.int xs.length)
  | [.dict xs] => some (.int xs.length)
  | [.str s] => if s.length ≤ lineN then some (.int s.length) else none
  | _ => none
def rLenA (K : PySem.W.Frag) : List V → Hp → VK → Prop := fun xs H Q => (∃ x n, xs = [x] ∧ LenV K x H n ∧ Q (.int n) H) ∨ ∃ a kvs, xs = [.ref a] ∧ Rd H a (.dK kvs) ∧ Q (.int (kvs.length : Nat)) H
theorem call_lenA {X : Cx} : CallR X (.builtin "len") (rLenA X.K) := by
  intro pins s σ H xs us Q I r h
  rcases h with h | ⟨a, kvs, rfl, h1, q⟩
  · exact call_len pins s σ H xs us Q I r h
  · obtain ⟨u, rfl, r1⟩ := vals1 r
    cases r1
    exact d_len I h1 fun t s' I' => ⟨.int (kvs.length : Nat), H, I', ⟨t, rfl⟩, q⟩
theorem bs1 {Z : Addr → Prop} {H : Hp} {vs : List V} {d : D} (r : RepBs K Z H vs [d]) : ∃ v, vs = [v] ∧ RepB K Z H v d := by
  cases r with
  | cons h t => cases t; exact ⟨_, rfl, h⟩
theorem bs2 {Z : Addr → Prop} {H : Hp} {vs : List V} {d e : D} (r : RepBs K Z H vs [d, e]) : ∃ v w, vs = [v, w] ∧ RepB K Z H v d ∧ RepB K Z H w e := by
  cases r with
  | cons h t =>
    cases t with
    | cons h2 t => cases t; exact ⟨_, _, rfl, h, h2⟩
theorem ca_len : CaD K (rLenA K) gLen := by
  intro Z H vs ds d Q r t e k
  unfold gLen at e
  split at e
  · cases e
    obtain ⟨v, rfl, r1⟩ := bs1 r
    obtain ⟨a, us, rfl, h1, r2⟩ := r1.lst
    exact .inl ⟨_, _, rfl, .inl ⟨us, .inl (.inl h1), rfl⟩, by rw [r2.length]; exact k _ H Z .refl t (.int _)⟩
  · cases e
    obtain ⟨v, rfl, r1⟩ := bs1 r
    obtain ⟨a, us, rfl, h1, r2⟩ := r1.tup
    exact .inl ⟨_, _, rfl, .inr ⟨us, h1, rfl⟩, by rw [r2.length]; exact k _ H Z .refl t (.int _)⟩
  · cases e
    obtain ⟨v, rfl, r1⟩ := bs1 r
    obtain ⟨a, us, rfl, h1, r2⟩ := r1.dic
    exact .inr ⟨_, us, rfl, h1, by rw [r2.length]; exact k _ H Z .refl t (.int _)⟩
  · split at e
    · rename_i h
      cases e
      obtain ⟨v, rfl, r1⟩ := bs1 r
      have e1 := r1.str
      subst e1
      exact .inl ⟨_, _, rfl, ⟨by rw [← lineN_eq]; exact h, rfl⟩, k _ H Z .refl t (.int _)⟩
    · cases e
  · cases e
/-- tuple(xs) -/
def gTup : List D → Option D
  | [.list xs] => some (.tuple xs)
  | [.tuple xs] => some (.tuple xs)
  | _ => none
theorem ca_tup : CaD K (fun xs H Q => ∃ p ys, xs = [.ref p] ∧ ((SqL K H p ys ∧ ∀ l, H l = none → Q (.ref l) (upd H l (.tup ys))) ∨ (SqT K H p ys ∧ Q (.ref p) H))) gTup := by
  intro Z H vs ds d Q r t e k
  unfold gTup at e
  split at e
  · cases e
    obtain ⟨v, rfl, r1⟩ := bs1 r
    obtain ⟨a, us, rfl, h1, r2⟩ := r1.lst
    refine ⟨a, us, rfl, .inl ⟨.inl (.inl h1), fun l hl => ?_⟩⟩
    have x : Ext Z H Z (upd H l (.tup us)) := Ext.upd hl Z (fun _ h => h) fun _ h => .inl h
    exact k _ _ _ x (Trk.ext t x) (.tup (SqT.of upd_same) (r2.ext x))
  · cases e
    obtain ⟨v, rfl, r1⟩ := bs1 r
    have w := r1.rep_tup
    obtain ⟨a, us, rfl, h1, r2⟩ := r1.tup
    exact ⟨a, us, rfl, .inr ⟨h1, k _ H Z .refl t w⟩⟩
  · cases e
/-- list(xs) of a list, a tuple -/
def gList : List D → Option D
  | [.list xs] => some (.list xs)
  | [.tuple xs] => some (.list xs)
  | _ => none
theorem ca_list : CaD K (fun xs H Q => ∃ p ys, xs = [.ref p] ∧ (SqL K H p ys ∨ SqT K H p ys) ∧ ∀ l, H l = none → Q (.ref l) (upd H l (.lst ys))) gList := by
  intro Z H vs ds d Q r t e k
  unfold gList at e
  split at e
  · cases e
    obtain ⟨v, rfl, r1⟩ := bs1 r
    obtain ⟨a, us, rfl, h1, r2⟩ := r1.lst
    refine ⟨a, us, rfl, .inl (.inl (.inl h1)), fun l hl => ?_⟩
    have x : Ext Z H (fun a => Z a ∨ a = l) (upd H l (.lst us)) := ext_new hl
    exact k _ _ _ x (trk_upd t) (.lst (.inr rfl) upd_same (r2.ext x))
  · cases e
    obtain ⟨v, rfl, r1⟩ := bs1 r
    obtain ⟨a, us, rfl, h1, r2⟩ := r1.tup
    refine ⟨a, us, rfl, .inr h1, fun l hl => ?_⟩
    have x : Ext Z H (fun a => Z a ∨ a = l) (upd H l (.lst us)) := ext_new hl
    exact k _ _ _ x (trk_upd t) (.lst (.inr rfl) upd_same (r2.ext x))
  · cases e
def gAbs : List D → Option D
  | [.int i] => some (.int (if i < 0 then -i else i))
  | _ => none
theorem ca_abs : CaD K (fun xs H Q => ∃ i, xs = [.int i] ∧ Q (.int (if i < 0 then -i else i)) H) gAbs := by
  intro Z H vs ds d Q r t e k
  unfold gAbs at e
  split at e
  · cases e
    obtain ⟨v, rfl, r1⟩ := bs1 r
    exact ⟨_, by rw [r1.int], k _ H Z .refl t (.int _)⟩
  · cases e
def gInt : List D → Option D
  | [.int i] => some (.int i)
  | [.bool b] => some (.int (if b then 1 else 0))
  | _ => none
theorem ca_int : CaD K (fun xs H Q => (∃ i, xs = [.int i] ∧ Q (.int i) H) ∨ ∃ k, xs = [.bl k] ∧ Q (.int (if k then 1 else 0)) H) gInt := by
  intro Z H vs ds d Q r t e k
  unfold gInt at e
  split at e
  · cases e
    obtain ⟨v, rfl, r1⟩ := bs1 r
    exact .inl ⟨_, by rw [r1.int], k _ H Z .refl t (.int _)⟩
  · cases e
    obtain ⟨v, rfl, r1⟩ := bs1 r
    exact .inr ⟨_, by rw [r1.bl], k _ H Z .refl t (.int _)⟩
  · cases e
/-- lists of truth values, of intsD -/
def boolsD : List D → Option (List Bool)
  | [] => some []
  | .bool b :: r => (boolsD r).map (b :: ·)
  | _ => none
def intsD : List D → Option (List Int)
  | [] => some []
  | .int b :: r => (intsD r).map (b :: ·)
  | _ => none
def strsD : List D → Option (List Str)
  | [] => some []
  | .str b :: r => (strsD r).map (b :: ·)
  | _ => none
theorem bools_rep {Z : Addr → Prop} {H : Hp} : ∀ {ds : List D} {bs : List Bool} {vs : List V}, boolsD ds = some bs → RepL K Z H vs ds → vs = bs.map V.bl
  | [], _, _, e, r => by cases e; cases r; rfl
  | d :: ds, bs, vs, e, r => by
    cases d with
    | bool b =>
      unfold boolsD at e
      obtain ⟨bs', e1, rfl⟩ := Option.map_eq_some_iff.mp e
      cases r with
      | cons r t => cases r; rw [bools_rep e1 t]; rfl
    | _ => cases e
theorem ints_rep {Z : Addr → Prop} {H : Hp} : ∀ {ds : List D} {bs : List Int} {vs : List V}, intsD ds = some bs → RepL K Z H vs ds → vs = bs.map V.int
  | [], _, _, e, r => by cases e; cases r; rfl
  | d :: ds, bs, vs, e, r => by
    cases d with
    | int b =>
      unfold intsD at e
      obtain ⟨bs', e1, rfl⟩ := Option.map_eq_some_iff.mp e
      cases r with
      | cons r t => cases r; rw [ints_rep e1 t]; rfl
    | _ => cases e
theorem strs_rep {Z : Addr → Prop} {H : Hp} : ∀ {ds : List D} {bs : List Str} {vs : List V}, strsD ds = some bs → RepL K Z H vs ds → vs = bs.map V.str
  | [], _, _, e, r => by cases e; cases r; rfl
  | d :: ds, bs, vs, e, r => by
    cases d with
    | str b =>
      unfold strsD at e
      obtain ⟨bs', e1, rfl⟩ := Option.map_eq_some_iff.mp e
      cases r with
      | cons r t => cases r; rw [strs_rep e1 t]; rfl
    | _ => cases e
def gAll : List D → Option D
  | [.list xs] => (boolsD xs).map fun bs => .bool (bs.all id)
  | _ => none
def gAny : List D → Option D
  | [.list xs] => (boolsD xs).map fun bs => .bool (bs.any id)
  | _ => none
def gSum : List D → Option D
  | [.list xs] => (intsD xs).map fun bs => .int bs.sum
  | _ => none
theorem ca_all : CaD K (rAll K) gAll := by
  intro Z H vs ds d Q r t e k
  unfold gAll at e
  split at e
  · obtain ⟨bs, e1, rfl⟩ := Option.map_eq_some_iff.mp e
    obtain ⟨v, rfl, r1⟩ := bs1 r
    obtain ⟨a, us, rfl, h1, r2⟩ := r1.lst
    have e2 := bools_rep e1 r2
    subst e2
    exact ⟨a, bs, rfl, .inl (.inl h1), k _ H Z .refl t (.bl _)⟩
  · cases e
theorem ca_any : CaD K (rAny K) gAny := by
  intro Z H vs ds d Q r t e k
  unfold gAny at e
  split at e
  · obtain ⟨bs, e1, rfl⟩ := Option.map_eq_some_iff.mp e
    obtain ⟨v, rfl, r1⟩ := bs1 r
    obtain ⟨a, us, rfl, h1, r2⟩ := r1.lst
    have e2 := bools_rep e1 r2
    subst e2
    exact ⟨a, bs, rfl, .inl (.inl h1), k _ H Z .refl t (.bl _)⟩
  · cases e
theorem ca_sum : CaD K (rSum K) gSum := by
  intro Z H vs ds d Q r t e k
  unfold gSum at e
  split at e
  · obtain ⟨bs, e1, rfl⟩ := Option.map_eq_some_iff.mp e
    obtain ⟨v, rfl, r1⟩ := bs1 r
    obtain ⟨a, us, rfl, h1, r2⟩ := r1.lst
    have e2 := ints_rep e1 r2
    subst e2
    exact ⟨a, bs, rfl, .inl (.inl h1), k _ H Z .refl t (.int _)⟩
  · cases e
end
end VS

set_option Elab.async false
set_option linter.all false
set_option maxRecDepth 100000
namespace VS
open PySem L2

/-! ### statements' outcomes -/
inductive Rt where
  | val (d : D) | own (d : D)
inductive SR where
  | next (ρ : Rho) | brk (ρ : Rho) | cont (ρ : Rho) | ret (r : Rt) (ρ : Rho) | exc (c : Str) (fs : List (Str × D)) (ρ : Rho) | no
abbrev SM := Rho → SR

def LocAt (σ : St) (ρ : Rho) (i : Nat) (a : Addr) : Prop := (∃ d, ρ[i]? = some (.own d) ∨ ρ[i]? = some (.frz d)) ∧ σ[i]? = some (some (.ref a))
def Loc (σ : St) (ρ : Rho) (a : Addr) : Prop := ∃ i, LocAt σ ρ i a
structure SStep (P : List Nat) (Z : Addr → Prop) (H : Hp) (σ : St) (ρ : Rho) (Z' : Addr → Prop) (H' : Hp) (σ' : St) (ρ' : Rho) : Prop where
  keep : ∀ a o, H a = some o → ¬ Loc σ ρ a → H' a = some o
  new : ∀ a, Z' a → Z a ∨ H a = none ∨ Loc σ ρ a
  loc : ∀ a, Loc σ' ρ' a → Loc σ ρ a ∨ H a = none
  there : ∀ a o, H a = some o → ∃ o', H' a = some o'
  pin : ∀ i ∈ P, σ'[i]? = σ[i]?
section
variable {P : List Nat} {Z Z1 Z2 : Addr → Prop} {H H1 H2 : Hp} {σ σ1 σ2 : St} {ρ ρ1 ρ2 : Rho}
theorem owns_loc {a : Addr} (h : Owns σ ρ a) : Loc σ ρ a := let ⟨i, ⟨d, e⟩, q⟩ := h; ⟨i, ⟨d, .inl e⟩, q⟩
theorem tag_frz {r : Sl} (h : r.tag = 3) : ∃ d, r = .frz d := by
  cases r <;> first | exact ⟨_, rfl⟩ | cases h
theorem loc_tags (t : tags ρ1 = tags ρ) {a : Addr} (h : Loc σ ρ1 a) : Loc σ ρ a := by
  obtain ⟨i, ⟨d, e⟩, q⟩ := h
  have z := congrArg (fun l => l[i]?) t
  simp only [tags, List.getElem?_map] at z
  rcases e with e | e
  · rw [e, Option.map_some] at z
    cases k : ρ[i]? with
    | none => rw [k] at z; cases z
    | some r =>
      rw [k] at z
      obtain ⟨d', rfl⟩ := tag_own (r := r) (Option.some.inj z).symm
      exact ⟨i, ⟨d', .inl k⟩, q⟩
  · rw [e, Option.map_some] at z
    cases k : ρ[i]? with
    | none => rw [k] at z; cases z
    | some r =>
      rw [k] at z
      obtain ⟨d', rfl⟩ := tag_frz (r := r) (Option.some.inj z).symm
      exact ⟨i, ⟨d', .inr k⟩, q⟩
theorem SStep.refl : SStep P Z H σ ρ Z H σ ρ := ⟨fun _ _ h _ => h, fun _ h => .inl h, fun _ h => .inl h, fun _ o h => ⟨o, h⟩, fun _ _ => rfl⟩
theorem SStep.free (s : SStep P Z H σ ρ Z1 H1 σ1 ρ1) {c : Addr} (e : H1 c = none) : H c = none := by
  cases q : H c with
  | none => rfl
  | some o =>
    obtain ⟨o', k⟩ := s.there c o q
    rw [e] at k; cases k
theorem SStep.trans (s : SStep P Z H σ ρ Z1 H1 σ1 ρ1) (t : SStep P Z1 H1 σ1 ρ1 Z2 H2 σ2 ρ2) : SStep P Z H σ ρ Z2 H2 σ2 ρ2 where
  keep := fun a o e n => t.keep a o (s.keep a o e n) fun q => by
    rcases s.loc a q with k | k
    · exact n k
    · rw [k] at e; cases e
  new := fun a z => by
    rcases t.new a z with k | k | k
    · exact s.new a k
    · exact .inr (.inl (s.free k))
    · exact (s.loc a k).elim (fun h => .inr (.inr h)) fun h => .inr (.inl h)
  loc := fun a z => by
    rcases t.loc a z with k | k
    · exact s.loc a k
    · exact .inr (s.free k)
  there := fun a o e => by
    obtain ⟨o', q⟩ := s.there a o e
    exact t.there a o' q
  pin := fun i hi => (t.pin i hi).trans (s.pin i hi)
theorem Step.s (s : Step (Owns σ ρ) Z H Z1 H1) (t : tags ρ1 = tags ρ) : SStep P Z H σ ρ Z1 H1 σ ρ1 :=
  ⟨fun a o e n => s.keep a o e fun q => n (owns_loc q), fun a z => (s.new a z).imp_right .inl, fun a h => .inl (loc_tags t h), s.there, fun _ _ => rfl⟩
end

/-- what is handed back -/
def RRep (K : PySem.W.Frag) (H : Hp) (σ : St) (ρ : Rho) (Z' : Addr → Prop) (H' : Hp) (σ' : St) (ρ' : Rho) (v : V) : Rt → Prop
  | .val d => Rep K Z' H' v d
  | .own d => ∃ a, v = .ref a ∧ ¬ Z' a ∧ Cell K Z' H' a d ∧ ¬ Owns σ' ρ' a ∧ (Loc σ ρ a ∨ H a = none)
def SPost (X : Cx) (W : WX) (P : List Nat) (B Z : Addr → Prop) (H : Hp) (σ : St) (ρ : Rho) (r : SR) (E : Ends) : Prop := match r with
  | .next ρ' => ∀ σ' H' Z', SStep P Z H σ ρ Z' H' σ' ρ' → Good X.K B Z' H' σ' ρ' → E.nx σ' H'
  | .brk ρ' => ∀ σ' H' Z', SStep P Z H σ ρ Z' H' σ' ρ' → Good X.K B Z' H' σ' ρ' → E.bk σ' H'
  | .cont ρ' => ∀ σ' H' Z', SStep P Z H σ ρ Z' H' σ' ρ' → Good X.K B Z' H' σ' ρ' → E.ct σ' H'
  | .ret r ρ' => ∀ v σ' H' Z', SStep P Z H σ ρ Z' H' σ' ρ' → Good X.K B Z' H' σ' ρ' → RRep X.K H σ ρ Z' H' σ' ρ' v r → E.rt v H'
  | .exc c fs ρ' => ∀ σ' H' Z' C dx, SStep P Z H σ ρ Z' H' σ' ρ' → Good X.K B Z' H' σ' ρ' → X.mg c = some (.ref C) → XRep X.K Z' H' dx fs → W (.ref C) dx σ' H'
  | .no => False
def LS (X : Cx) (W : WX) (P : List Nat) (t : SM) : TS := fun E σ H => ∃ B Z ρ, Good X.K B Z H σ ρ ∧ SPost X W P B Z H σ ρ (t ρ) E
structure DS (X : Cx) (W : WX) (P : List Nat) (st : Stmt) (t : SM) : Prop where
  ps : PS X st (LS X W P t)
structure DSs (X : Cx) (W : WX) (P : List Nat) (st : List Stmt) (t : SM) : Prop where
  ps : PSs X st (LS X W P t)
def sseq (t u : SM) : SM := fun ρ => match t ρ with
  | .next ρ' => u ρ'
  | r => r
def sbind {α : Type} (f : M α) (k : α → SM) : SM := fun ρ => match f ρ with
  | .ok a ρ1 => k a ρ1
  | .exc c fs ρ1 => .exc c fs ρ1
  | .no => .no
def snext : SM := fun ρ => .next ρ
section
variable {X : Cx} {W : WX} {P : List Nat} {B B' Z Z1 : Addr → Prop} {H H1 : Hp} {σ σ1 : St} {ρ ρ1 : Rho} {E : Ends}
theorem SPost.after {r : SR} (s : SStep P Z H σ ρ Z1 H1 σ1 ρ1) (p : SPost X W P B Z H σ ρ r E) : SPost X W P B Z1 H1 σ1 ρ1 r E := by
  cases r with
  | next ρ' => exact fun σ' H' Z' t g => p σ' H' Z' (s.trans t) g
  | brk ρ' => exact fun σ' H' Z' t g => p σ' H' Z' (s.trans t) g
  | cont ρ' => exact fun σ' H' Z' t g => p σ' H' Z' (s.trans t) g
  | ret r ρ' =>
    refine fun v σ' H' Z' t g x => p v σ' H' Z' (s.trans t) g ?_
    cases r with
    | val d => exact x
    | own d =>
      obtain ⟨a, e, z, c, o, l⟩ := x
      refine ⟨a, e, z, c, o, ?_⟩
      rcases l with l | l
      · exact s.loc a l
      · exact .inr (s.free l)
  | exc c fs ρ' => exact fun σ' H' Z' C dx t g m x => p σ' H' Z' C dx (s.trans t) g m x
  | no => exact p
theorem Good.base (g : Good X.K B' Z H σ ρ) (h : ∀ a, B a → B' a) : Good X.K B Z H σ ρ := by
  refine ⟨g.len, fun a b => g.bz a (h a b), g.zt, fun i x r e1 e2 => ?_, g.ap⟩
  have q := g.sl i x r e1 e2
  cases r with
  | frz d => obtain ⟨a, e, z, b, c⟩ := q; exact ⟨a, e, z, fun k => b (h a k), c⟩
  | emp => exact q
  | val d => exact q
  | own d => exact q
  | exc c f => exact q
  | scr ns => exact q
theorem SPost.base {r : SR} (h : ∀ a, B a → B' a) (p : SPost X W P B Z H σ ρ r E) : SPost X W P B' Z H σ ρ r E := by
  cases r with
  | next ρ' => exact fun σ' H' Z' t g => p σ' H' Z' t (g.base h)
  | brk ρ' => exact fun σ' H' Z' t g => p σ' H' Z' t (g.base h)
  | cont ρ' => exact fun σ' H' Z' t g => p σ' H' Z' t (g.base h)
  | ret r ρ' => exact fun v σ' H' Z' t g x => p v σ' H' Z' t (g.base h) x
  | exc c fs ρ' => exact fun σ' H' Z' C dx t g m x => p σ' H' Z' C dx t (g.base h) m x
  | no => exact p
/-- an expression ahead of the rest -/
theorem SPost.bind {α β : Type} {R : Rl β α} {f : M α} {k : α → SM} {Q : β → Hp → Prop} (tp : TP f) (G : Good X.K B Z H σ ρ) (p : SPost X W P B Z H σ ρ (sbind f k ρ) E)
    (c : ∀ b H1 Z1 ρ1 a, Step (Owns σ ρ) Z H Z1 H1 → Good X.K B Z1 H1 σ ρ1 → tags ρ1 = tags ρ → R.r σ ρ1 H Z1 H1 b a → SPost X W P B Z H σ ρ (k a ρ1) E → Q b H1) : Lf X W R f σ H Q := by
  refine ⟨B, Z, ρ, G, ?_⟩
  unfold sbind at p
  cases e : f ρ with
  | ok a ρ1 =>
    rw [e] at p
    exact fun b H1 Z1 s1 G1 r1 => c b H1 Z1 ρ1 a s1 G1 (tp.ok _ _ _ e) r1 p
  | exc c fs ρ1 =>
    rw [e] at p
    exact fun H' Z' C dx s g m x => p σ H' Z' C dx (s.s (tp.ex _ _ _ _ e)) g m x
  | no => rw [e] at p; exact p
theorem dss_nil : DSs X W P [] snext := ⟨PSs.imp pss_nil fun E σ H ⟨B, Z, ρ, G, p⟩ => p σ H Z .refl G⟩
theorem seq_imp {t u : SM} (h : LS X W P (sseq t u) E σ H) : LS X W P t { E with nx := LS X W P u E } σ H := by
  obtain ⟨B, Z, ρ, G, p⟩ := h
  refine ⟨B, Z, ρ, G, ?_⟩
  unfold sseq at p
  cases e : t ρ with
  | next ρ1 => rw [e] at p; exact fun σ' H' Z' s g => ⟨B, Z', ρ1, g, p.after s⟩
  | brk ρ1 => rw [e] at p; exact p
  | cont ρ1 => rw [e] at p; exact p
  | ret r ρ1 => rw [e] at p; exact p
  | exc c fs ρ1 => rw [e] at p; exact p
  | no => rw [e] at p; exact p
theorem dss_cons {st : Stmt} {rest : List Stmt} {t u : SM} (h1 : DS X W P st t) (h2 : DSs X W P rest u) : DSs X W P (st :: rest) (sseq t u) := ⟨PSs.imp (pss_cons h1.ps h2.ps) fun E σ H h => seq_imp h⟩
theorem dss_one {st : Stmt} {t : SM} (h1 : DS X W P st t) : DSs X W P [st] t := ⟨pss_one h1.ps⟩
end

/-! ### small statements -/
section
variable {X : Cx} {W : WX} {P : List Nat} {B Z : Addr → Prop} {H : Hp} {σ : St} {ρ : Rho} {E : Ends} {e : Expr} {f : M D} {pos : Pos} {v : V} {d : D} {i : Nat}
theorem ds_pass : DS X W P (.Pass pos) snext := ⟨PS.imp ps_pass fun E σ H ⟨B, Z, ρ, G, p⟩ => p σ H Z .refl G⟩
theorem ds_break : DS X W P (.Break pos) (fun ρ => .brk ρ) := ⟨PS.imp ps_break fun E σ H ⟨B, Z, ρ, G, p⟩ => p σ H Z .refl G⟩
theorem ds_cont : DS X W P (.Continue pos) (fun ρ => .cont ρ) := ⟨PS.imp ps_continue fun E σ H ⟨B, Z, ρ, G, p⟩ => p σ H Z .refl G⟩
theorem ds_expr (he : VE X W e f) (hs : swapsWith e none pos.line X.env = pure false := by rfl) : DS X W P (.Expr e pos) (sbind f fun _ => snext) :=
  ⟨PS.imp (ps_expr he.pe hs) fun E σ H ⟨B, Z, ρ, G, p⟩ => SPost.bind (R := RV X) he.tp G p fun b H1 Z1 ρ1 a s1 G1 t1 r1 p1 => p1 σ H1 Z1 (s1.s t1) G1⟩
theorem ds_ret (he : VE X W e f) : DS X W P (.Return (some e) pos) (sbind f fun d ρ => .ret (.val d) ρ) :=
  ⟨PS.imp (ps_ret he.pe) fun E σ H ⟨B, Z, ρ, G, p⟩ => SPost.bind (R := RV X) he.tp G p fun b H1 Z1 ρ1 a s1 G1 t1 r1 p1 => p1 b σ H1 Z1 (s1.s t1) G1 r1⟩
theorem ds_retN : DS X W P (.Return none pos) (fun ρ => .ret (.val .none) ρ) :=
  ⟨PS.imp ps_retN fun E σ H ⟨B, Z, ρ, G, p⟩ => p .non σ H Z .refl G .non⟩
theorem ds_retF (he : FE X W e f) : DS X W P (.Return (some e) pos) (sbind f fun d ρ => .ret (.own d) ρ) :=
  ⟨PS.imp (ps_ret he.pe) fun E σ H ⟨B, Z, ρ, G, p⟩ => SPost.bind (R := RF X) he.tp G p fun b H1 Z1 ρ1 a s1 G1 t1 r1 p1 => by
    obtain ⟨q, e1, z, c, o, n⟩ := r1
    exact p1 b σ H1 Z1 (s1.s t1) G1 ⟨q, e1, z, c, o, .inr n⟩⟩

/-! ### names stored -/
theorem get_set {α : Type} {l : List α} {i j : Nat} {x y : α} (h : (l.set i x)[j]? = some y) : (j = i ∧ y = x ∧ i < l.length) ∨ (j ≠ i ∧ l[j]? = some y) := by
  by_cases e : j = i
  · subst e
    by_cases hl : j < l.length
    · rw [List.getElem?_set_self hl] at h; exact .inl ⟨rfl, (Option.some.inj h).symm, hl⟩
    · rw [List.getElem?_eq_none (by simpa using hl)] at h; cases h
  · rw [List.getElem?_set_ne (Ne.symm e)] at h; exact .inr ⟨e, h⟩
theorem loc_set {r : Sl} {x : Option V} {a : Addr} (h : Loc (σ.set i x) (ρ.set i r) a) : Loc σ ρ a ∨ ((∃ d, r = .own d ∨ r = .frz d) ∧ x = some (.ref a)) := by
  obtain ⟨j, ⟨d, e⟩, q⟩ := h
  rcases get_set q with ⟨rfl, q1, _⟩ | ⟨n, q1⟩
  · refine .inr ⟨⟨d, ?_⟩, q1.symm⟩
    rcases e with e | e
    · rcases get_set e with ⟨_, e1, _⟩ | ⟨n, _⟩
      · exact .inl e1.symm
      · exact absurd rfl n
    · rcases get_set e with ⟨_, e1, _⟩ | ⟨n, _⟩
      · exact .inr e1.symm
      · exact absurd rfl n
  · refine .inl ⟨j, ⟨d, ?_⟩, q1⟩
    rcases e with e | e
    · rcases get_set e with ⟨e1, _, _⟩ | ⟨_, e1⟩
      · exact absurd e1 n
      · exact .inl e1
    · rcases get_set e with ⟨e1, _, _⟩ | ⟨_, e1⟩
      · exact absurd e1 n
      · exact .inr e1
theorem ownAt_set {r : Sl} {x : Option V} {j : Nat} {a : Addr} (h : OwnAt (σ.set i x) (ρ.set i r) j a) : (j ≠ i ∧ OwnAt σ ρ j a) ∨ (j = i ∧ (∃ d, r = .own d) ∧ x = some (.ref a)) := by
  obtain ⟨⟨d, e⟩, q⟩ := h
  rcases get_set q with ⟨rfl, q1, _⟩ | ⟨n, q1⟩
  · rcases get_set e with ⟨_, e1, _⟩ | ⟨n, _⟩
    · exact .inr ⟨rfl, ⟨d, e1.symm⟩, q1.symm⟩
    · exact absurd rfl n
  · rcases get_set e with ⟨e1, _, _⟩ | ⟨_, e1⟩
    · exact absurd e1 n
    · exact .inl ⟨n, ⟨d, e1⟩, q1⟩
theorem Good.set {K : PySem.W.Frag} (g : Good K B Z H σ ρ) {r : Sl} {x : Option V} (h : SRep K B Z H x r) (o : ∀ a, (∃ d, r = .own d) → x = some (.ref a) → ¬ Owns σ ρ a) : Good K B Z H (σ.set i x) (ρ.set i r) := by
  refine ⟨by simpa using g.len, g.bz, g.zt, fun j y s e1 e2 => ?_, fun j k a o1 o2 => ?_⟩
  · rcases get_set e1 with ⟨rfl, q1, _⟩ | ⟨n, q1⟩
    · rcases get_set e2 with ⟨_, q2, _⟩ | ⟨n, _⟩
      · rw [q1, q2]; exact h
      · exact absurd rfl n
    · rcases get_set e2 with ⟨q2, _, _⟩ | ⟨_, q2⟩
      · exact absurd q2 n
      · exact g.sl j y s q1 q2
  · rcases ownAt_set o1 with ⟨n1, p1⟩ | ⟨e1, d1, x1⟩
    · rcases ownAt_set o2 with ⟨n2, p2⟩ | ⟨e2, d2, x2⟩
      · exact g.ap j k a p1 p2
      · exact absurd ⟨j, p1⟩ (o a d2 x2)
    · rcases ownAt_set o2 with ⟨n2, p2⟩ | ⟨e2, d2, x2⟩
      · exact absurd ⟨k, p2⟩ (o a d1 x1)
      · exact e1.trans e2.symm
theorem pin_set {x : Option V} (hi : i ∉ P) : ∀ j ∈ P, (σ.set i x)[j]? = σ[j]? := fun j hj => by
  rw [List.getElem?_set_ne]
  rintro rfl
  exact hi hj
theorem SStep.set {r : Sl} {x : Option V} (hi : i ∉ P) (o : ∀ a, (∃ d, r = .own d ∨ r = .frz d) → x = some (.ref a) → Loc σ ρ a ∨ H a = none) : SStep P Z H σ ρ Z H (σ.set i x) (ρ.set i r) :=
  ⟨fun _ _ h _ => h, fun _ h => .inl h, fun a h => (loc_set h).elim .inl fun ⟨d, e⟩ => o a d e, fun _ o h => ⟨o, h⟩, pin_set hi⟩
theorem Good.setVal {K : PySem.W.Frag} (g : Good K B Z H σ ρ) (r : Rep K Z H v d) : Good K B Z H (σ.set i (some v)) (ρ.set i (.val d)) :=
  g.set ⟨v, rfl, r⟩ fun _ ⟨_, e⟩ _ => by cases e
theorem SStep.setVal (hi : i ∉ P) : SStep P Z H σ ρ Z H (σ.set i (some v)) (ρ.set i (.val d)) := .set hi fun _ ⟨_, e⟩ _ => by rcases e with e | e <;> cases e
/-- x = e -/
def sset (i : Nat) (f : M D) : SM := sbind f fun d ρ => .next (ρ.set i (.val d))
def ssetF (i : Nat) (f : M D) : SM := sbind f fun d ρ => .next (ρ.set i (.own d))
section
variable {x : Str} {pos' : Pos}
theorem ds_set (hN : X.N.Nodup) (hi : X.N[i]? = some x) (hx : L2.Loc X.env.scope x) (hP : i ∉ P) (he : VE X W e f) (hs : swapsWith e (some (.Name x pos')) pos.line X.env = pure false := by rfl)
    (hf : X.fn x = true ∨ X.env.scope.names.lookup x = some .local := by first | exact .inl rfl | exact .inr rfl | assumption) : DS X W P (.Assign [.Name x pos'] e pos) (sset i f) :=
  ⟨PS.imp (ps_set hN hi hx he.pe hs hf) fun E σ H ⟨B, Z, ρ, G, p⟩ => SPost.bind (R := RV X) he.tp G p fun b H1 Z1 ρ1 a s1 G1 t1 r1 p1 =>
    p1 _ H1 Z1 ((s1.s t1).trans (.setVal hP)) (G1.setVal r1)⟩
theorem ds_setF (hN : X.N.Nodup) (hi : X.N[i]? = some x) (hx : L2.Loc X.env.scope x) (hP : i ∉ P) (he : FE X W e f) (hs : swapsWith e (some (.Name x pos')) pos.line X.env = pure false := by rfl)
    (hf : X.fn x = true ∨ X.env.scope.names.lookup x = some .local := by first | exact .inl rfl | exact .inr rfl | assumption) : DS X W P (.Assign [.Name x pos'] e pos) (ssetF i f) :=
  ⟨PS.imp (ps_set hN hi hx he.pe hs hf) fun E σ H ⟨B, Z, ρ, G, p⟩ => SPost.bind (R := RF X) he.tp G p fun b H1 Z1 ρ1 a s1 G1 t1 r1 p1 => by
    obtain ⟨q, rfl, z, c, o, n⟩ := r1
    have g := G1.set (i := i) (r := .own a) (x := some (.ref q)) ⟨q, rfl, z, c⟩ fun b _ e => by cases e; exact o
    refine p1 _ H1 Z1 ⟨fun b u e n => s1.keep b u e fun k => n (owns_loc k), fun b z => (s1.new b z).imp_right .inl, fun b h => ?_, s1.there, pin_set hP⟩ g
    rcases loc_set h with h | ⟨_, h⟩
    · exact .inl (loc_tags t1 h)
    · cases h; exact .inr n⟩
end
/-- return x, x a name that holds a container alone -/
def sretv (i : Nat) : SM := fun ρ => match ρ[i]? with
  | some (.own d) => .ret (.own d) (ρ.set i .emp)
  | some (.val d) => .ret (.val d) ρ
  | some (.frz d) => .ret (.val d) ρ
  | _ => .no
theorem ds_retv {x : Str} {pos2 : Pos} (h : PE X (.Name x pos2) (tVar i)) (hP : i ∉ P) : DS X W P (.Return (some (.Name x pos2)) pos) (sretv i) :=
  ⟨PS.imp (ps_ret h) fun E σ H ⟨B, Z, ρ, G, p⟩ => by
    unfold sretv at p
    split at p
    · rename_i d q
      obtain ⟨a, e1, n, c, o⟩ := G.own q
      refine ⟨.ref a, e1, ?_⟩
      -- the slot is left as it is in the machine
      have go : ∀ b, OwnAt σ (ρ.set i .emp) b a → False := fun b ob => by
        obtain ⟨⟨d', e2⟩, q2⟩ := ob
        rcases get_set e2 with ⟨_, e3, _⟩ | ⟨n2, e3⟩
        · cases e3
        · exact n2 (G.ap b i a ⟨⟨d', e3⟩, q2⟩ ⟨⟨d, q⟩, e1⟩)
      have lo : ∀ b, Loc σ (ρ.set i .emp) b → Loc σ ρ b := fun b ⟨j, ⟨d', e2⟩, q2⟩ => by
        refine ⟨j, ⟨d', ?_⟩, q2⟩
        rcases e2 with e2 | e2
        · rcases get_set e2 with ⟨_, e3, _⟩ | ⟨n2, e3⟩
          · cases e3
          · exact .inl e3
        · rcases get_set e2 with ⟨_, e3, _⟩ | ⟨n2, e3⟩
          · cases e3
          · exact .inr e3
      refine p (.ref a) σ H Z ⟨fun _ _ h _ => h, fun _ h => .inl h, fun b h => .inl (lo b h), fun _ o h => ⟨o, h⟩, fun _ _ => rfl⟩ ⟨by simpa using G.len, G.bz, G.zt, fun j y s e2 e3 => ?_, fun j k b o1 o2 => ?_⟩ ⟨a, rfl, n, c, fun ⟨b, ob⟩ => go b ob, .inl (owns_loc o)⟩
      · rcases get_set e3 with ⟨_, e4, _⟩ | ⟨_, e4⟩
        · rw [e4]; trivial
        · exact G.sl j y s e2 e4
      · have ow : ∀ {j}, OwnAt σ (ρ.set i .emp) j b → OwnAt σ ρ j b := fun {j} ⟨⟨d', e2⟩, q2⟩ => by
          rcases get_set e2 with ⟨_, e3, _⟩ | ⟨_, e3⟩
          · cases e3
          · exact ⟨⟨d', e3⟩, q2⟩
        exact G.ap j k b (ow o1) (ow o2)
    · rename_i d q
      obtain ⟨v, e1, r⟩ := G.val q
      exact ⟨v, e1, p v σ H Z .refl G r⟩
    · rename_i d q
      obtain ⟨a, e1, z, b, c⟩ := G.frz q
      exact ⟨_, e1, p _ σ H Z .refl G (c.rep z)⟩
    · exact p.elim⟩

/-! ### if, while -/
def sif (c : M Bool) (t u : SM) : SM := sbind c fun b => if b = true then t else u
theorem ds_if {c : Expr} {t u : SM} {fc : M Bool} {a b : List Stmt} (hc : VT X W c fc) (ha : DSs X W P a t) (hb : DSs X W P b u) : DS X W P (.If c a b pos) (sif fc t u) :=
  ⟨PS.imp (ps_if hc.pt ha.ps hb.ps) fun E σ H ⟨B, Z, ρ, G, p⟩ => SPost.bind (R := RT) hc.tp G p fun b H1 Z1 ρ1 k s1 G1 t1 r1 p1 => by
    have e : b = k := r1
    subst e
    cases b with
    | true => exact ⟨B, Z1, ρ1, G1, SPost.after (s1.s t1) p1⟩
    | false => exact ⟨B, Z1, ρ1, G1, SPost.after (s1.s t1) p1⟩⟩
def swhile (c : M Bool) (t : SM) : Nat → SM
  | 0 => fun _ => .no
  | n + 1 => sbind c fun b => if b = true then (fun ρ => match t ρ with
      | .next ρ2 => swhile c t n ρ2
      | .cont ρ2 => swhile c t n ρ2
      | .brk ρ2 => .next ρ2
      | r => r) else snext
theorem ds_while {c : Expr} {t : SM} {fc : M Bool} {body : List Stmt} (N : Nat) (hp : PassesOwn (model X.prog X.w) X.A X.env X.xe) (hc : VT X W c fc) (hb : DSs X W P body t) : DS X W P (.While c body [] pos) (swhile fc t N) :=
  ⟨PS.imp (ps_while hp hc.pt hb.ps) fun E σ H h => by
    refine ⟨fun m σ H => LS X W P (swhile fc t m) E σ H, ⟨N, h⟩, fun m σ H h => ?_⟩
    obtain ⟨B, Z, ρ, G, p⟩ := h
    cases m with
    | zero => exact p.elim
    | succ n =>
      refine SPost.bind (R := RT) hc.tp G p fun b H1 Z1 ρ1 k s1 G1 t1 r1 p1 => ?_
      have e : b = k := r1
      subst e
      cases b with
      | false => rw [if_neg Bool.false_ne_true]; exact p1 σ H1 Z1 (s1.s t1) G1
      | true =>
        rw [if_pos rfl]
        refine ⟨fun σ' H' => LS X W P (swhile fc t n) E σ' H', fun σ' H' h => ⟨n, Nat.lt_succ_self n, h⟩, B, Z1, ρ1, G1, ?_⟩
        have p2 := SPost.after (s1.s t1) p1
        simp only [if_true] at p2
        cases q : t ρ1 with
        | next ρ2 => rw [q] at p2; exact fun σ' H' Z' s g => ⟨B, Z', ρ2, g, p2.after s⟩
        | cont ρ2 => rw [q] at p2; exact fun σ' H' Z' s g => ⟨B, Z', ρ2, g, p2.after s⟩
        | brk ρ2 => rw [q] at p2; exact p2
        | ret r ρ2 => rw [q] at p2; exact p2
        | exc c fs ρ2 => rw [q] at p2; exact p2
        | no => rw [q] at p2; exact p2⟩
end
end VS

set_option Elab.async false
set_option linter.all false
set_option maxRecDepth 100000
namespace VS
open PySem L2

/-! ### targets -/
abbrev Tg := D → Rho → Option Rho
def mName (i : Nat) : Tg := fun d ρ => some (ρ.set i (.val d))
def massign : List Tg → List D → Rho → Option Rho
  | [], [], ρ => some ρ
  | m :: ms, d :: ds, ρ => (m d ρ).bind (massign ms ds)
  | _, _, _ => none
def mTup (ms : List Tg) : Tg := fun d ρ => match d with
  | .tuple ds => massign ms ds ρ
  | _ => none
structure Sub (σ' : St) (ρ' : Rho) (σ : St) (ρ : Rho) : Prop where
  loc : ∀ a, Loc σ' ρ' a → Loc σ ρ a
  own : ∀ a, Owns σ' ρ' a → Owns σ ρ a
theorem Sub.refl {σ : St} {ρ : Rho} : Sub σ ρ σ ρ := ⟨fun _ h => h, fun _ h => h⟩
theorem Sub.trans {σ σ1 σ2 : St} {ρ ρ1 ρ2 : Rho} (a : Sub σ2 ρ2 σ1 ρ1) (b : Sub σ1 ρ1 σ ρ) : Sub σ2 ρ2 σ ρ := ⟨fun c h => b.loc c (a.loc c h), fun c h => b.own c (a.own c h)⟩
def Fr (ts : List Nat) (ρ' ρ : Rho) : Prop := ρ'.length = ρ.length ∧ ∀ j, j ∉ ts → ρ'[j]? = ρ[j]?
/-- the target's slots are those at ts -/
def LG (X : Cx) (ts : List Nat) (m : Tg) : TG := fun v σ H Q => ∃ B Z ρ d ρ', Good X.K B Z H σ ρ ∧ Rep X.K Z H v d ∧ m d ρ = some ρ' ∧
  ∀ σ', Good X.K B Z H σ' ρ' → Sub σ' ρ' σ ρ → σ'.length = σ.length → (∀ j, j ∉ ts → σ'[j]? = σ[j]? ∧ ρ'[j]? = ρ[j]?) → Q σ' H
def LGs (X : Cx) (ts : List Nat) (m : List D → Rho → Option Rho) : TGs := fun vs σ H Q => ∃ B Z ρ ds ρ', Good X.K B Z H σ ρ ∧ RepL X.K Z H vs ds ∧ m ds ρ = some ρ' ∧
  ∀ σ', Good X.K B Z H σ' ρ' → Sub σ' ρ' σ ρ → σ'.length = σ.length → (∀ j, j ∉ ts → σ'[j]? = σ[j]? ∧ ρ'[j]? = ρ[j]?) → Q σ' H
structure GE (X : Cx) (ts : List Nat) (tg : Expr) (m : Tg) : Prop where
  pg : PG X tg (LG X ts m)
  fr : ∀ d ρ ρ', m d ρ = some ρ' → Fr ts ρ' ρ
structure GEs (X : Cx) (ts : List Nat) (tgs : List Expr) (ms : List Tg) : Prop where
  pg : PGs X tgs (LGs X ts (massign ms))
  fr : ∀ ds ρ ρ', massign ms ds ρ = some ρ' → Fr ts ρ' ρ
theorem PG.imp {X : Cx} {e : Expr} {t t' : TG} (h : PG X e t) (i : ∀ v σ H Q, t' v σ H Q → t v σ H Q) : PG X e t' := ⟨fun pins s σ H v u Q I r q => h.run pins s σ H v u Q I r (i v σ H Q q)⟩
theorem PGs.imp {X : Cx} {e : List Expr} {t t' : TGs} (h : PGs X e t) (i : ∀ v σ H Q, t' v σ H Q → t v σ H Q) : PGs X e t' := ⟨fun pins s σ H v u Q I r q => h.run pins s σ H v u Q I r (i v σ H Q q)⟩
section
variable {X : Cx} {pos : Pos}
theorem ge_name {i : Nat} {x : Str} (hN : X.N.Nodup) (hi : X.N[i]? = some x) (hx : L2.Loc X.env.scope x) (hf : X.fn x = true ∨ X.env.scope.names.lookup x = some .local := by first | exact .inl rfl | exact .inr rfl | assumption) : GE X [i] (.Name x pos) (mName i) :=
  ⟨PG.imp (pg_name hN hi hx hf) fun v σ H Q ⟨B, Z, ρ, d, ρ', G, r, e, c⟩ => by
    cases e
    refine c _ (G.setVal r) ⟨fun a h => ?_, fun a ⟨j, h⟩ => ?_⟩ (by simp) fun j hj => ?_
    · rcases loc_set h with h | ⟨⟨d', e⟩, _⟩
      · exact h
      · rcases e with e | e <;> cases e
    · rcases ownAt_set h with ⟨_, h⟩ | ⟨_, ⟨d', e⟩, _⟩
      · exact ⟨j, h⟩
      · cases e
    · have n : i ≠ j := fun e => hj (by simp [e])
      exact ⟨List.getElem?_set_ne n, List.getElem?_set_ne n⟩, fun d ρ ρ' e => by
    cases e
    refine ⟨by simp, fun j hj => ?_⟩
    have n : i ≠ j := fun e => hj (by simp [e])
    exact List.getElem?_set_ne n⟩
theorem ges_nil : GEs X [] [] [] :=
  ⟨PGs.imp pgs_nil fun vs σ H Q ⟨B, Z, ρ, ds, ρ', G, r, e, c⟩ => by
    cases ds with
    | nil => cases e; cases r; exact ⟨rfl, c σ G .refl rfl fun _ _ => ⟨rfl, rfl⟩⟩
    | cons d ds => (cases e), fun ds ρ ρ' e => by
    cases ds with
    | nil => cases e; exact ⟨rfl, fun _ _ => rfl⟩
    | cons d ds => cases e⟩
theorem ges_cons {e : Expr} {es : List Expr} {m : Tg} {ms : List Tg} {ts us : List Nat} (h1 : GE X ts e m) (h2 : GEs X us es ms) (hs : (assignEach (e :: es) X.env).map (·.2) = assign e X.env :: (assignEach es X.env).map (·.2) := by rfl) : GEs X (ts ++ us) (e :: es) (m :: ms) :=
  ⟨PGs.imp (pgs_cons h1.pg h2.pg hs) fun vs σ H Q ⟨B, Z, ρ, ds, ρ', G, r, q, c⟩ => by
    cases ds with
    | nil => cases q
    | cons d ds =>
      obtain ⟨ρ1, q1, q2⟩ := Option.bind_eq_some_iff.mp q
      cases r with
      | cons r1 r2 =>
        refine ⟨_, _, rfl, B, Z, ρ, d, ρ1, G, r1, q1, fun σ1 G1 l1 n1 o1 => ⟨B, Z, ρ1, ds, ρ', G1, r2, q2, fun σ2 G2 l2 n2 o2 => c σ2 G2 (l2.trans l1) (n2.trans n1) fun j hj => ?_⟩⟩
        have j1 : j ∉ ts := fun z => hj (List.mem_append_left _ z)
        have j2 : j ∉ us := fun z => hj (List.mem_append_right _ z)
        exact ⟨(o2 j j2).1.trans (o1 j j1).1, (o2 j j2).2.trans (o1 j j1).2⟩, fun ds ρ ρ' q => by
    cases ds with
    | nil => cases q
    | cons d ds =>
      obtain ⟨ρ1, q1, q2⟩ := Option.bind_eq_some_iff.mp q
      have f1 := h1.fr _ _ _ q1
      have f2 := h2.fr _ _ _ q2
      exact ⟨f2.1.trans f1.1, fun j hj => (f2.2 j fun z => hj (List.mem_append_right _ z)).trans (f1.2 j fun z => hj (List.mem_append_left _ z))⟩⟩
theorem massign_length : ∀ (ms : List Tg) (ds : List D) (ρ ρ' : Rho), massign ms ds ρ = some ρ' → ms.length = ds.length
  | [], [], _, _, _ => rfl
  | m :: ms, d :: ds, ρ, ρ', e => by
    obtain ⟨ρ1, _, q2⟩ := Option.bind_eq_some_iff.mp e
    simp [massign_length ms ds ρ1 ρ' q2]
  | [], _ :: _, _, _, e => by cases e
  | _ :: _, [], _, _, e => by cases e
theorem ge_tup {es : List Expr} {k n : Nat} {ms : List Tg} {ts : List Nat} (hc : X.calm = true) (h : GEs X ts es ms) (hl : ms.length = n := by rfl) (hn : (assignEach es X.env).length = n := by rfl) (hst : (assignEach es X.env).findIdx? (·.1) = none := by rfl) : GE X ts (.Tuple es k pos) (mTup ms) :=
  ⟨PG.imp (pg_tup hc h.pg hn hst) fun v σ H Q ⟨B, Z, ρ, d, ρ', G, r, e, c⟩ => by
    cases d with
    | tuple ds =>
      cases r with
      | tup h1 r1 =>
        have el := massign_length ms ds ρ ρ' e
        exact ⟨_, _, rfl, h1, by rw [r1.length, ← el, hl], B, Z, ρ, ds, ρ', G, r1, e, c⟩
    | _ => (cases e), fun d ρ ρ' e => by
    cases d with
    | tuple ds => exact h.fr _ _ _ e
    | _ => cases e⟩
end

/-! ### what a loop walks -/
structure Later (Z1 : Addr → Prop) (H1 : Hp) (Z : Addr → Prop) (H : Hp) : Prop where
  mono : ∀ a, Z1 a → Z a
  keep : ∀ a o, Z1 a → H1 a = some o → H a = some o
  tup : ∀ a xs, Rd H1 a (.tup xs) → Rd H a (.tup xs)
section
variable {K : PySem.W.Frag} {Z1 Z Z' : Addr → Prop} {H1 H H' : Hp}
theorem Later.sqT (l : Later Z1 H1 Z H) {a : Addr} {xs : List V} (h : SqT K H1 a xs) : SqT K H a xs := by
  rcases h with h | h
  · exact .inl (l.tup _ _ h)
  · exact .inr h
mutual
theorem Rep.later (l : Later Z1 H1 Z H) : ∀ {v : V} {d : D}, Rep K Z1 H1 v d → Rep K Z H v d
  | _, _, .non => .non
  | _, _, .bl b => .bl b
  | _, _, .int i => .int i
  | _, _, .str x => .str x
  | _, _, .tup h r => .tup (l.sqT h) (RepL.later l r)
  | _, _, .lst z h r => .lst (l.mono _ z) (l.keep _ _ z h) (RepL.later l r)
  | _, _, .dic z h r => .dic (l.mono _ z) (l.keep _ _ z h) (RepD.later l r)
theorem RepL.later (l : Later Z1 H1 Z H) : ∀ {v : List V} {d : List D}, RepL K Z1 H1 v d → RepL K Z H v d
  | _, _, .nil => .nil
  | _, _, .cons r t => .cons (Rep.later l r) (RepL.later l t)
theorem RepD.later (l : Later Z1 H1 Z H) : ∀ {v : List (Key × V)} {d : List (D × D)}, RepD K Z1 H1 v d → RepD K Z H v d
  | _, _, .nil => .nil
  | _, _, .cons r t => .cons (Rep.later l r) (RepD.later l t)
end
theorem Later.refl : Later Z H Z H := ⟨fun _ h => h, fun _ _ _ h => h, fun _ _ h => h⟩
theorem Later.ext (l : Later Z1 H1 Z H) (s : Ext Z H Z' H') : Later Z1 H1 Z' H' :=
  ⟨fun a z => s.mono a (l.mono a z), fun a o z h => s.keep a o (l.keep a o z h) fun q => q, fun a xs h => s.rd (fun q => q) (l.tup a xs h)⟩
structure WalkD (K : PySem.W.Frag) (J : It) (ds : List D) (Z1 : Addr → Prop) (H1 : Hp) : Prop where
  go : ∀ i Z H, Later Z1 H1 Z H → i < ds.length → J.go i H
  yld : ∀ i Z H x H', Later Z1 H1 Z H → Trk Z H → i < ds.length → J.yld i H x H' → ∃ d Z', ds[i]? = some d ∧ Ext Z H Z' H' ∧ Trk Z' H' ∧ Rep K Z' H' x d
  stop : ∀ Z H, Later Z1 H1 Z H → J.stop ds.length H
end
abbrev RW (X : Cx) : Rl It (List D) := ⟨fun _ _ _ Z H J ds => WalkD X.K J ds Z H, fun _ h => h⟩
abbrev RWr (X : Cx) : Rl It (List D) := ⟨fun _ _ _ _ _ J ds => WalkD X.K J ds (fun _ => False) (fun _ => none), fun _ h => h⟩
structure IE (X : Cx) (W : WX) (tg iter : Expr) (f : M (List D)) : Prop where
  pi : PI X tg iter (Lf X W (RW X) f)
  tp : TP f
structure IR (X : Cx) (W : WX) (tg iter : Expr) (f : M (List D)) : Prop where
  pi : PI X tg iter (Lf X W (RWr X) f)
  tp : TP f
theorem PI.imp {X : Cx} {tg e : Expr} {t t' : TI} (h : PI X tg e t) (i : ∀ σ H Q, t' σ H Q → t σ H Q) : PI X tg e t' := ⟨fun pins s σ H Q I q => h.run pins s σ H Q I (i σ H Q q)⟩

/-- what was frozen for a time is so for good -/
def Sl.demote : Sl → Sl
  | .frz d => .val d
  | r => r
def demote (ρ : Rho) : Rho := ρ.map Sl.demote
def sloop (m : Tg) (t : SM) : List D → SM
  | [] => snext
  | d :: ds => fun ρ => match m d ρ with
    | none => .no
    | some ρ1 => match t ρ1 with
      | .next ρ2 => sloop m t ds ρ2
      | .cont ρ2 => sloop m t ds ρ2
      | .brk ρ2 => .next ρ2
      | r => r
def sfor (f : M (List D)) (m : Tg) (t : SM) : SM := sbind f fun ds ρ => sloop m t ds (demote ρ)
def sforR (f : M (List D)) (m : Tg) (t : SM) : SM := sbind f fun ds ρ => sloop m t ds ρ
section
variable {X : Cx} {W : WX} {P : List Nat} {B B' Z Z1 Z' : Addr → Prop} {H H1 H' : Hp} {σ σ1 σ' : St} {ρ ρ1 ρ' : Rho} {E : Ends}
theorem dem_get {i : Nat} {s : Sl} (h : (demote ρ)[i]? = some s) : ∃ r, ρ[i]? = some r ∧ s = r.demote := by
  unfold demote at h
  rw [List.getElem?_map] at h
  cases e : ρ[i]? with
  | none => rw [e] at h; cases h
  | some r => rw [e] at h; cases h; exact ⟨r, rfl, rfl⟩
theorem dem_own {r : Sl} {d : D} (h : Sl.own d = r.demote) : r = .own d := by
  cases r <;> cases h
  rfl
theorem dem_ownAt {i : Nat} {a : Addr} (h : OwnAt σ (demote ρ) i a) : OwnAt σ ρ i a := by
  obtain ⟨⟨d, e⟩, q⟩ := h
  obtain ⟨r, e1, e2⟩ := dem_get e
  rw [dem_own e2] at e1
  exact ⟨⟨d, e1⟩, q⟩
theorem dem_loc {a : Addr} (h : Loc σ (demote ρ) a) : Loc σ ρ a := by
  obtain ⟨i, ⟨d, e⟩, q⟩ := h
  rcases e with e | e
  · obtain ⟨r, e1, e2⟩ := dem_get e
    rw [dem_own e2] at e1
    exact ⟨i, ⟨d, .inl e1⟩, q⟩
  · obtain ⟨r, e1, e2⟩ := dem_get e
    cases r <;> cases e2
theorem Good.demote (g : Good X.K B Z H σ ρ) : Good X.K Z Z H σ (demote ρ) := by
  refine ⟨by unfold VS.demote; simpa using g.len, fun _ h => h, g.zt, fun i x s e1 e2 => ?_, fun i j a o1 o2 => g.ap i j a (dem_ownAt o1) (dem_ownAt o2)⟩
  obtain ⟨r, e3, rfl⟩ := dem_get e2
  have q := g.sl i x r e1 e3
  cases r with
  | frz d => obtain ⟨a, rfl, z, b, c⟩ := q; exact ⟨_, rfl, c.rep z⟩
  | emp => exact q
  | val d => exact q
  | own d => exact q
  | exc c f => exact q
  | scr ns => exact q
theorem Good.noLoc (g : Good X.K B Z H σ ρ) {a : Addr} (b : B a) : ¬ Loc σ ρ a := fun ⟨i, ⟨d, e⟩, q⟩ => by
  rcases e with e | e
  · obtain ⟨a', h1, n, _⟩ := g.sl i _ _ q e
    cases h1
    exact n (g.bz a b)
  · obtain ⟨a', h1, z, n, _⟩ := g.sl i _ _ q e
    cases h1
    exact n b
theorem Good.tupLoc (g : Good X.K B Z H σ ρ) {a : Addr} {xs : List V} (h : Rd H a (.tup xs)) : ¬ Loc σ ρ a := fun ⟨i, ⟨d, e⟩, q⟩ => by
  rcases e with e | e
  · obtain ⟨a', h1, n, c⟩ := g.sl i _ _ q e
    cases h1
    obtain ⟨o, h2, m⟩ := c.there
    rcases h with h | ⟨_, h⟩ <;> (rw [h] at h2; cases h2; exact m)
  · obtain ⟨a', h1, z, n, c⟩ := g.sl i _ _ q e
    cases h1
    cases d with
    | list ds => obtain ⟨vs, h2, _⟩ := c; rcases h with h | ⟨_, h⟩ <;> (rw [h] at h2; cases h2)
    | dict ds => obtain ⟨o, kv, h2, _⟩ := c; rcases h with h | ⟨_, h⟩ <;> (rw [h] at h2; cases h2)
    | _ => exact c.elim
theorem Later.s {R0 : Addr → Prop} {HR : Hp} (l : Later R0 HR Z H) (g : Good X.K B Z H σ ρ) (hB : ∀ a, R0 a → B a) (s : SStep P Z H σ ρ Z' H' σ' ρ') (g' : Good X.K B Z' H' σ' ρ') : Later R0 HR Z' H' :=
  ⟨fun a r => g'.bz a (hB a r), fun a o r h => s.keep a o (l.keep a o r h) (g.noLoc (hB a r)), fun a xs h => by
    have h1 := l.tup a xs h
    have n := g.tupLoc h1
    rcases h1 with h1 | ⟨o, h1⟩
    · exact .inl (s.keep _ _ h1 n)
    · exact .inr ⟨o, s.keep _ _ h1 n⟩⟩
theorem Ext.ss (x : Ext Z H Z' H') (l : ∀ a, Loc σ' ρ' a → Loc σ ρ a) (hp : ∀ i ∈ P, σ'[i]? = σ[i]?) : SStep P Z H σ ρ Z' H' σ' ρ' :=
  ⟨fun a o e _ => x.keep a o e fun q => q, fun a z => (x.new a z).imp_right .inl, fun a h => .inl (l a h), x.there, hp⟩
/-- THE LOOP -/
theorem loop_core {R0 : Addr → Prop} {HR : Hp} {J : It} {ds : List D} {m : Tg} {t : SM} {ts : List Nat} (hP : ∀ i ∈ ts, i ∉ P) (hB : ∀ a, R0 a → B a) (w : WalkD X.K J ds R0 HR) (G : Good X.K B Z H σ ρ) (l : Later R0 HR Z H)
    (p : SPost X W P B Z H σ ρ (sloop m t ds ρ) E) : ∃ W0 : Nat → Nat → St → Hp → Prop, (∃ n, W0 0 n σ H) ∧ ∀ i n σ H, W0 i n σ H →
      (J.stop i H ∧ E.nx σ H) ∨ (J.go i H ∧ ∃ N : St → Hp → Prop, (∀ σ' H', N σ' H' → ∃ n', n' < n ∧ W0 (i + 1) n' σ' H') ∧ ∀ x H', J.yld i H x H' → LG X ts m x σ H' fun σ2 H2 => LS X W P t { E with nx := N, ct := N, bk := E.nx } σ2 H2) := by
  refine ⟨fun i n σ H => n = ds.length - i ∧ i ≤ ds.length ∧ ∃ Z ρ, Good X.K B Z H σ ρ ∧ Later R0 HR Z H ∧ SPost X W P B Z H σ ρ (sloop m t (ds.drop i) ρ) E, ⟨ds.length, by simp, Nat.zero_le _, Z, ρ, G, l, by simpa using p⟩, ?_⟩
  rintro i n σ H ⟨rfl, hi, Z, ρ, G, l, p⟩
  by_cases hlt : i < ds.length
  · refine .inr ⟨w.go i Z H l hlt, fun σ' H' => ∃ Z' ρ', Good X.K B Z' H' σ' ρ' ∧ Later R0 HR Z' H' ∧ SPost X W P B Z' H' σ' ρ' (sloop m t (ds.drop (i + 1)) ρ') E,
      fun σ' H' ⟨Z', ρ', g, l', p'⟩ => ⟨ds.length - (i + 1), by omega, rfl, hlt, Z', ρ', g, l', p'⟩, fun x H' y => ?_⟩
    obtain ⟨d, Z2, e, x2, t2, r2⟩ := w.yld i Z H x H' l G.zt hlt y
    have ed : ds.drop i = d :: ds.drop (i + 1) := by
      have h1 : ds[i] = d := Option.some.inj (by rw [← e]; simp [hlt])
      rw [← h1]; exact List.drop_eq_getElem_cons hlt
    rw [ed] at p
    have G2 := G.ext x2 t2
    unfold sloop at p
    cases q : m d ρ with
    | none => rw [q] at p; exact p.elim
    | some ρ3 =>
      rw [q] at p
      refine ⟨B, Z2, ρ, d, ρ3, G2, r2, q, fun σ3 G3 l3 n3 o3 => ⟨B, Z2, ρ3, G3, ?_⟩⟩
      have s3 : SStep P Z H σ ρ Z2 H' σ3 ρ3 := x2.ss l3.loc fun j hj => (o3 j fun z => hP j z hj).1
      have l4 := l.ext x2
      dsimp only at p
      cases k : t ρ3 with
      | next ρ4 => rw [k] at p; exact fun σ4 H4 Z4 s4 g4 => ⟨Z4, ρ4, g4, l4.s G3 hB s4 g4, p.after (s3.trans s4)⟩
      | cont ρ4 => rw [k] at p; exact fun σ4 H4 Z4 s4 g4 => ⟨Z4, ρ4, g4, l4.s G3 hB s4 g4, p.after (s3.trans s4)⟩
      | brk ρ4 => rw [k] at p; exact p.after s3
      | ret r ρ4 => rw [k] at p; exact p.after s3
      | exc c fs ρ4 => rw [k] at p; exact p.after s3
      | no => rw [k] at p; exact p.elim
  · have e : i = ds.length := by omega
    subst e
    refine .inl ⟨w.stop Z H l, ?_⟩
    rw [List.drop_length] at p
    exact p σ H Z .refl G
theorem ds_for {tg iter : Expr} {body : List Stmt} {f : M (List D)} {m : Tg} {t : SM} {ts : List Nat} {pos : Pos} (hp : PassesOwn (model X.prog X.w) X.A X.env X.xe) (hc : X.calm = true) (hP : ∀ i ∈ ts, i ∉ P) (hi : IE X W tg iter f) (hg : GE X ts tg m) (hb : DSs X W P body t)
    (hs : ∀ x, foldedSetIterable iter X.env x = pure x := by intro _; rfl) : DS X W P (.For tg iter body [] pos) (sfor f m t) :=
  ⟨PS.imp (ps_for hp hc hi.pi hg.pg hb.ps hs) fun E σ H ⟨B, Z, ρ, G, p⟩ => SPost.bind (R := RW X) hi.tp G p fun J H1 Z1 ρ1 ds s1 G1 t1 w p1 => by
    have s2 : SStep P Z H σ ρ Z1 H1 σ (demote ρ1) := (s1.s t1).trans ⟨fun _ _ h _ => h, fun _ h => .inl h, fun _ h => .inl (dem_loc h), fun _ o h => ⟨o, h⟩, fun _ _ => rfl⟩
    exact loop_core hP (fun _ h => h) w G1.demote .refl ((p1.after s2).base G1.bz)⟩
theorem ds_forR {tg iter : Expr} {body : List Stmt} {f : M (List D)} {m : Tg} {t : SM} {ts : List Nat} {pos : Pos} (hp : PassesOwn (model X.prog X.w) X.A X.env X.xe) (hc : X.calm = true) (hP : ∀ i ∈ ts, i ∉ P) (hi : IR X W tg iter f) (hg : GE X ts tg m) (hb : DSs X W P body t)
    (hs : ∀ x, foldedSetIterable iter X.env x = pure x := by intro _; rfl) : DS X W P (.For tg iter body [] pos) (sforR f m t) :=
  ⟨PS.imp (ps_for hp hc hi.pi hg.pg hb.ps hs) fun E σ H ⟨B, Z, ρ, G, p⟩ => SPost.bind (R := RWr X) hi.tp G p fun J H1 Z1 ρ1 ds s1 G1 t1 w p1 =>
    loop_core hP (fun _ h => h.elim) w G1 ⟨fun _ h => h.elim, fun _ _ h => h.elim, fun _ _ h => by rcases h with h | ⟨_, h⟩ <;> cases h⟩ (p1.after (s1.s t1))⟩
end
end VS

set_option Elab.async false
set_option linter.all false
set_option maxRecDepth 100000
namespace VS
open PySem L2

/-! ### what is walked -/
def mitL (f : M D) : M (List D) := mbind f fun d => match d with
  | .list xs => mret xs
  | _ => mno
def mitT (f : M D) : M (List D) := mbind f fun d => match d with
  | .tuple xs => mret xs
  | _ => mno
def mitS (f : M D) : M (List D) := mbind f fun d => match d with
  | .str s => mret (s.cps.toList.map fun c => .str ⟨#[c]⟩)
  | _ => mno
def mitK (f : M D) : M (List D) := mbind f fun d => match d with
  | .dict xs => mret (xs.map (·.1))
  | _ => mno
def mitV (f : M D) : M (List D) := mbind f fun d => match d with
  | .dict xs => mret (xs.map (·.2))
  | _ => mno
def mitI (f : M D) : M (List D) := mbind f fun d => match d with
  | .dict xs => mret (xs.map fun p => .tuple [p.1, p.2])
  | _ => mno
def enumD : Nat → List D → List D
  | _, [] => []
  | n, d :: ds => .tuple [.int (n : Nat), d] :: enumD (n + 1) ds
def zipD : List D → List D → List D
  | d :: ds, e :: es => .tuple [d, e] :: zipD ds es
  | _, _ => []
def mitE (f : M (List Op)) : M (List D) := mbind f fun os => match os with
  | [.v (.list xs)] => mret (enumD 0 xs)
  | _ => mno
def mitZ (f : M (List Op)) : M (List D) := mbind f fun os => match os with
  | [.v (.list xs), .v (.list ys)] => mret (zipD xs ys)
  | [.v (.tuple xs), .v (.tuple ys)] => mret (zipD xs ys)
  | _ => mno
def rangeD (a b : Int) : List D := (List.range (b - a).toNat).map fun (i : Nat) => .int (a + (i : Int))
def rgOk (i : Int) : Bool := decide (-(2 ^ 62) ≤ i) && decide (i < 2 ^ 62)
def mitR1 (f : M (List Op)) : M (List D) := mbind f fun os => match os with
  | [.v (.int b)] => if rgOk b = true then mret (rangeD 0 b) else mno
  | _ => mno
def mitR2 (f : M (List Op)) : M (List D) := mbind f fun os => match os with
  | [.v (.int a), .v (.int b)] => if rgOk a = true ∧ rgOk b = true then mret (rangeD a b) else mno
  | _ => mno
theorem enumD_get : ∀ (ds : List D) (n i : Nat), (enumD n ds)[i]? = ds[i]?.map fun d => .tuple [.int ((n + i : Nat) : Int), d]
  | [], _, _ => by simp [enumD]
  | d :: ds, n, 0 => by simp [enumD]
  | d :: ds, n, i + 1 => by
    unfold enumD
    rw [List.getElem?_cons_succ, List.getElem?_cons_succ, enumD_get ds (n + 1) i]
    congr 1
    funext e
    rw [show n + 1 + i = n + (i + 1) by omega]
theorem enumD_length : ∀ (ds : List D) (n : Nat), (enumD n ds).length = ds.length
  | [], _ => rfl
  | d :: ds, n => by simp [enumD, enumD_length ds]
theorem zipD_get : ∀ (ds es : List D) (i : Nat) (d e : D), ds[i]? = some d → es[i]? = some e → (zipD ds es)[i]? = some (.tuple [d, e])
  | [], _, _, _, _, h, _ => by simp at h
  | _ :: _, [], _, _, _, _, h => by simp at h
  | d :: ds, e :: es, 0, _, _, h1, h2 => by simp at h1 h2; subst h1; subst h2; rfl
  | d :: ds, e :: es, i + 1, a, b, h1, h2 => by
    unfold zipD
    rw [List.getElem?_cons_succ]
    exact zipD_get ds es i a b (by simpa using h1) (by simpa using h2)
theorem zipD_length : ∀ (ds es : List D), (zipD ds es).length = min ds.length es.length
  | [], _ => by simp [zipD]
  | _ :: _, [] => by simp [zipD]
  | d :: ds, e :: es => by simp [zipD, zipD_length ds es]
theorem RepD.get {K : PySem.W.Frag} {Z : Addr → Prop} {H : Hp} : ∀ {kv : List (Key × V)} {ds : List (D × D)} {i : Nat} {k : Key} {v : V}, RepD K Z H kv ds → kv[i]? = some (k, v) → ∃ d, ds[i]? = some (kD k, d) ∧ Rep K Z H v d
  | _, _, _, _, _, .nil, e => by simp at e
  | _, _, 0, _, _, .cons r _, e => by simp at e; obtain ⟨rfl, rfl⟩ := e; exact ⟨_, rfl, r⟩
  | _, _, i + 1, k, v, .cons _ t, e => by
    obtain ⟨u, h1, h2⟩ := RepD.get (i := i) t (by simpa using e)
    exact ⟨u, by simpa using h1, h2⟩
theorem Rep.asL {K : PySem.W.Frag} {Z : Addr → Prop} {H : Hp} {v : V} {ds : List D} (r : Rep K Z H v (.list ds)) : ∃ a vs, v = .ref a ∧ Z a ∧ H a = some (.lst vs) ∧ RepL K Z H vs ds := by
  cases r with
  | lst z h r => exact ⟨_, _, rfl, z, h, r⟩
theorem Rep.asT {K : PySem.W.Frag} {Z : Addr → Prop} {H : Hp} {v : V} {ds : List D} (r : Rep K Z H v (.tuple ds)) : ∃ a vs, v = .ref a ∧ SqT K H a vs ∧ RepL K Z H vs ds := by
  cases r with
  | tup h r => exact ⟨_, _, rfl, h, r⟩
theorem Rep.asD {K : PySem.W.Frag} {Z : Addr → Prop} {H : Hp} {v : V} {ds : List (D × D)} (r : Rep K Z H v (.dict ds)) : ∃ a o kv, v = .ref a ∧ Z a ∧ H a = some (.frz o (.dK kv)) ∧ RepD K Z H kv ds := by
  cases r with
  | dic z h r => exact ⟨_, _, _, rfl, z, h, r⟩
/-- a new pair -/
theorem pair_new {K : PySem.W.Frag} {Z : Addr → Prop} {H : Hp} {T : Addr} {x y : V} {d e : D} (hT : H T = none) (t : Trk Z H) (r1 : Rep K Z H x d) (r2 : Rep K Z H y e) :
    ∃ Z', Ext Z H Z' (upd H T (.tup [x, y])) ∧ Trk Z' (upd H T (.tup [x, y])) ∧ Rep K Z' (upd H T (.tup [x, y])) (.ref T) (.tuple [d, e]) := by
  have s : Ext Z H Z (upd H T (.tup [x, y])) := Ext.upd hT Z (fun _ h => h) fun _ h => .inl h
  exact ⟨Z, s, Trk.ext t s, .tup (SqT.of upd_same) (.cons (r1.ext s) (.cons (r2.ext s) .nil))⟩
section
variable {X : Cx} {W : WX} {tg e : Expr} {f : M D} {g : M (List Op)} {pos p apos cpos : Pos} {es elts : List Expr} {kk : Nat} {tpos : Pos}
theorem tp_it {h : D → M (List D)} (tf : TP f) (th : ∀ d, TP (h d)) : TP (mbind f h) := tf.bind th
theorem ie_list (h : VE X W e f) : IE X W tg e (mitL f) := by
  refine ⟨PI.imp (pi_list h.pe) fun σ H Q ⟨B, Z, ρ, G, p⟩ => ?_, h.tp.bind fun d => by cases d <;> first | exact .ret _ | exact .no⟩
  refine Post.bind h.tp G p fun v H1 Z1 ρ1 d s1 G1 t1 r1 p1 => ?_
  cases d with
  | list ds =>
    cases r1 with
    | lst z h1 r =>
      rename_i a vs
      have w := walk_list (K := X.K) (a := a) (xs := vs)
      have sq : ∀ {Z' H'}, Later Z1 H1 Z' H' → SqL X.K H' a vs := fun l => .inl (.inl (l.keep _ _ z h1))
      refine ⟨a, rfl, ⟨vs, .inl (.inl h1)⟩, p1.at G1 ⟨fun i Z' H' l hi => w.goes i H' (by rw [r.length]; exact hi) (sq l), fun i Z' H' x H'' l t hi y => ?_, fun Z' H' l => by rw [← r.length]; exact w.stops H' (sq l)⟩⟩
      obtain ⟨rfl, e1⟩ := w.yields i H' x H'' (by rw [r.length]; exact hi) (sq l) y
      obtain ⟨d, e2, r2⟩ := r.get' e1
      exact ⟨d, Z', e2, .refl, t, r2.later l⟩
  | _ => exact p1.elim
theorem ie_tup (h : VE X W e f) : IE X W tg e (mitT f) := by
  refine ⟨PI.imp (pi_tup h.pe) fun σ H Q ⟨B, Z, ρ, G, p⟩ => ?_, h.tp.bind fun d => by cases d <;> first | exact .ret _ | exact .no⟩
  refine Post.bind h.tp G p fun v H1 Z1 ρ1 d s1 G1 t1 r1 p1 => ?_
  cases d with
  | tuple ds =>
    cases r1 with
    | tup h1 r =>
      rename_i a vs
      have w := walk_tup (K := X.K) (a := a) (xs := vs)
      refine ⟨a, rfl, ⟨vs, h1⟩, p1.at G1 ⟨fun i Z' H' l hi => w.goes i H' (by rw [r.length]; exact hi) (l.sqT h1), fun i Z' H' x H'' l t hi y => ?_, fun Z' H' l => by rw [← r.length]; exact w.stops H' (l.sqT h1)⟩⟩
      obtain ⟨rfl, e1⟩ := w.yields i H' x H'' (by rw [r.length]; exact hi) (l.sqT h1) y
      obtain ⟨d, e2, r2⟩ := r.get' e1
      exact ⟨d, Z', e2, .refl, t, r2.later l⟩
  | _ => exact p1.elim
theorem ie_str (h : VE X W e f) : IE X W tg e (mitS f) := by
  refine ⟨PI.imp (pi_str h.pe) fun σ H Q ⟨B, Z, ρ, G, p⟩ => ?_, h.tp.bind fun d => by cases d <;> first | exact .ret _ | exact .no⟩
  refine Post.bind h.tp G p fun v H1 Z1 ρ1 d s1 G1 t1 r1 p1 => ?_
  cases d with
  | str z =>
    cases r1
    have w := walk_str (z := z)
    have el : (z.cps.toList.map fun c => (PyData.str ⟨#[c]⟩ : D)).length = z.cps.size := by simp
    refine ⟨z, rfl, p1.at G1 ⟨fun i Z' H' l hi => w.goes i H' (by rw [← el]; exact hi) trivial, fun i Z' H' x H'' l t hi y => ?_, fun Z' H' l => by rw [el]; exact w.stops H' trivial⟩⟩
    obtain ⟨rfl, c, e1, rfl⟩ := w.yields i H' x H'' (by rw [← el]; exact hi) trivial y
    exact ⟨.str ⟨#[c]⟩, Z', by rw [List.getElem?_map, Array.getElem?_toList, e1]; rfl, .refl, t, .str _⟩
  | _ => exact p1.elim
theorem ie_keys (h : VE X W e f) : IE X W tg e (mitK f) := by
  refine ⟨PI.imp (pi_keys h.pe) fun σ H Q ⟨B, Z, ρ, G, p⟩ => ?_, h.tp.bind fun d => by cases d <;> first | exact .ret _ | exact .no⟩
  refine Post.bind h.tp G p fun v H1 Z1 ρ1 d s1 G1 t1 r1 p1 => ?_
  cases d with
  | dict ds =>
    cases r1 with
    | dic z h1 r =>
      rename_i a o kv
      have w := walk_keys (d := a) (o := o) (kvs := kv)
      have el : (ds.map (·.1)).length = kv.length := by rw [List.length_map, r.length]
      refine ⟨a, o, rfl, .inl ⟨kv, h1, p1.at G1 ⟨fun i Z' H' l hi => w.goes i H' (by rw [← el]; exact hi) (l.keep _ _ z h1), fun i Z' H' x H'' l t hi y => ?_, fun Z' H' l => by rw [el]; exact w.stops H' (l.keep _ _ z h1)⟩⟩⟩
      obtain ⟨rfl, k, u, e1, rfl⟩ := w.yields i H' x H'' (by rw [← el]; exact hi) (l.keep _ _ z h1) y
      obtain ⟨d, e2, r2⟩ := r.get e1
      exact ⟨kD k, Z', by rw [List.getElem?_map, e2]; rfl, .refl, t, rep_kD⟩
  | _ => exact p1.elim
theorem ie_values (h : VE X W e f) (hbase : attributeBase e "values" X.env (eval e X.env) = eval e X.env := by rfl) (hline : (apos.endLine == cpos.line) = true := by rfl) : IE X W tg (.Call (.Attribute e "values" apos) [] [] cpos) (mitV f) := by
  refine ⟨PI.imp (pi_values h.pe hbase hline) fun σ H Q ⟨B, Z, ρ, G, p⟩ => ?_, h.tp.bind fun d => by cases d <;> first | exact .ret _ | exact .no⟩
  refine Post.bind h.tp G p fun v H1 Z1 ρ1 d s1 G1 t1 r1 p1 => ?_
  cases d with
  | dict ds =>
    cases r1 with
    | dic z h1 r =>
      rename_i a o kv
      have w := walk_values (d := a) (o := o) (kvs := kv)
      have el : (ds.map (·.2)).length = kv.length := by rw [List.length_map, r.length]
      refine ⟨a, o, kv, rfl, h1, p1.at G1 ⟨fun i Z' H' l hi => w.goes i H' (by rw [← el]; exact hi) (l.keep _ _ z h1), fun i Z' H' x H'' l t hi y => ?_, fun Z' H' l => by rw [el]; exact w.stops H' (l.keep _ _ z h1)⟩⟩
      obtain ⟨rfl, k, e1⟩ := w.yields i H' x H'' (by rw [← el]; exact hi) (l.keep _ _ z h1) y
      obtain ⟨d, e2, r2⟩ := r.get e1
      exact ⟨d, Z', by rw [List.getElem?_map, e2]; rfl, .refl, t, r2.later l⟩
  | _ => exact p1.elim
theorem ie_items (h : VE X W e f) (hbase : attributeBase e "items" X.env (eval e X.env) = eval e X.env := by rfl) (hline : (apos.endLine == cpos.line) = true := by rfl) : IE X W (.Tuple elts kk tpos) (.Call (.Attribute e "items" apos) [] [] cpos) (mitI f) := by
  refine ⟨PI.imp (pi_items h.pe hbase hline) fun σ H Q ⟨B, Z, ρ, G, p⟩ => ?_, h.tp.bind fun d => by cases d <;> first | exact .ret _ | exact .no⟩
  refine Post.bind h.tp G p fun v H1 Z1 ρ1 d s1 G1 t1 r1 p1 => ?_
  cases d with
  | dict ds =>
    cases r1 with
    | dic z h1 r =>
      rename_i a o kv
      have w := walk_items (d := a) (o := o) (kvs := kv)
      have el : (ds.map fun p => (PyData.tuple [p.1, p.2] : D)).length = kv.length := by rw [List.length_map, r.length]
      refine ⟨a, o, kv, rfl, h1, p1.at G1 ⟨fun i Z' H' l hi => w.goes i H' (by rw [← el]; exact hi) (l.keep _ _ z h1), fun i Z' H' x H'' l t hi y => ?_, fun Z' H' l => by rw [el]; exact w.stops H' (l.keep _ _ z h1)⟩⟩
      obtain ⟨T, x1, y1, rfl, hT, rfl, e1, e2⟩ := w.yields i H' x H'' (by rw [← el]; exact hi) (l.keep _ _ z h1) y
      dsimp only at e1 e2
      obtain ⟨⟨k, u⟩, q1, q2⟩ := Option.map_eq_some_iff.mp e1
      rw [q1] at e2
      cases q2
      cases e2
      obtain ⟨d, e3, r2⟩ := r.get q1
      obtain ⟨Z2, x2, t2, r3⟩ := pair_new (K := X.K) hT t (rep_kD (k := k)) (r2.later l)
      exact ⟨.tuple [kD k, d], Z2, by rw [List.getElem?_map, e3]; rfl, x2, t2, r3⟩
  | _ => exact p1.elim
theorem tp_itE (h : TP g) : TP (mitE g) := h.bind fun os => by
  split <;> first | exact .ret _ | exact .no
theorem ie_enum (gl : Gl X "enumerate") (hm : X.mg "enumerate" = none) (ha : VA X W [e] g) (hs : starEach [e] X.env = [(false, eval e X.env)] := by rfl) : IE X W (.Tuple elts kk tpos) (.Call (.Name "enumerate" p) [e] [] pos) (mitE g) := by
  refine ⟨PI.imp (pi_enum gl hm ha.pa hs) fun σ H Q ⟨B, Z, ρ, G, q⟩ => ?_, tp_itE ha.tp⟩
  refine Post.bind ha.tp G q fun vs H1 Z1 ρ1 os s1 G1 t1 r1 p1 => ?_
  split at p1
  · rename_i xs
    cases r1 with
    | cons h1 t =>
      cases t
      obtain ⟨a, us, rfl, z, h1, r⟩ := Rep.asL (show Rep X.K Z1 H1 _ (.list xs) from h1)
      · skip
        have w := walk_enum (K := X.K) (a := a) (xs := us)
        have sq : ∀ {Z' H'}, Later Z1 H1 Z' H' → SqL X.K H' a us := fun l => .inl (.inl (l.keep _ _ z h1))
        have el : (enumD 0 xs).length = us.length := by rw [enumD_length, r.length]
        refine ⟨a, us, rfl, .inl (.inl h1), p1.at G1 ⟨fun i Z' H' l hi => w.goes i H' (by rw [← el]; exact hi) (sq l), fun i Z' H' x H'' l t hi y => ?_, fun Z' H' l => by rw [el]; exact w.stops H' (sq l)⟩⟩
        obtain ⟨T, x1, y1, rfl, hT, rfl, e1, e2⟩ := w.yields i H' x H'' (by rw [← el]; exact hi) (sq l) y
        cases e1
        obtain ⟨d, e3, r2⟩ := r.get' e2
        obtain ⟨Z2, x2, t2, r3⟩ := pair_new (K := X.K) hT t (.int (i : Nat)) (r2.later l)
        exact ⟨.tuple [.int (i : Nat), d], Z2, by rw [enumD_get, e3, Nat.zero_add]; rfl, x2, t2, r3⟩
  · exact p1.elim
theorem tp_itZ (h : TP g) : TP (mitZ g) := h.bind fun os => by
  split <;> first | exact .ret _ | exact .no
theorem ie_zip {e2 : Expr} (gl : Gl X "zip") (hm : X.mg "zip" = none) (ha : VA X W [e, e2] g) (hs : starEach [e, e2] X.env = (false, eval e X.env) :: starEach [e2] X.env := by rfl) (hpl : (backTo pos (starEach [e2] X.env)).any (·.1) = false := by rfl) :
    IE X W (.Tuple elts kk tpos) (.Call (.Name "zip" p) [e, e2] [] pos) (mitZ g) := by
  refine ⟨PI.imp (RZ.pi_zipA gl hm ha.pa hs hpl) fun σ H Q ⟨B, Z, ρ, G, q⟩ => ?_, tp_itZ ha.tp⟩
  refine Post.bind ha.tp G q fun vs H1 Z1 ρ1 os s1 G1 t1 r1 p1 => ?_
  split at p1
  · rename_i xs ys
    cases r1 with
    | cons h1 t =>
      cases t with
      | cons h2 t =>
        cases t
        obtain ⟨a, us, rfl, z, h1, r⟩ := Rep.asL (show Rep X.K Z1 H1 _ (.list xs) from h1)
        obtain ⟨b, ws, rfl, z2, h2, r2⟩ := Rep.asL (show Rep X.K Z1 H1 _ (.list ys) from h2)
        · · skip
            have w := walk_zip (K := X.K) (a := a) (b := b) (xs := us) (ys := ws) rfl
            have sq : ∀ {Z' H'}, Later Z1 H1 Z' H' → SqL X.K H' a us ∧ SqL X.K H' b ws := fun l => ⟨.inl (.inl (l.keep _ _ z h1)), .inl (.inl (l.keep _ _ z2 h2))⟩
            have el : (zipD xs ys).length = min us.length ws.length := by rw [zipD_length, r.length, r2.length]
            refine ⟨a, b, us, ws, rfl, .inl ⟨.inl (.inl h1), .inl (.inl h2), p1.at G1 ⟨fun i Z' H' l hi => w.goes i H' (by rw [← el]; exact hi) (sq l), fun i Z' H' x H'' l t hi y => ?_, fun Z' H' l => by rw [el]; exact w.stops H' (sq l)⟩⟩⟩
            obtain ⟨T, x1, y1, rfl, hT, rfl, e1, e2⟩ := w.yields i H' x H'' (by rw [← el]; exact hi) (sq l) y
            obtain ⟨d, e3, r3⟩ := r.get' e1
            obtain ⟨d2, e4, r4⟩ := r2.get' e2
            obtain ⟨Z2, x2, t2, r5⟩ := pair_new (K := X.K) hT t (r3.later l) (r4.later l)
            exact ⟨.tuple [d, d2], Z2, zipD_get xs ys i d d2 e3 e4, x2, t2, r5⟩
  · rename_i xs ys
    cases r1 with
    | cons h1 t =>
      cases t with
      | cons h2 t =>
        cases t
        obtain ⟨a, us, rfl, h1, r⟩ := Rep.asT (show Rep X.K Z1 H1 _ (.tuple xs) from h1)
        obtain ⟨b, ws, rfl, h2, r2⟩ := Rep.asT (show Rep X.K Z1 H1 _ (.tuple ys) from h2)
        · · skip
            have el : (zipD xs ys).length = min us.length ws.length := by rw [zipD_length, r.length, r2.length]
            refine ⟨a, b, us, ws, rfl, .inr ⟨h1, h2, p1.at G1 ⟨fun i Z' H' l hi => ?_, fun i Z' H' x H'' l t hi y => ?_, fun Z' H' l => ?_⟩⟩⟩
            · exact ⟨us, ws, us[i]'(by omega), ws[i]'(by omega), l.sqT h1, l.sqT h2, by simp, by simp⟩
            · obtain ⟨T, x1, y1, rfl, hT, rfl, e1, e2⟩ := y
              obtain ⟨d, e3, r3⟩ := r.get' (e1 us (l.sqT h1))
              obtain ⟨d2, e4, r4⟩ := r2.get' (e2 ws (l.sqT h2))
              obtain ⟨Z2, x2, t2, r5⟩ := pair_new (K := X.K) hT t (r3.later l) (r4.later l)
              exact ⟨.tuple [d, d2], Z2, zipD_get xs ys i d d2 e3 e4, x2, t2, r5⟩
            · exact ⟨us, ws, l.sqT h1, l.sqT h2, by omega⟩
  · exact p1.elim
theorem tp_itR1 (h : TP g) : TP (mitR1 g) := h.bind fun os => by
  split
  · exact tp_ite (.ret _) .no
  · exact .no
theorem tp_itR2 (h : TP g) : TP (mitR2 g) := h.bind fun os => by
  split
  · exact tp_ite (.ret _) .no
  · exact .no
theorem walk_rangeD (a : Int) (n : Nat) : WalkD X.K (Itr a n) ((List.range n).map fun (i : Nat) => .int (a + (i : Int))) (fun _ => False) (fun _ => none) := by
  have w := walk_range (lo := a) (n := n)
  have el : ((List.range n).map fun (i : Nat) => (PyData.int (a + (i : Int)) : D)).length = n := by simp
  refine ⟨fun i Z' H' l hi => w.goes i H' (by rw [← el]; exact hi) trivial, fun i Z' H' x H'' l t hi y => ?_, fun Z' H' l => by rw [el]; exact w.stops H' trivial⟩
  obtain ⟨rfl, rfl⟩ := w.yields i H' x H'' (by rw [← el]; exact hi) trivial y
  refine ⟨.int (a + i), Z', ?_, .refl, t, .int _⟩
  rw [List.getElem?_map, List.getElem?_range (by rw [el] at hi; exact hi)]
  rfl
theorem ir_range1 (gl : Gl X "range") (hm : X.mg "range" = none) (ha : VA X W [e] g) (hs : starEach [e] X.env = [(false, eval e X.env)] := by rfl) : IR X W tg (.Call (.Name "range" p) [e] [] pos) (mitR1 g) := by
  refine ⟨PI.imp (pi_range1 gl hm ha.pa hs) fun σ H Q ⟨B, Z, ρ, G, q⟩ => ?_, tp_itR1 ha.tp⟩
  refine Post.bind ha.tp G q fun vs H1 Z1 ρ1 os s1 G1 t1 r1 p1 => ?_
  split at p1
  · rename_i b
    split at p1
    · rename_i hb
      cases r1 with
      | cons h1 t =>
        cases t
        have h1 : Rep X.K Z1 H1 _ (.int b) := h1
        cases h1
        unfold rgOk at hb
        simp only [Bool.and_eq_true, decide_eq_true_eq] at hb
        refine ⟨b, rfl, hb.1, hb.2, p1.at G1 ?_⟩
        have w := walk_rangeD (X := X) 0 b.toNat
        unfold rangeD
        rw [Int.sub_zero]
        exact w
    · exact p1.elim
  · exact p1.elim
theorem ir_range2 {e2 : Expr} (gl : Gl X "range") (hm : X.mg "range" = none) (ha : VA X W [e, e2] g) (hs : starEach [e, e2] X.env = [(false, eval e X.env), (false, eval e2 X.env)] := by rfl) (hs2 : starEach [e2] X.env = [(false, eval e2 X.env)] := by rfl) : IR X W tg (.Call (.Name "range" p) [e, e2] [] pos) (mitR2 g) := by
  refine ⟨PI.imp (pi_range2 gl hm ha.pa hs hs2) fun σ H Q ⟨B, Z, ρ, G, q⟩ => ?_, tp_itR2 ha.tp⟩
  refine Post.bind ha.tp G q fun vs H1 Z1 ρ1 os s1 G1 t1 r1 p1 => ?_
  split at p1
  · rename_i a b
    split at p1
    · rename_i hb
      cases r1 with
      | cons h1 t =>
        cases t with
        | cons h2 t =>
          cases t
          have h1 : Rep X.K Z1 H1 _ (.int a) := h1
          have h2 : Rep X.K Z1 H1 _ (.int b) := h2
          cases h1
          cases h2
          unfold rgOk at hb
          simp only [Bool.and_eq_true, decide_eq_true_eq] at hb
          exact ⟨a, b, rfl, ⟨hb.1.1, hb.1.2, hb.2.1, hb.2.2⟩, p1.at G1 (walk_rangeD (X := X) a (b - a).toNat)⟩
    · exact p1.elim
  · exact p1.elim
end
end VS

set_option Elab.async false
set_option linter.all false
namespace VS
open PySem L2
mutual
def eqD : D → D → Bool
  | .none, .none => true
  | .bool a, .bool b => decide (a = b)
  | .int a, .int b => decide (a = b)
  | .str a, .str b => decide (a = b)
  | .list a, .list b => eqDL a b
  | .tuple a, .tuple b => eqDL a b
  | .dict a, .dict b => eqDD a b
  | _, _ => false
def eqDL : List D → List D → Bool
  | [], [] => true
  | a :: as, b :: bs => eqD a b && eqDL as bs
  | _, _ => false
def eqDD : List (D × D) → List (D × D) → Bool
  | [], [] => true
  | (a, c) :: as, (b, d) :: bs => eqD a b && eqD c d && eqDD as bs
  | _, _ => false
end
mutual
theorem eqD_iff : ∀ (a b : D), eqD a b = true ↔ a = b
  | .none, b => by cases b <;> simp [eqD]
  | .bool _, b => by cases b <;> simp [eqD]
  | .int _, b => by cases b <;> simp [eqD]
  | .str _, b => by cases b <;> simp [eqD]
  | .list as, b => by
    cases b <;> simp [eqD]
    exact eqDL_iff as _
  | .tuple as, b => by
    cases b <;> simp [eqD]
    exact eqDL_iff as _
  | .dict as, b => by
    cases b <;> simp [eqD]
    exact eqDD_iff as _
theorem eqDL_iff : ∀ (a b : List D), eqDL a b = true ↔ a = b
  | [], b => by cases b <;> simp [eqDL]
  | a :: as, b => by
    cases b with
    | nil => simp [eqDL]
    | cons b bs => simp [eqDL, eqD_iff a b, eqDL_iff as bs]
theorem eqDD_iff : ∀ (a b : List (D × D)), eqDD a b = true ↔ a = b
  | [], b => by cases b <;> simp [eqDD]
  | (a, c) :: as, b => by
    cases b with
    | nil => simp [eqDD]
    | cons b bs =>
      obtain ⟨b, d⟩ := b
      simp [eqDD, eqD_iff a b, eqD_iff c d, eqDD_iff as bs, and_assoc]
end
instance : DecidableEq D := fun a b => decidable_of_iff _ (eqD_iff a b)
instance ownDec (o : Option Sl) (d : D) : Decidable (o = some (.own d)) := match o with
  | some (.own e) => decidable_of_iff (e = d) ⟨fun h => by rw [h], fun h => by cases h; rfl⟩
  | some .emp => isFalse fun h => by cases h
  | some (.val _) => isFalse fun h => by cases h
  | some (.frz _) => isFalse fun h => by cases h
  | some (.exc _ _) => isFalse fun h => by cases h
  | some (.scr _) => isFalse fun h => by cases h
  | none => isFalse fun h => by cases h
end VS

set_option Elab.async false
set_option linter.all false
set_option maxRecDepth 100000
namespace VS
open PySem L2

def WN : WX := fun _ _ _ _ => False
structure VTs (X : Cx) (W : WX) (es : List Expr) (f : M Bool) : Prop where
  pt : PTs X es (Lf X W RT f)
  tp : TP f
theorem PTs.imp {X : Cx} {e : List Expr} {t t' : TT} (h : PTs X e t) (i : ∀ σ H Q, t' σ H Q → t σ H Q) : PTs X e t' := ⟨fun pins s σ H Q I q => h.run pins s σ H Q I (i σ H Q q)⟩
theorem vts_nil {X : Cx} {W : WX} : VTs X W [] (mret true) := ⟨PTs.imp pts_nil fun σ H Q ⟨B, Z, ρ, G, p⟩ => p.at G rfl, .ret _⟩
theorem vts_one {X : Cx} {W : WX} {c : Expr} {f : M Bool} (h : VT X W c f) : VTs X W [c] f := ⟨pts_one h.pt, h.tp⟩

/-! ### the heap around one thing that is neither shared nor held -/
section
variable {K : PySem.W.Frag} {B Z Z' O : Addr → Prop} {H H' : Hp} {σ : St} {ρ : Rho} {a : Addr} {o o' : HO}
theorem step_at (e : H a = some o) : Step (fun b => b = a) Z H Z (upd H a o') :=
  ⟨fun b u q n => by rw [upd_ne n]; exact q, fun _ h => h, fun _ h => .inl h, fun b u q => by
    by_cases k : b = a
    · subst k; exact ⟨o', upd_same⟩
    · exact ⟨u, by rw [upd_ne k]; exact q⟩⟩
theorem mut_at (e : H a = some o) (m : Mut (some o)) : MutO (fun b => b = a) H := fun b q => by subst q; rw [e]; exact m
theorem Good.updOut (g : Good K B Z H σ ρ) (e : H a = some o) (m : Mut (some o)) (z : ¬ Z a) (n : ¬ Owns σ ρ a) : Good K B Z (upd H a o') σ ρ := by
  have s : Step (fun b => b = a) Z H Z (upd H a o') := step_at e
  have mm := mut_at e m
  have hz : ∀ b, Z b → ¬ b = a := fun b zb q => by subst q; exact z zb
  refine ⟨g.len, g.bz, fun b zb => ?_, fun i x r e1 e2 => ?_, g.ap⟩
  · obtain ⟨u, q⟩ := g.zt b zb
    exact s.there b u q
  · have q := g.sl i x r e1 e2
    cases r with
    | emp => trivial
    | val d => obtain ⟨v, e, r⟩ := q; exact ⟨v, e, r.step s mm hz⟩
    | own d =>
      obtain ⟨b, rfl, nz, c⟩ := q
      exact ⟨b, rfl, nz, c.step s mm hz fun k => n ⟨i, ⟨d, e2⟩, by rw [e1, k]⟩⟩
    | frz d => obtain ⟨b, e, zb, nb, c⟩ := q; exact ⟨b, e, zb, nb, c.step s mm hz (hz b zb)⟩
    | exc c f =>
      obtain ⟨b, C, oe, vs, u, e, h1, h2, h3, h4, x⟩ := q
      exact ⟨b, C, oe, vs, u, e, s.keep _ _ h1 fun k => (by
        have z := mm b k
        rw [h1] at z
        exact z), h2, h3, h4, x.step s mm hz⟩
    | scr ns => obtain ⟨b, e, q⟩ := q; exact ⟨b, e, q.step s hz⟩
theorem Cell.later {Z1 : Addr → Prop} (l : Later Z H Z1 H) {d : D} (c : Cell K Z H a d) : Cell K Z1 H a d := by
  cases d with
  | list ds => obtain ⟨vs, h, r⟩ := c; exact ⟨vs, h, r.later l⟩
  | dict ds => obtain ⟨kv, h, r⟩ := c; exact ⟨kv, h, r.later l⟩
  | _ => exact c.elim
theorem FCell.later {Z1 : Addr → Prop} (l : Later Z H Z1 H) {d : D} (c : FCell K Z H a d) : FCell K Z1 H a d := by
  cases d with
  | list ds => obtain ⟨vs, h, r⟩ := c; exact ⟨vs, h, r.later l⟩
  | dict ds => obtain ⟨o, kv, h, r⟩ := c; exact ⟨o, kv, h, r.later l⟩
  | _ => exact c.elim
theorem grow_later : Later Z H (fun b => Z b ∨ b = a) H := ⟨fun _ h => .inl h, fun _ _ _ h => h, fun _ _ h => h⟩
theorem XRep.grow {dx : Option Addr} {fs : List (Str × D)} (x : XRep K Z H dx fs) : XRep K (fun b => Z b ∨ b = a) H dx fs := by
  cases fs with
  | nil => exact x
  | cons f fs => obtain ⟨d, us, e, h, r, q⟩ := x; exact ⟨d, us, e, h, r.later grow_later, q⟩
theorem Good.grow (g : Good K B Z H σ ρ) (e : H a = some o) (n : ¬ Owns σ ρ a) : Good K B (fun b => Z b ∨ b = a) H σ ρ := by
  refine ⟨g.len, fun b h => .inl (g.bz b h), fun b zb => ?_, fun i x r e1 e2 => ?_, g.ap⟩
  · rcases zb with zb | rfl
    · exact g.zt b zb
    · exact ⟨o, e⟩
  · have q := g.sl i x r e1 e2
    cases r with
    | emp => trivial
    | val d => obtain ⟨v, e, r⟩ := q; exact ⟨v, e, r.later grow_later⟩
    | own d =>
      obtain ⟨b, rfl, nz, c⟩ := q
      exact ⟨b, rfl, fun k => k.elim nz fun k => n ⟨i, ⟨d, e2⟩, by rw [e1, k]⟩, c.later grow_later⟩
    | frz d => obtain ⟨b, e, zb, nb, c⟩ := q; exact ⟨b, e, .inl zb, nb, c.later grow_later⟩
    | exc c f => obtain ⟨b, C, oe, vs, u, e, h1, h2, h3, h4, x⟩ := q; exact ⟨b, C, oe, vs, u, e, h1, h2, h3, h4, x.grow⟩
    | scr ns => obtain ⟨b, e, q⟩ := q; exact ⟨b, e, q.elim (fun k => .inl ⟨.inl k.1, k.2⟩) .inr⟩
theorem Later.step {O Z1 : Addr → Prop} {H1 : Hp} (l : Later Z1 H1 Z H) (s : Step O Z H Z' H') (m : MutO O H) (hz : ∀ a, Z a → ¬ O a) : Later Z1 H1 Z' H' :=
  ⟨fun b h => s.mono b (l.mono b h), fun b u h e => s.keep b u (l.keep b u h e) (hz b (l.mono b h)), fun b xs h => s.rd (m.rdT (l.tup b xs h)) (l.tup b xs h)⟩
end

/-! ### a new container becomes a value -/
theorem pe_frz {X : Cx} {e : Expr} {t : TE} (h : PE X e t) : PE X e (fun σ H Q => t σ H fun v H1 => Q v H1 ∨ ∃ d u, H1 d = some u ∧ Mut (some u) ∧ ∀ od, Q v (upd H1 d (.frz od u))) := by
  refine ⟨fun pins s σ H Q I hw => ?_⟩
  refine thn (h.run pins s σ H _ I hw) fun v s1 ⟨x, H1, I1, r, q⟩ => ?_
  rcases q with q | ⟨d, u, hd, mu, q⟩
  · exact ⟨x, H1, I1, r, q⟩
  · obtain ⟨od, I2⟩ := I1.lock hd mu
    exact ⟨x, _, I2, r, q od⟩
theorem step_grow {O Z Z' : Addr → Prop} {H H' : Hp} {a : Addr} (s : Step O Z H Z' H') (n : H a = none) : Step O Z H (fun b => Z' b ∨ b = a) H' :=
  ⟨s.keep, fun b h => .inl (s.mono b h), fun b h => h.elim (s.new b) fun e => .inr (e ▸ n), s.there⟩
theorem step_upd {O Z Z' : Addr → Prop} {H H' : Hp} {a : Addr} {o : HO} (s : Step O Z H Z' H') (n : H a = none) : Step O Z H Z' (upd H' a o) :=
  ⟨fun b u e k => by rw [upd_ne (ne_of_none e n)]; exact s.keep b u e k, s.mono, s.new, fun b u e => by rw [upd_ne (ne_of_none e n)]; exact s.there b u e⟩
theorem ve_fe {X : Cx} {W : WX} {e : Expr} {f : M D} (h : FE X W e f) : VE X W e f := by
  refine ⟨PE.imp (pe_frz h.pe) fun σ H Q ⟨B, Z, ρ, G, p⟩ => ⟨B, Z, ρ, G, ?_⟩, h.tp⟩
  cases q : f ρ with
  | ok d ρ1 =>
    rw [q] at p
    rintro b H1 Z1 s1 G1 ⟨a, rfl, nz, c, no, nn⟩
    cases d with
    | list ds =>
      obtain ⟨vs, h1, r⟩ := c
      exact .inl (p _ H1 _ (step_grow s1 nn) (G1.grow h1 no) (.lst (.inr rfl) h1 (r.later grow_later)))
    | dict ds =>
      obtain ⟨kv, h1, r⟩ := c
      refine .inr ⟨a, _, h1, trivial, fun od => ?_⟩
      have G2 : Good X.K B Z1 (upd H1 a (.frz od (.dK kv))) σ ρ1 := G1.updOut h1 trivial nz no
      have r2 : RepD X.K Z1 (upd H1 a (.frz od (.dK kv))) kv ds := r.step (step_at h1) (mut_at h1 trivial) fun b zb q => by subst q; exact nz zb
      exact p _ _ _ (step_grow (step_upd s1 nn) nn) (G2.grow upd_same no) (.dic (.inr rfl) upd_same (r2.later grow_later))
    | _ => exact c.elim
  | exc c fs ρ1 => rw [q] at p; exact p
  | no => rw [q] at p; exact p

/-! ### the slots of a block -/
def isEmp (ρ : Rho) (i : Nat) : Bool := match ρ[i]? with
  | some .emp => true
  | none => true
  | _ => false
def clean (vs : List Nat) (ρ : Rho) : Bool := vs.all (isEmp ρ)
def wipeR (ρ : Rho) : List Nat → Rho
  | [] => ρ
  | v :: vs => (wipeR ρ vs).set v .emp
theorem wipeR_get {ρ : Rho} : ∀ {vs : List Nat} {i : Nat}, (wipeR ρ vs)[i]? = if i ∈ vs then ρ[i]?.map (fun _ => Sl.emp) else ρ[i]?
  | [], i => by simp [wipeR]
  | v :: vs, i => by
    unfold wipeR
    by_cases e : i = v
    · subst e
      rw [if_pos (List.mem_cons_self)]
      by_cases hl : i < (wipeR ρ vs).length
      · rw [List.getElem?_set_self hl]
        have := wipeR_get (ρ := ρ) (vs := vs) (i := i)
        rw [List.getElem?_eq_getElem hl] at this
        split at this
        · cases k : ρ[i]? with
          | none => rw [k] at this; cases this
          | some r => rfl
        · rw [← this]; rfl
      · rw [List.getElem?_eq_none (by simpa using hl)]
        have := wipeR_get (ρ := ρ) (vs := vs) (i := i)
        rw [List.getElem?_eq_none (by simpa using hl)] at this
        split at this
        · exact this
        · rw [← this]; rfl
    · rw [List.getElem?_set_ne (Ne.symm e), wipeR_get]
      by_cases m : i ∈ vs
      · rw [if_pos m, if_pos (List.mem_cons_of_mem _ m)]
      · rw [if_neg m, if_neg (by simp [e, m])]
theorem clean_get {ρ : Rho} {vs : List Nat} (h : clean vs ρ = true) {i : Nat} (m : i ∈ vs) : ρ[i]? = some .emp ∨ ρ[i]? = none := by
  unfold clean at h
  have := List.all_eq_true.mp h i m
  unfold isEmp at this
  split at this
  · rename_i q; exact .inl q
  · rename_i q; exact .inr q
  · cases this
theorem wipeR_clean {ρ : Rho} {vs : List Nat} (h : clean vs ρ = true) : wipeR ρ vs = ρ := by
  refine List.ext_getElem? fun i => ?_
  rw [wipeR_get]
  by_cases m : i ∈ vs
  · rw [if_pos m]
    rcases clean_get h m with q | q <;> rw [q] <;> rfl
  · rw [if_neg m]
theorem clean_wipeR {ρ : Rho} {vs : List Nat} : clean vs (wipeR ρ vs) = true := by
  unfold clean
  rw [List.all_eq_true]
  intro i m
  unfold isEmp
  rw [wipeR_get, if_pos m]
  cases ρ[i]? <;> rfl
theorem tags_get {ρ ρ' : Rho} (h : tags ρ = tags ρ') (i : Nat) : ρ[i]?.map Sl.tag = ρ'[i]?.map Sl.tag := by
  have := congrArg (fun l => l[i]?) h
  simpa [tags] using this
theorem tags_ext {ρ ρ' : Rho} (h : ∀ i : Nat, (ρ[i]?).map Sl.tag = (ρ'[i]?).map Sl.tag) : tags ρ = tags ρ' := by
  refine List.ext_getElem? fun i => ?_
  have := h i
  simpa [tags] using this
theorem tags_wipe {ρ ρ' : Rho} {vs : List Nat} (h : tags ρ = tags ρ') : tags (wipeR ρ vs) = tags (wipeR ρ' vs) := by
  refine tags_ext fun i => ?_
  have := tags_get h i
  rw [wipeR_get, wipeR_get]
  by_cases m : i ∈ vs
  · rw [if_pos m, if_pos m]
    cases e : ρ[i]? <;> cases e' : ρ'[i]? <;> rw [e, e'] at this <;> simp_all
  · rw [if_neg m, if_neg m]; exact this
theorem fr_wipe {ρ ρ' : Rho} {ts vs : List Nat} (h : Fr ts ρ' ρ) (s : ∀ i ∈ ts, i ∈ vs) : wipeR ρ' vs = wipeR ρ vs := by
  refine List.ext_getElem? fun i => ?_
  rw [wipeR_get, wipeR_get]
  by_cases m : i ∈ vs
  · rw [if_pos m, if_pos m]
    by_cases hl : i < ρ.length
    · have hl' : i < ρ'.length := by rw [h.1]; exact hl
      simp [hl, hl']
    · have hl' : ¬ i < ρ'.length := by rw [h.1]; exact hl
      simp [hl, hl']
  · rw [if_neg m, if_neg m]
    exact h.2 i fun q => m (s i q)
theorem wipe_get {σ : St} : ∀ {vs : List Nat} {i : Nat}, (wipe σ vs)[i]? = if i ∈ vs then σ[i]?.map (fun _ => none) else σ[i]?
  | [], i => by simp [wipe]
  | v :: vs, i => by
    unfold wipe
    by_cases e : i = v
    · subst e
      rw [if_pos (List.mem_cons_self)]
      by_cases hl : i < σ.length
      · rw [List.getElem?_set_self (by rw [wipe_length]; exact hl)]
        simp [hl]
      · rw [List.getElem?_eq_none (by simp [wipe_length]; omega)]
        simp [hl]
    · rw [List.getElem?_set_ne (Ne.symm e), wipe_get]
      by_cases m : i ∈ vs
      · rw [if_pos m, if_pos (List.mem_cons_of_mem _ m)]
      · rw [if_neg m, if_neg (by simp [e, m])]
theorem wipe_fr {σ σ' : St} {vs : List Nat} (hl : σ'.length = σ.length) (h : ∀ j, j ∉ vs → σ'[j]? = σ[j]?) : wipe σ' vs = wipe σ vs := by
  refine List.ext_getElem? fun i => ?_
  rw [wipe_get, wipe_get]
  by_cases m : i ∈ vs
  · rw [if_pos m, if_pos m]
    by_cases q : i < σ.length
    · have q' : i < σ'.length := by rw [hl]; exact q
      simp [q, q']
    · have q' : ¬ i < σ'.length := by rw [hl]; exact q
      simp [q, q']
  · rw [if_neg m, if_neg m]; exact h i m
section
variable {K : PySem.W.Frag} {B Z Z' O : Addr → Prop} {H H' : Hp} {σ : St} {ρ : Rho}
theorem Good.wipe (g : Good K B Z H σ ρ) : ∀ vs : List Nat, Good K B Z H (wipe σ vs) (wipeR ρ vs)
  | [] => g
  | v :: vs => (Good.wipe g vs).set (i := v) (r := .emp) (x := none) trivial fun _ ⟨_, e⟩ _ => by cases e
theorem owns_wipe {vs : List Nat} {a : Addr} (h : Owns (wipe σ vs) ρ a) : Owns σ ρ a := by
  obtain ⟨i, d, q⟩ := h
  exact ⟨i, d, (wipe_some q).1⟩
theorem Good.unwipe {vs : List Nat} (g : Good K B Z H (L2.wipe σ vs) ρ) (c : clean vs ρ = true) : Good K B Z H σ ρ := by
  have no : ∀ i ∈ vs, ∀ r, ρ[i]? = some r → r = .emp := fun i m r e => by
    rcases clean_get c m with q | q <;> rw [q] at e <;> cases e
    rfl
  refine ⟨by rw [g.len, wipe_length], g.bz, g.zt, fun i x r e1 e2 => ?_, fun i j a ⟨⟨d, e1⟩, q1⟩ ⟨⟨d', e2⟩, q2⟩ => ?_⟩
  · by_cases m : i ∈ vs
    · rw [no i m r e2]; trivial
    · exact g.sl i x r (by rw [wipe_get, if_neg m]; exact e1) e2
  · have m1 : i ∉ vs := fun m => by cases no i m _ e1
    have m2 : j ∉ vs := fun m => by cases no j m _ e2
    exact g.ap i j a ⟨⟨d, e1⟩, by rw [wipe_get, if_neg m1]; exact q1⟩ ⟨⟨d', e2⟩, by rw [wipe_get, if_neg m2]; exact q2⟩
end

/-! ### a comprehension's turns -/
def cloop {α : Type} (ck : Rho → Prop) [DecidablePred ck] (m : Tg) (ft : M Bool) (fe : M α) (vs : List Nat) : List D → M (List α)
  | [] => fun ρ => if ck ρ then .ok [] ρ else .no
  | d :: ds => fun ρ => if ck ρ then (match m d ρ with
    | none => .no
    | some ρ1 => match ft ρ1 with
      | .ok b ρ2 => if b = true then (match fe ρ2 with
          | .ok y ρ3 => (match cloop ck m ft fe vs ds (wipeR ρ3 vs) with
            | .ok ys ρ4 => .ok (y :: ys) ρ4
            | _ => .no)
          | _ => .no) else cloop ck m ft fe vs ds (wipeR ρ2 vs)
      | _ => .no) else .no
/-- over what is shared -/
def mcompL {α : Type} (fi : M (List D)) (m : Tg) (ft : M Bool) (fe : M α) (vs : List Nat) : M (List α) := mbind fi fun ds ρ => if clean vs ρ = true ∧ ds.length ≤ lineN then cloop (fun _ => True) m ft fe vs ds ρ else .no
/-- over what a name holds alone: it stays as it is meanwhile -/
def mcompO {α : Type} (j : Nat) (m : Tg) (ft : M Bool) (fe : M α) (vs : List Nat) : M (List α) := fun ρ => match ρ[j]? with
  | some (.own (.list ds)) => if clean vs ρ = true ∧ ds.length ≤ lineN then cloop (fun ρ => ρ[j]? = some (.own (.list ds))) m ft fe vs ds ρ else .no
  | _ => .no
section
variable {α : Type} {ck : Rho → Prop} [DecidablePred ck] {m : Tg} {ft : M Bool} {fe : M α} {vs ts : List Nat}
theorem cloop_ck {ds : List D} {ρ ρe : Rho} {ys : List α} (h : cloop ck m ft fe vs ds ρ = .ok ys ρe) : ck ρ := by
  cases ds with
  | nil =>
    unfold cloop at h
    split at h
    · assumption
    · cases h
  | cons d ds =>
    unfold cloop at h
    split at h
    · assumption
    · cases h
theorem cloop_nil {ρ ρe : Rho} {ys : List α} (h : cloop ck m ft fe vs [] ρ = .ok ys ρe) : ys = [] ∧ ρe = ρ := by
  unfold cloop at h
  split at h
  · cases h; exact ⟨rfl, rfl⟩
  · cases h
theorem cloop_cons {d : D} {ds : List D} {ρ ρe : Rho} {ys : List α} (h : cloop ck m ft fe vs (d :: ds) ρ = .ok ys ρe) : ∃ ρ1 b ρ2, m d ρ = some ρ1 ∧ ft ρ1 = .ok b ρ2 ∧
    ((b = true ∧ ∃ y ρ3 ys', fe ρ2 = .ok y ρ3 ∧ cloop ck m ft fe vs ds (wipeR ρ3 vs) = .ok ys' ρe ∧ ys = y :: ys') ∨ (b = false ∧ cloop ck m ft fe vs ds (wipeR ρ2 vs) = .ok ys ρe)) := by
  unfold cloop at h
  split at h
  rotate_left
  · cases h
  split at h
  · cases h
  · rename_i ρ1 e1
    split at h
    · rename_i b ρ2 e2
      refine ⟨ρ1, b, ρ2, e1, e2, ?_⟩
      split at h
      · rename_i hb
        split at h
        · rename_i y ρ3 e3
          split at h
          · rename_i ys' ρ4 e4
            cases h
            exact .inl ⟨hb, y, ρ3, ys', e3, e4, rfl⟩
          · cases h
        · cases h
      · rename_i hb
        exact .inr ⟨by simpa using hb, h⟩
    · cases h
theorem cloop_noX : ∀ {ds : List D} {ρ : Rho}, (∃ ys ρe, cloop ck m ft fe vs ds ρ = .ok ys ρe) ∨ cloop ck m ft fe vs ds ρ = .no
  | [], ρ => by
    unfold cloop
    split
    · exact .inl ⟨_, _, rfl⟩
    · exact .inr rfl
  | d :: ds, ρ => by
    unfold cloop
    split
    rotate_left
    · exact .inr rfl
    split
    · exact .inr rfl
    · split
      · split
        · split
          · rename_i y ρ3 e3
            rcases cloop_noX (ds := ds) (ρ := wipeR ρ3 vs) with ⟨ys, ρe, e⟩ | e
            · rw [e]; exact .inl ⟨_, _, rfl⟩
            · rw [e]; exact .inr rfl
          · exact .inr rfl
        · exact cloop_noX
      · exact .inr rfl
theorem cloop_tags (hm : ∀ d ρ ρ', m d ρ = some ρ' → Fr ts ρ' ρ) (hs : ∀ i ∈ ts, i ∈ vs) (tt : TP ft) (te : TP fe) : ∀ {ds : List D} {ρ ρe : Rho} {ys : List α}, clean vs ρ = true → cloop ck m ft fe vs ds ρ = .ok ys ρe → tags ρe = tags ρ ∧ clean vs ρe = true
  | [], ρ, ρe, ys, c, h => by obtain ⟨_, rfl⟩ := cloop_nil h; exact ⟨rfl, c⟩
  | d :: ds, ρ, ρe, ys, c, h => by
    obtain ⟨ρ1, b, ρ2, e1, e2, h⟩ := cloop_cons h
    have w1 : tags (wipeR ρ1 vs) = tags ρ := by rw [fr_wipe (hm _ _ _ e1) hs, wipeR_clean c]
    have t2 := tt.ok _ _ _ e2
    rcases h with ⟨_, y, ρ3, ys', e3, e4, rfl⟩ | ⟨_, e4⟩
    · have t3 := te.ok _ _ _ e3
      obtain ⟨q, q2⟩ := cloop_tags hm hs tt te clean_wipeR e4
      exact ⟨by rw [q, tags_wipe t3, tags_wipe t2, w1], q2⟩
    · obtain ⟨q, q2⟩ := cloop_tags hm hs tt te clean_wipeR e4
      exact ⟨by rw [q, tags_wipe t2, w1], q2⟩
theorem tp_compO {j : Nat} (hm : ∀ d ρ ρ', m d ρ = some ρ' → Fr ts ρ' ρ) (hs : ∀ i ∈ ts, i ∈ vs) (tt : TP ft) (te : TP fe) : TP (mcompO j m ft fe vs) := by
  refine ⟨fun ρ a ρ' e => ?_, fun ρ c x ρ' e => ?_⟩ <;> unfold mcompO at e <;> split at e
  · split at e
    · rename_i ds q h
      exact (cloop_tags hm hs tt te h.1 e).1
    · cases e
  · cases e
  · split at e
    · rename_i ds q h
      rcases cloop_noX (ck := fun ρ => ρ[j]? = some (.own (.list ds))) (m := m) (ft := ft) (fe := fe) (vs := vs) (ds := ds) (ρ := ρ) with ⟨ys, ρe, q⟩ | q <;> rw [q] at e <;> cases e
    · cases e
  · cases e
theorem tp_compL {fi : M (List D)} (hi : TP fi) (hm : ∀ d ρ ρ', m d ρ = some ρ' → Fr ts ρ' ρ) (hs : ∀ i ∈ ts, i ∈ vs) (tt : TP ft) (te : TP fe) : TP (mcompL fi m ft fe vs) := hi.bind fun ds => by
  refine ⟨fun ρ a ρ' e => ?_, fun ρ c x ρ' e => ?_⟩
  · split at e
    · rename_i h
      exact (cloop_tags hm hs tt te h.1 e).1
    · cases e
  · split at e
    · rcases cloop_noX (ck := fun _ => True) (m := m) (ft := ft) (fe := fe) (vs := vs) (ds := ds) (ρ := ρ) with ⟨ys, ρe, q⟩ | q <;> rw [q] at e <;> cases e
    · cases e
end

/-- what holds between the turns; S, R1 the slots at the beginning -/
structure CI (K : PySem.W.Frag) (vs : List Nat) (B Z1 : Addr → Prop) (H1 : Hp) (S : St) (R1 : Rho) (D : Addr) (Z : Addr → Prop) (H : Hp) (ρ : Rho) : Prop where
  good : Good K B Z H S ρ
  cl : clean vs ρ = true
  tg : tags ρ = tags R1
  step : Step (Owns S R1) Z1 H1 Z H
  lat : Later Z1 H1 Z H
  nz : ¬ Z D
  nw : ¬ Owns S R1 D
theorem comp_turn {X : Cx} {α β : Type} {R : Rl β α} {m : Tg} {ft : M Bool} {fe : M α} {vs ts : List Nat} {B Z1 Z : Addr → Prop} {H1 H : Hp} {σ : St} {R1 ρ ρe : Rho} {Da : Addr} {u : HO} {ck : Rho → Prop} [DecidablePred ck] {ds : List D} {i : Nat} {x : V} {H' : Hp} {ys : List α}
    {N : Hp → Prop} {Y : β → Hp → Prop}
    (hm : ∀ d ρ ρ', m d ρ = some ρ' → Fr ts ρ' ρ) (hs : ∀ i ∈ ts, i ∈ vs) (tt : TP ft) (te : TP fe)
    (w : ∃ d Z2, ds[i]? = some d ∧ Ext Z H Z2 H' ∧ Trk Z2 H' ∧ Rep X.K Z2 H' x d) (c : CI X.K vs B Z1 H1 (wipe σ vs) R1 Da Z H ρ) (hD : H Da = some u) (n0 : H1 Da = none) (hi : i < ds.length) (e : cloop ck m ft fe vs (ds.drop i) ρ = .ok ys ρe)
    (kN : ∀ H3 Z3 ρ3, CI X.K vs B Z1 H1 (wipe σ vs) R1 Da Z3 H3 ρ3 → Later Z H Z3 H3 → H3 Da = some u → cloop ck m ft fe vs (ds.drop (i + 1)) ρ3 = .ok ys ρe → N H3)
    (kY : ∀ σ2 H3 b a H4 Z4 ρ4 ys', CI X.K vs B Z1 H1 (wipe σ vs) R1 Da Z4 H4 (wipeR ρ4 vs) → Later Z H Z4 H4 → H4 Da = some u → R.r σ2 ρ4 H3 Z4 H4 b a → ys = a :: ys' → cloop ck m ft fe vs (ds.drop (i + 1)) (wipeR ρ4 vs) = .ok ys' ρe → Y b H4) :
    LG X ts m x (wipe σ vs) H' fun σ2 H2 => wipe σ2 vs = wipe σ vs ∧ Lf X WN RT ft σ2 H2 fun b H3 => if b = true then Lf X WN R fe σ2 H3 Y else N H3 := by
  obtain ⟨d, Z2, ed, x2, t2, r2⟩ := w
  have edrop : ds.drop i = d :: ds.drop (i + 1) := by
    have h1 : ds[i] = d := Option.some.inj (by rw [← ed]; simp [hi])
    rw [← h1]; exact List.drop_eq_getElem_cons hi
  rw [edrop] at e
  obtain ⟨ρ1, b, ρ2, e1, e2, h⟩ := cloop_cons e
  have G2 := c.good.ext x2 t2
  have ow : ∀ a, Owns (wipe σ vs) ρ a → Owns (wipe σ vs) R1 a := owns_tags c.tg
  have hD2 : H' Da = some u := x2.keep _ _ hD fun q => q
  have nz2 : ¬ Z2 Da := fun z => by
    rcases x2.new _ z with k | k
    · exact c.nz k
    · rw [k] at hD; cases hD
  refine ⟨B, Z2, ρ, d, ρ1, G2, r2, e1, fun σ2 G3 sub n3 o3 => ?_⟩
  have ws : wipe σ2 vs = wipe σ vs := by
    have q : wipe σ2 vs = wipe (wipe σ vs) vs := wipe_fr n3 fun j hj => (o3 j fun z => hj (hs j z)).1
    rw [q]
    refine wipe_fr (wipe_length _ _) fun j hj => ?_
    rw [wipe_get, if_neg hj]
  refine ⟨ws, B, Z2, ρ1, G3, ?_⟩
  have w1 : tags (wipeR ρ1 vs) = tags R1 := by rw [fr_wipe (hm _ _ _ e1) hs, wipeR_clean c.cl, c.tg]
  -- what a step inside keeps
  have after : ∀ {Z3 H3} (s3 : Step (Owns σ2 ρ1) Z2 H' Z3 H3), Step (Owns (wipe σ vs) R1) Z1 H1 Z3 H3 ∧ Later Z1 H1 Z3 H3 ∧ H3 Da = some u ∧ ¬ Z3 Da ∧ Later Z H Z3 H3 := fun {Z3 H3} s3 => by
    refine ⟨(c.step.trans (x2.weak fun _ (q : False) => q.elim) fun _ (q : False) => q.elim).trans s3 fun a q => .inl (ow a (sub.own a q)), (c.lat.ext x2).step s3 G3.mut G3.nz, s3.keep _ _ hD2 fun q => c.nw (ow _ (sub.own _ q)), fun z => ?_, (Later.refl.ext x2).step s3 G3.mut G3.nz⟩
    rcases s3.new _ z with k | k
    · exact nz2 k
    · rw [k] at hD2; cases hD2
  rw [e2]
  intro b' H3 Z3 s3 G4 eb
  have eb : b' = b := eb
  subst eb
  have tg2 := tt.ok _ _ _ e2
  rcases h with ⟨rfl, y', ρ3, ys', e3, e4, rfl⟩ | ⟨rfl, e4⟩
  · rw [if_pos rfl]
    refine ⟨B, Z3, ρ2, G4, ?_⟩
    rw [e3]
    intro bb H4 Z4 s4 G5 r5
    have s5 : Step (Owns σ2 ρ1) Z2 H' Z4 H4 := s3.trans s4 fun a q => .inl (owns_tags tg2 a q)
    obtain ⟨a1, a2, a3, a4, a5⟩ := after s5
    refine kY σ2 H3 bb y' H4 Z4 ρ3 ys' ⟨ws ▸ G5.wipe vs, clean_wipeR, ?_, a1, a2, a4, c.nw⟩ a5 a3 r5 rfl e4
    rw [tags_wipe (te.ok _ _ _ e3), tags_wipe tg2, w1]
  · rw [if_neg Bool.false_ne_true]
    obtain ⟨a1, a2, a3, a4, a5⟩ := after s3
    exact kN H3 Z3 (wipeR ρ2 vs) ⟨ws ▸ G4.wipe vs, clean_wipeR, by rw [tags_wipe tg2, w1], a1, a2, a4, c.nw⟩ a5 a3 e4
end VS

set_option Elab.async false
set_option linter.all false
set_option maxRecDepth 100000
namespace VS
open PySem L2

theorem owns_unwipe {σ : St} {ρ : Rho} {vs : List Nat} {a : Addr} (c : clean vs ρ = true) (h : Owns σ ρ a) : Owns (wipe σ vs) ρ a := by
  obtain ⟨i, ⟨d, e⟩, q⟩ := h
  refine ⟨i, ⟨d, e⟩, ?_⟩
  have m : i ∉ vs := fun m => by
    rcases clean_get c m with k | k <;> rw [k] at e <;> cases e
  rw [wipe_get, if_neg m]; exact q
/-- the state ahead of the first turn -/
theorem CI.start {K : PySem.W.Frag} {vs : List Nat} {B Z1 : Addr → Prop} {H1 : Hp} {σ : St} {ρ : Rho} {Da : Addr} {o : HO} (G : Good K B Z1 H1 σ ρ) (c : clean vs ρ = true) (h : H1 Da = none) : CI K vs B Z1 H1 (wipe σ vs) ρ Da Z1 (upd H1 Da o) ρ := by
  have x : Ext Z1 H1 Z1 (upd H1 Da o) := Ext.upd h Z1 (fun _ h => h) fun _ h => .inl h
  have g := G.wipe vs
  rw [wipeR_clean c] at g
  have f := g.free h
  exact ⟨g.ext x (Trk.ext g.zt x), c, rfl, x.weak fun _ (q : False) => q.elim, Later.refl.ext x, f.1, f.2⟩
/-- the new thing written -/
theorem CI.put {K : PySem.W.Frag} {vs : List Nat} {B Z1 Z : Addr → Prop} {H1 H : Hp} {S : St} {R1 ρ : Rho} {Da : Addr} {o o' : HO} (c : CI K vs B Z1 H1 S R1 Da Z H ρ) (n : H1 Da = none) (e : H Da = some o) (m : Mut (some o)) : CI K vs B Z1 H1 S R1 Da Z (upd H Da o') ρ ∧ Later Z H Z (upd H Da o') := by
  have hz : ∀ b, Z b → ¬ b = Da := fun b zb q => by subst q; exact c.nz zb
  have l := fun {Z1 H1} (l : Later Z1 H1 Z H) => l.step (step_at (Z := Z) (o' := o') e) (mut_at e m) hz
  exact ⟨⟨c.good.updOut e m c.nz fun q => c.nw (owns_tags c.tg _ q), c.cl, c.tg, step_upd c.step n, l c.lat, c.nz, c.nw⟩, l .refl⟩
def mlc (fi : M (List D)) (m : Tg) (ft : M Bool) (fe : M D) (vs : List Nat) : M D := mbind (mcompL fi m ft fe vs) fun ys => mret (.list ys)
def mlcO (j : Nat) (m : Tg) (ft : M Bool) (fe : M D) (vs : List Nat) : M D := mbind (mcompO j m ft fe vs) fun ys => mret (.list ys)
/-- what the turns find -/
structure Wk (K : PySem.W.Frag) (J : It) (ds : List D) (Pr : (Addr → Prop) → Hp → Rho → Prop) : Prop where
  go : ∀ i Z H ρ, Pr Z H ρ → i < ds.length → J.go i H
  yld : ∀ i Z H ρ x H', Pr Z H ρ → i < ds.length → J.yld i H x H' → ∃ d Z', ds[i]? = some d ∧ Ext Z H Z' H' ∧ Trk Z' H' ∧ Rep K Z' H' x d
  stop : ∀ Z H ρ, Pr Z H ρ → J.stop ds.length H
section
variable {X : Cx} {W : WX} {fi : M (List D)} {m : Tg} {ft : M Bool} {fe fk fv : M D} {vs ts : List Nat}
theorem wk_of {J : It} {ds : List D} {ck : Rho → Prop} {B Z1 : Addr → Prop} {H1 : Hp} {S : St} {ρ1 : Rho} {Da : Addr} (w : WalkD X.K J ds Z1 H1) : Wk X.K J ds (fun Z H ρ => CI X.K vs B Z1 H1 S ρ1 Da Z H ρ ∧ ck ρ) :=
  ⟨fun i Z H ρ c hi => w.go i Z H c.1.lat hi, fun i Z H ρ x H' c hi y => w.yld i Z H x H' c.1.lat c.1.good.zt hi y, fun Z H ρ c => w.stop Z H c.1.lat⟩
theorem wk_own {ds : List D} {B Z1 : Addr → Prop} {H1 : Hp} {σ : St} {ρ1 : Rho} {Da a : Addr} {j : Nat} (hj : j ∉ vs) (es : σ[j]? = some (some (.ref a))) : Wk X.K (Itl X.K a) ds (fun Z H ρ => CI X.K vs B Z1 H1 (wipe σ vs) ρ1 Da Z H ρ ∧ ρ[j]? = some (.own (.list ds))) := by
  have cell : ∀ {Z H ρ}, (CI X.K vs B Z1 H1 (wipe σ vs) ρ1 Da Z H ρ ∧ ρ[j]? = some (.own (.list ds))) → ∃ us, H a = some (.lst us) ∧ RepL X.K Z H us ds := fun {Z H ρ} c => by
    obtain ⟨b, e, nz, ⟨us, h, r⟩, _⟩ := c.1.good.own c.2
    rw [wipe_get, if_neg hj, es] at e
    cases e
    exact ⟨us, h, r⟩
  have w := fun (us : List V) => walk_list (K := X.K) (a := a) (xs := us)
  refine ⟨fun i Z H ρ c hi => ?_, fun i Z H ρ x H' c hi y => ?_, fun Z H ρ c => ?_⟩
  · obtain ⟨us, h, r⟩ := cell c
    exact (w us).goes i H (by rw [r.length]; exact hi) (.inl (.inl h))
  · obtain ⟨us, h, r⟩ := cell c
    obtain ⟨rfl, e1⟩ := (w us).yields i H x H' (by rw [r.length]; exact hi) (.inl (.inl h)) y
    obtain ⟨d, e2, r2⟩ := r.get' e1
    exact ⟨d, Z, e2, .refl, c.1.good.zt, r2⟩
  · obtain ⟨us, h, r⟩ := cell c
    rw [← r.length]
    exact (w us).stops H (.inl (.inl h))
theorem lc_core {J : It} {ds : List D} {ck : Rho → Prop} [DecidablePred ck] {B Z1 : Addr → Prop} {H1 : Hp} {σ : St} {ρ1 ρe : Rho} {ys : List D} {Q : VK} {Da : Addr} (hm : ∀ d ρ ρ', m d ρ = some ρ' → Fr ts ρ' ρ) (hs : ∀ i ∈ ts, i ∈ vs) (tt : TP ft) (te : TP fe)
    (G1 : Good X.K B Z1 H1 σ ρ1) (w : Wk X.K J ds (fun Z H ρ => CI X.K vs B Z1 H1 (wipe σ vs) ρ1 Da Z H ρ ∧ ck ρ)) (hcl : clean vs ρ1 = true) (hlen : ds.length ≤ lineN) (e : cloop ck m ft fe vs ds ρ1 = .ok ys ρe) (hDa : H1 Da = none)
    (p1 : ∀ b H' Z', Step (Owns σ ρ1) Z1 H1 Z' H' → Good X.K B Z' H' σ ρe → (RF X).r σ ρe H1 Z' H' b (.list ys) → Q b H') :
    ∃ W : Nat → Nat → Hp → Prop, (∃ m, W 0 m (upd H1 Da (.lst []))) ∧ ∀ i n H, W i n H → (J.stop i H ∧ Q (.ref Da) H) ∨ (J.go i H ∧ ∃ Nx : Hp → Prop, (∀ H', Nx H' → ∃ m', m' < n ∧ W (i + 1) m' H') ∧ ∀ x H', J.yld i H x H' → LG X ts m x (wipe σ vs) H' fun σ2 H2 => wipe σ2 vs = wipe σ vs ∧ Lf X WN RT ft σ2 H2 fun b H3 =>
      if b = true then Lf X WN (RV X) fe σ2 H3 fun y H4 => ∃ acc, H4 Da = some (.lst acc) ∧ acc.length < sizeLine ∧ Nx (upd H4 Da (.lst (acc ++ [y]))) else Nx H3) := by
  refine ⟨fun i n H => n = ds.length - i ∧ i ≤ ds.length ∧ ∃ Z ρ acc as ys', CI X.K vs B Z1 H1 (wipe σ vs) ρ1 Da Z H ρ ∧ H Da = some (.lst acc) ∧ RepL X.K Z H acc as ∧ acc.length ≤ i ∧ cloop ck m ft fe vs (ds.drop i) ρ = .ok ys' ρe ∧ ys = as ++ ys',
    ⟨ds.length, by simp, Nat.zero_le _, Z1, ρ1, [], [], ys, .start G1 hcl hDa, upd_same, .nil, Nat.le_refl _, by simpa using e, rfl⟩, ?_⟩
  rintro i n H ⟨rfl, hi, Z2, ρ2, acc, as, ys', c, hD, rl, ha, e2, rfl⟩
  have ck2 := cloop_ck e2
  by_cases hlt : i < ds.length
  · refine .inr ⟨w.go i Z2 H ρ2 ⟨c, ck2⟩ hlt, fun H => ∃ Z ρ acc bs ys2, CI X.K vs B Z1 H1 (wipe σ vs) ρ1 Da Z H ρ ∧ H Da = some (.lst acc) ∧ RepL X.K Z H acc bs ∧ acc.length ≤ i + 1 ∧ cloop ck m ft fe vs (ds.drop (i + 1)) ρ = .ok ys2 ρe ∧ as ++ ys' = bs ++ ys2,
      fun H' q => ⟨_, by omega, rfl, hlt, q⟩, fun x H' y => ?_⟩
    refine comp_turn (u := .lst acc) hm hs tt te (w.yld i Z2 H ρ2 x H' ⟨c, ck2⟩ hlt y) c hD hDa hlt e2 (fun H3 Z3 ρ3 c3 l3 h3 e3 => ⟨Z3, ρ3, acc, as, ys', c3, h3, rl.later l3, Nat.le_succ_of_le ha, e3, rfl⟩) fun σ2 H3 b a H4 Z4 ρ4 ys2 c4 l4 h4 r4 ey e4 => ?_
    obtain ⟨c5, l5⟩ := c4.put (o' := .lst (acc ++ [b])) hDa h4 trivial
    refine ⟨acc, h4, ?_, Z4, _, acc ++ [b], as ++ [a], ys2, c5, upd_same, ((rl.later l4).append (.cons r4 .nil)).later l5, by simp; omega, e4, by rw [ey, List.append_assoc]; rfl⟩
    rw [← lineN_eq]
    omega
  · have ei : i = ds.length := by omega
    subst ei
    rw [List.drop_length] at e2
    obtain ⟨rfl, rfl⟩ := cloop_nil e2
    refine .inl ⟨w.stop Z2 H ρe ⟨c, ck2⟩, ?_⟩
    rw [List.append_nil] at p1
    have no : ¬ Owns σ ρe Da := fun q => c.nw (owns_tags c.tg _ (owns_unwipe c.cl q))
    exact p1 (.ref Da) H Z2 (c.step.weak fun a q => owns_wipe q) (c.good.unwipe c.cl) ⟨Da, rfl, c.nz, ⟨acc, hD, rl⟩, no, hDa⟩
theorem lc_imp {σ : St} {H : Hp} {Q : VK} (hi : TP fi) (hm : ∀ d ρ ρ', m d ρ = some ρ' → Fr ts ρ' ρ) (hs : ∀ i ∈ ts, i ∈ vs) (tt : TP ft) (te : TP fe) (h : Lf X W (RF X) (mlc fi m ft fe vs) σ H Q) :
    tLc (Lf X W (RW X) fi) (LG X ts m) (Lf X WN RT ft) (Lf X WN (RV X) fe) vs σ H Q := by
  obtain ⟨B, Z, ρ, G, p⟩ := h
  unfold mlc mcompL at p
  rw [mbind_assoc] at p
  refine Post.bind hi G p fun J H1 Z1 ρ1 ds s1 G1 t1 w p1 => fun Da hDa => ?_
  unfold mbind at p1
  dsimp only at p1
  by_cases hc : clean vs ρ1 = true ∧ ds.length ≤ lineN
  · rw [if_pos hc] at p1
    rcases cloop_noX (ck := fun _ => True) (m := m) (ft := ft) (fe := fe) (vs := vs) (ds := ds) (ρ := ρ1) with ⟨ys, ρe, e⟩ | e
    · rw [e] at p1
      exact lc_core hm hs tt te G1 (wk_of w) hc.1 hc.2 e hDa p1
    · rw [e] at p1; exact p1.elim
  · rw [if_neg hc] at p1; exact p1.elim
theorem lcO_imp {σ : St} {H : Hp} {Q : VK} {j : Nat} (hj : j ∉ vs) (hm : ∀ d ρ ρ', m d ρ = some ρ' → Fr ts ρ' ρ) (hs : ∀ i ∈ ts, i ∈ vs) (tt : TP ft) (te : TP fe) (h : Lf X W (RF X) (mlcO j m ft fe vs) σ H Q) :
    tLc (iList X.K (tVar j)) (LG X ts m) (Lf X WN RT ft) (Lf X WN (RV X) fe) vs σ H Q := by
  obtain ⟨B, Z, ρ, G, p⟩ := h
  unfold mlcO mcompO mbind at p
  dsimp only at p
  split at p
  · rename_i ds q
    obtain ⟨a, es, nz, ⟨us, h, r⟩, ow⟩ := G.own q
    refine ⟨.ref a, es, a, rfl, ⟨us, .inl (.inl h)⟩, fun Da hDa => ?_⟩
    by_cases hc : clean vs ρ = true ∧ ds.length ≤ lineN
    · rw [if_pos hc] at p
      rcases cloop_noX (ck := fun ρ => ρ[j]? = some (.own (.list ds))) (m := m) (ft := ft) (fe := fe) (vs := vs) (ds := ds) (ρ := ρ) with ⟨ys, ρe, e⟩ | e
      · rw [e] at p
        exact lc_core hm hs tt te G (wk_own hj es) hc.1 hc.2 e hDa p
      · rw [e] at p; exact p.elim
    · rw [if_neg hc] at p; exact p.elim
  · exact p.elim
theorem tp_lc (hi : TP fi) (hm : ∀ d ρ ρ', m d ρ = some ρ' → Fr ts ρ' ρ) (hs : ∀ i ∈ ts, i ∈ vs) (tt : TP ft) (te : TP fe) : TP (mlc fi m ft fe vs) := (tp_compL hi hm hs tt te).bind fun _ => .ret _
variable {elt tg iter kx vx : Expr} {ifs : List Expr} {scope : Scope} {own : List (Str × Nat)} {pos : Pos}
abbrev BX (X : Cx) (scope : Scope) (s : Shared) (H : Hp) (C : Addr) (cl : List (Str × Addr)) (fp : List Addr) : Cx := X.blk s H scope (compEnvC scope cl C X.env) fp
/-- a range is walked as well -/
theorem ie_ir {f : M (List D)} (h : IR X W tg iter f) : IE X W tg iter f := by
  refine ⟨PI.imp h.pi fun σ H Q ⟨B, Z, ρ, G, p⟩ => ⟨B, Z, ρ, G, ?_⟩, h.tp⟩
  cases e : f ρ with
  | ok ds ρ1 =>
    rw [e] at p
    intro b H' Z' s g w
    have l : ∀ {Z2 H2}, Later Z' H' Z2 H2 → Later (fun _ => False) (fun _ => none) Z2 H2 := fun _ => ⟨fun _ (q : False) => q.elim, fun _ _ (q : False) => q.elim, fun _ _ q => by rcases q with q | ⟨_, q⟩ <;> cases q⟩
    exact p b H' Z' s g ⟨fun i Z H q => w.go i Z H ⟨fun _ (q : False) => q.elim, fun _ _ (q : False) => q.elim, fun _ _ q => by rcases q with q | ⟨_, q⟩ <;> cases q⟩, fun i Z H x H' q => w.yld i Z H x H' ⟨fun _ (q : False) => q.elim, fun _ _ (q : False) => q.elim, fun _ _ q => by rcases q with q | ⟨_, q⟩ <;> cases q⟩, fun Z H q => w.stop Z H ⟨fun _ (q : False) => q.elim, fun _ _ (q : False) => q.elim, fun _ _ q => by rcases q with q | ⟨_, q⟩ <;> cases q⟩⟩
  | exc c fs ρ1 => rw [e] at p; exact p
  | no => rw [e] at p; exact p
/-- .. over what a name holds alone -/
structure LCO (X : Cx) (elt tg : Expr) (j : Nat) (ifs : List Expr) (scope : Scope) (vs : List Nat) (own : List (Str × Nat)) (m : Tg) (ft : M Bool) (fe : M D) (ts : List Nat) : Prop where
  j : j ∉ vs
  ok : BlkOk X.N X.env.scope scope own
  evs : own.map (·.2) = vs
  s : ∀ i ∈ ts, i ∈ vs
  g : ∀ (s : Shared) (H : Hp) (C : Addr) (cl : List (Str × Addr)) (fp : List Addr), GE (BX X scope s H C cl fp) ts tg m
  t : ∀ (s : Shared) (H : Hp) (C : Addr) (cl : List (Str × Addr)) (fp : List Addr), VTs (BX X scope s H C cl fp) WN ifs ft
  e : ∀ (s : Shared) (H : Hp) (C : Addr) (cl : List (Str × Addr)) (fp : List Addr), VE (BX X scope s H C cl fp) WN elt fe
theorem LCO.tp {j : Nat} (c : LCO X elt tg j ifs scope vs own m ft fe ts) : TP (mlcO j m ft fe vs) := (tp_compO (c.g X.s_0 X.H_0 0 [] []).fr c.s (c.t X.s_0 X.H_0 0 [] []).tp (c.e X.s_0 X.H_0 0 [] []).tp).bind fun _ => .ret _
theorem LCO.imp {j : Nat} (c : LCO X elt tg j ifs scope vs own m ft fe ts) {σ : St} {H : Hp} {Q : VK} (h : Lf X W (RF X) (mlcO j m ft fe vs) σ H Q) : tLc (iList X.K (tVar j)) (LG X ts m) (Lf X WN RT ft) (Lf X WN (RV X) fe) vs σ H Q :=
  lcO_imp c.j (c.g X.s_0 X.H_0 0 [] []).fr c.s (c.t X.s_0 X.H_0 0 [] []).tp (c.e X.s_0 X.H_0 0 [] []).tp h
theorem fe_lcO {j : Nat} {x : Str} {p : Pos} (hc : X.calm = true) (hN : X.N.Nodup) (hv : PE X (.Name x p) (tVar j)) (c : LCO X elt tg j ifs scope vs own m ft fe ts) (hs : ∀ x', foldedSetIterable (.Name x p) X.env x' = pure x' := by intro _; rfl) :
    FE X W (.ListComp elt [⟨tg, .Name x p, ifs, 0⟩] scope pos) (mlcO j m ft fe vs) := by
  have q := pe_lc (g := LG X ts m) (tt := Lf X WN RT ft) (te := Lf X WN (RV X) fe) (pos := pos) hc hN (pi_list hv) c.ok (fun s H C cl fp => (c.g s H C cl fp).pg) (fun s H C cl fp => (c.t s H C cl fp).pt) (fun s H C cl fp => (c.e s H C cl fp).pe) hs
  rw [c.evs] at q
  exact ⟨PE.imp q fun σ H Q h => c.imp h, c.tp⟩
/-- what a comprehension with one clause asks -/
structure LC (X : Cx) (W : WX) (elt tg iter : Expr) (ifs : List Expr) (scope : Scope) (vs : List Nat) (own : List (Str × Nat)) (fi : M (List D)) (m : Tg) (ft : M Bool) (fe : M D) (ts : List Nat) : Prop where
  i : IE X W tg iter fi
  ok : BlkOk X.N X.env.scope scope own
  evs : own.map (·.2) = vs
  s : ∀ i ∈ ts, i ∈ vs
  g : ∀ (s : Shared) (H : Hp) (C : Addr) (cl : List (Str × Addr)) (fp : List Addr), GE (BX X scope s H C cl fp) ts tg m
  t : ∀ (s : Shared) (H : Hp) (C : Addr) (cl : List (Str × Addr)) (fp : List Addr), VTs (BX X scope s H C cl fp) WN ifs ft
  e : ∀ (s : Shared) (H : Hp) (C : Addr) (cl : List (Str × Addr)) (fp : List Addr), VE (BX X scope s H C cl fp) WN elt fe
theorem LC.tp (c : LC X W elt tg iter ifs scope vs own fi m ft fe ts) (s : Shared) (H : Hp) : TP (mlc fi m ft fe vs) := tp_lc c.i.tp (c.g s H 0 [] []).fr c.s (c.t s H 0 [] []).tp (c.e s H 0 [] []).tp
theorem fe_lc (hc : X.calm = true) (hN : X.N.Nodup) (c : LC X W elt tg iter ifs scope vs own fi m ft fe ts) (hs : ∀ x, foldedSetIterable iter X.env x = pure x := by intro _; rfl) : FE X W (.ListComp elt [⟨tg, iter, ifs, 0⟩] scope pos) (mlc fi m ft fe vs) := by
  have q := pe_lc (g := LG X ts m) (tt := Lf X WN RT ft) (te := Lf X WN (RV X) fe) (pos := pos) hc hN c.i.pi c.ok (fun s H C cl fp => (c.g s H C cl fp).pg) (fun s H C cl fp => (c.t s H C cl fp).pt) (fun s H C cl fp => (c.e s H C cl fp).pe) hs
  rw [c.evs] at q
  exact ⟨PE.imp q fun σ H Q h => lc_imp c.i.tp (c.g X.s_0 X.H_0 0 [] []).fr c.s (c.t X.s_0 X.H_0 0 [] []).tp (c.e X.s_0 X.H_0 0 [] []).tp h, c.tp X.s_0 X.H_0⟩
/-- the facts of the parts -/
theorem LC.imp (c : LC X W elt tg iter ifs scope vs own fi m ft fe ts) {σ : St} {H : Hp} {Q : VK} (h : Lf X W (RF X) (mlc fi m ft fe vs) σ H Q) : tLc (Lf X W (RW X) fi) (LG X ts m) (Lf X WN RT ft) (Lf X WN (RV X) fe) vs σ H Q :=
  lc_imp c.i.tp (c.g X.s_0 X.H_0 0 [] []).fr c.s (c.t X.s_0 X.H_0 0 [] []).tp (c.e X.s_0 X.H_0 0 [] []).tp h
/-- x = [..] on one line -/
theorem ds_setLc {P : List Nat} {i : Nat} {y : Str} {py spos : Pos} (hc : X.calm = true) (hN : X.N.Nodup) (hy : X.N[i]? = some y) (hyl : X.env.scope.names.lookup y = some .local) (hP : i ∉ P)
    (hsw : swapsWith (.ListComp elt [⟨tg, iter, ifs, 0⟩] scope pos) (some (.Name y py)) spos.line X.env = pure true) (c : LC X W elt tg iter ifs scope vs own fi m ft fe ts) (hs : ∀ x, foldedSetIterable iter X.env x = pure x := by intro _; rfl) :
    DS X W P (.Assign [.Name y py] (.ListComp elt [⟨tg, iter, ifs, 0⟩] scope pos) spos) (ssetF i (mlc fi m ft fe vs)) := by
  have q := ps_setLc (g := LG X ts m) (tt := Lf X WN RT ft) (te := Lf X WN (RV X) fe) hc hN hy hyl hsw c.i.pi c.ok (fun s H C cl fp => (c.g s H C cl fp).pg) (fun s H C cl fp => (c.t s H C cl fp).pt) (fun s H C cl fp => (c.e s H C cl fp).pe) hs
  rw [c.evs] at q
  refine ⟨PS.imp q fun E σ H ⟨B, Z, ρ, G, p⟩ => c.imp (SPost.bind (R := RF X) (c.tp X.s_0 X.H_0) G p fun b H1 Z1 ρ1 a s1 G1 t1 r1 p1 => ?_)⟩
  obtain ⟨q, rfl, z, c, o, n⟩ := r1
  have g := G1.set (i := i) (r := .own a) (x := some (.ref q)) ⟨q, rfl, z, c⟩ fun b _ e => by cases e; exact o
  refine p1 _ H1 Z1 ⟨fun b u e n => s1.keep b u e fun k => n (owns_loc k), fun b z => (s1.new b z).imp_right .inl, fun b h => ?_, s1.there, pin_set hP⟩ g
  rcases loc_set h with h | ⟨_, h⟩
  · exact .inl (loc_tags t1 h)
  · cases h; exact .inr n
end
end VS

set_option Elab.async false
set_option linter.all false
set_option maxRecDepth 100000
namespace VS
open PySem PySem.Spec PyProof.Rows L2

/-! ### defs whose callers stand in no repr -/
/-- as FnOk, where nothing guards -/
structure FnG (Pr : Program) (w : World) (K : PySem.W.Frag) (mg : Str → Option Value) (base : Heap) (k : Nat) (f : Addr) (fd : FuncData) (ps : List Str) (sp : Sp) : Prop where
  len : ∀ vs H Q E, sp vs H Q E → vs.length = ps.length
  run : ∀ (A : Around) (out : List Env) (s : Shared) (H : Hp) (args : Args) (us : List Value) (vs : List V) (Q : VK) (E : XK), A.guards = some [] → Room k A → Env0 Pr w K mg base A out s H →
    BindsTo s fd args (ps.zip us) → Vals vs us → sp vs H Q E → codeAny (model Pr w) A (.call (.ref f) args) (CR (L2.CX Pr w) out Pr w H s Q E) s
theorem FnG.mono {Pr : Program} {w : World} {K : PySem.W.Frag} {mg : Str → Option Value} {base : Heap} {j k : Nat} {f : Addr} {fd : FuncData} {ps : List Str} {sp : Sp} (F : FnG Pr w K mg base j f fd ps sp) (h : j ≤ k) : FnG Pr w K mg base k f fd ps sp :=
  ⟨F.len, fun A out s H args us vs Q E hg hr => F.run A out s H args us vs Q E hg (hr.mono h)⟩
section
variable {Pr : Program} {w : World} {K : PySem.W.Frag} {mg : Str → Option Value} {base : Heap}
theorem fun_okG {x qual : Str} {st : Stmt} {f : Addr} {fd : FuncData} {N ps : List Str} {k : Nat} {sp : Sp} (F : Fun K x qual st f fd) (S : FnScope N ps (defScope st)) (len : ∀ vs H Q E, sp vs H Q E → vs.length = ps.length)
    (body : ∀ (cdv : Value) (A : Around) (out : List Env) (s : Shared) (H : Hp) (vs : List V) (Q : VK) (E : XK), A.guards = some [] → Room k (A.deeper (envOfC qual (defScope st) s.heap.objs.size f cdv)) → sp vs H Q E →
      ∃ t, PSs (cxOf (L2.CX Pr w) Pr w K mg base N qual (defScope st) f cdv A out s H E) (defBody st) t ∧ t { nx := fun _ H' => Q .non H', rt := Q } (L2.start N vs) H) : FnG Pr w K mg base (k + 1) f fd ps sp := by
  obtain ⟨_, _, _, _, _, _, cdv, _, _, rfl, hlook, hcode⟩ := F.ex
  refine ⟨len, fun A out s H args us vs Q E hg hr he hbind hval hs => ?_⟩
  have hin : K.In s.heap := he.mod.kin.keeps fun b o q => (he.bs b o q).1
  have hnl : s.heap.NoLimit := he.mod.nolimit.keeps fun b o q => (he.bs b o q).1
  refine codeAny_call_function hr.depth (hin _ _ hlook) rfl S.co S.gen rfl (PySem.W.codeRec_of hin hcode) (hbind _ _ _ _ ?_)
  refine wpAny_newFunctionEnv_cells S.kind (fun ⟨n, _⟩ hy => (S.par n (List.of_mem_zip hy).1).imp_right fun q => ⟨q, PySem.W.cellsFrom_some _ _ _ (.inl q)⟩) fun env hEnv s1 x => ?_
  subst hEnv
  refine ⟨hnl.keeps x.toInCall.keep, codeAny_func ?_⟩
  obtain ⟨t, ht, hq⟩ := body cdv A out s H vs Q E hg (hr.deeper _) hs
  refine wpAny_mono (ht.run [] s1 (L2.start N vs) H _ (inv_start S hr.hd he (len _ _ _ _ hs) hval x) hq) (fun fl s' hf => ?_) fun _ _ hf => hf
  cases fl with
  | brk => exact hf.choose_spec.choose_spec.2.elim
  | cont => exact hf.choose_spec.choose_spec.2.elim
  | next =>
    obtain ⟨_, H', J, q⟩ := hf
    exact ⟨.non, H', J.os, J.bare, J.base, J.hok, rfl, q⟩
  | ret u =>
    obtain ⟨v, _, H', J, rv, q⟩ := hf
    exact ⟨v, H', J.os, J.bare, J.base, J.hok, rv, q⟩
end
section
variable {X : Cx} {k : Nat} {f : Addr} {fd : FuncData} {ps : List Str} {sp : Sp} {x : Str} {p pos : Pos} {e : Expr} {es : List Expr} {t : TA} {W : WX}
theorem run_fnG {pins : List (Addr × Obj)} {σ : L2.St} {H : Hp} {s : Shared} {Q : VK} {us : List Value} {vs : List V} (F : FnG X.prog X.w X.K X.mg X.base k f fd ps sp) (hg : X.A.guards = some []) (hr : Room k X.A) (hb : Binds X.K fd ps []) (tk : Takes X W)
    (I : Inv X pins σ H s) (r : Vals vs us) (h : sp vs H Q (WE W σ)) : wpAny (model X.prog X.w) X.A (call (.ref f) us) (EP X pins σ Q) X.xe s := by
  have bd : BindsTo s fd ⟨us, []⟩ (ps.zip us) := by
    have q := hb s us I.kIn (by rw [List.append_nil, ← r.length]; exact F.len _ _ _ _ h)
    rwa [List.append_nil] at q
  refine wpAny_call (codeAny_mono (F.run X.A X.stack s H _ us vs Q _ hg hr I.env0 bd r h) fun res s' hq => ?_)
  match res, hq with
  | .error e, hq => exact passAt tk σ pins H s e s' I hq
  | .ok (.ret u), hq => exact I.after hq
  | .ok .next, hq => exact hq.elim
  | .ok .brk, hq => exact hq.elim
  | .ok .cont, hq => exact hq.elim
theorem pe_callG (F : FnG X.prog X.w X.K X.mg X.base k f fd ps sp) (gd : X.A.guards = some []) (hr : Room k X.A) (hg : Gl X x) (hm : X.mg x = some (.ref f)) (hk : PySem.W.keepIn X.K (.ref f) = true) (hb : Binds X.K fd ps []) (tk : Takes X W) (ha : PA X (e :: es) t)
    (hdb : (x == ("__debug__" : Str)) = false := by decide) (he : starEach (e :: es) X.env = (false, eval e X.env) :: starEach es X.env := by rfl) (hpl : (backTo pos (starEach es X.env)).any (·.1) = false := by rfl) :
    PE X (.Call (.Name x p) (e :: es) [] pos) (tCallS sp (WE W) t) :=
  ⟨fun pins s σ H Q I h => wpAny_Call_Name_kw (ld_glob I hg hm (PySem.W.callWith_K (h₀ := X.base) I.ok.mod.kin hk (thn (ha.run pos pins s σ H _ I h) fun _ _ ⟨_, _, I1, r, q⟩ => ⟨I1.kIn, run_fnG F gd hr hb tk I1 r q⟩) he hpl) hdb)⟩
theorem pe_callG0 (F : FnG X.prog X.w X.K X.mg X.base k f fd ps sp) (gd : X.A.guards = some []) (hr : Room k X.A) (hg : Gl X x) (hm : X.mg x = some (.ref f)) (hk : PySem.W.keepIn X.K (.ref f) = true) (hb : Binds X.K fd ps []) (tk : Takes X W)
    (hdb : (x == ("__debug__" : Str)) = false := by decide) : PE X (.Call (.Name x p) [] [] pos) (tCallS sp (WE W) tNil) :=
  ⟨fun pins s σ H Q I h => wpAny_Call_Name_kw (ld_glob I hg hm (PySem.W.callWith_K0 I.kIn hk (run_fnG (us := []) F gd hr hb tk I .nil h)) hdb)⟩
end
end VS

set_option Elab.async false
set_option linter.all false
set_option maxRecDepth 100000
namespace VS
open PySem L2

section
variable {X : Cx} {pins : List (Addr × Obj)} {σ : St} {H : Hp} {s : Shared} {Z : Addr → Prop}
theorem reads_key {k : Key} {v : Value} (h : keyIs k v = true) : Reads s.heap v (kD k) [] := by
  rcases keyIs_shape h with ⟨i, t, rfl, rfl⟩ | ⟨x, t, rfl, rfl⟩
  · exact Reads.int _ _
  · exact Reads.str _ _
abbrev Tk (H : Hp) (as : List Addr) : Prop := ∀ a ∈ as, ∃ o, H a = some o
theorem pairs_keys {knd : KeyKind X.prog X.w Key} (hk : ∀ k v, knd.is k v = true → keyIs k v = true) {es : List DictEntry} {vs : List (Key × Value)} (p : Pairs knd es vs) : ∀ {kv : List (Key × V)} {ds : List (D × D)}, KV kv vs → RepD X.K Z H kv ds → ReadsAll s.heap (es.map (·.key)) (ds.map (·.1)) [] := by
  induction p with
  | nil => intro kv ds a b; cases a; cases b; exact ReadsAll.nil
  | cons h1 h2 t ih =>
    intro kv ds a b
    cases a with
    | cons h3 t3 =>
      cases b with
      | cons r t4 =>
        have e3 := h3.1
        dsimp only at e3
        subst e3
        exact ReadsAll.cons (as := []) (bs := []) (reads_key (hk _ _ h1)) (ih t3 t4)
mutual
theorem rep_reads (I : Inv X pins σ H s) : ∀ {d : D} {v : V} {u : Value}, Rep X.K Z H v d → RelV v u → ∃ as, Reads s.heap u d as ∧ Tk H as
  | _, _, _, .non, r => by cases r; exact ⟨_, Reads.none, fun _ h => by cases h⟩
  | _, _, _, .bl b, r => by cases r; exact ⟨_, Reads.bool b, fun _ h => by cases h⟩
  | _, _, _, .int i, r => by obtain ⟨t, rfl⟩ := r; exact ⟨_, Reads.int i t, fun _ h => by cases h⟩
  | _, _, _, .str x, r => by obtain ⟨t, rfl⟩ := r; exact ⟨_, Reads.str x t, fun _ h => by cases h⟩
  | _, _, _, .tup hs ha, r => by
    cases r
    obtain ⟨its, rv, ⟨o, ho, hc, n, hd⟩, _⟩ := I.tuple hs
    obtain ⟨as, hr, ht⟩ := rep_readsL I ha rv
    exact ⟨_, Reads.tuple ho hc hd hr, ht⟩
  | _, _, _, .lst z h ha, r => by
    cases r
    obtain ⟨its, n, rv, e, _⟩ := I.lst h
    obtain ⟨as, hr, ht⟩ := rep_readsL I ha rv
    refine ⟨_, Reads.list e rfl rfl hr, fun a m => ?_⟩
    rcases List.mem_cons.mp m with rfl | m
    · exact ⟨_, h⟩
    · exact ht a m
  | _, _, _, .dic z h ha, r => by
    cases r
    obtain ⟨_, h1, vs, kvr, o, es, ep, ho, ⟨hc, _, _⟩, hd, _, pr, _⟩ := (show Rd H _ _ from .inr ⟨_, h⟩).ok I.hok
    have hk := pairs_keys (X := X) (s := s) (Z := Z) (H := H) (fun _ _ h => h) pr kvr ha
    obtain ⟨as, hr, ht⟩ := rep_readsD I ha kvr pr
    refine ⟨_, Reads.dict ho hc hd hk hr, fun a m => ?_⟩
    simp only [List.append_nil, List.cons_append, List.nil_append] at m
    rcases List.mem_cons.mp m with rfl | m
    · exact ⟨_, h⟩
    · exact ht a m
theorem rep_readsL (I : Inv X pins σ H s) : ∀ {ds : List D} {vs : List V} {us : List Value}, RepL X.K Z H vs ds → Vals vs us → ∃ as, ReadsAll s.heap us ds as ∧ Tk H as
  | _, _, _, .nil, r => by cases r; exact ⟨_, ReadsAll.nil, fun _ h => by cases h⟩
  | _, _, _, .cons h1 h2, r => by
    cases r with
    | cons r1 r2 =>
      obtain ⟨as, q1, t1⟩ := rep_reads I h1 r1
      obtain ⟨bs, q2, t2⟩ := rep_readsL I h2 r2
      exact ⟨_, ReadsAll.cons q1 q2, fun a m => (List.mem_append.mp m).elim (t1 a) (t2 a)⟩
theorem rep_readsD (I : Inv X pins σ H s) : ∀ {ds : List (D × D)} {kv : List (Key × V)} {vs : List (Key × Value)} {es : List DictEntry}, RepD X.K Z H kv ds → KV kv vs → Pairs (mixKind X.prog X.w) es vs → ∃ as, ReadsAll s.heap (es.map (·.val)) (ds.map (·.2)) as ∧ Tk H as
  | _, _, _, _, .nil, r, p => by cases r; cases p; exact ⟨_, ReadsAll.nil, fun _ h => by cases h⟩
  | _, _, _, _, .cons h1 h2, r, p => by
    cases r with
    | cons r1 r2 =>
      cases p with
      | cons p1 p2 p3 =>
        obtain ⟨as, q1, t1⟩ := rep_reads I h1 (p2 ▸ r1.2)
        obtain ⟨bs, q2, t2⟩ := rep_readsD I h2 r2 p3
        exact ⟨_, ReadsAll.cons q1 q2, fun a m => (List.mem_append.mp m).elim (t1 a) (t2 a)⟩
end
theorem repB_reads (I : Inv X pins σ H s) {d : D} {v : V} {u : Value} (r : RepB X.K Z H v d) (rv : RelV v u) : ∃ as, Reads s.heap u d as ∧ Tk H as := by
  rcases r with r | ⟨a, rfl, c⟩
  · exact rep_reads I r rv
  · cases rv
    cases d with
    | list ds =>
      obtain ⟨vs, h, ha⟩ := c
      obtain ⟨its, n, rv, e, _⟩ := I.lst h
      obtain ⟨as, hr, ht⟩ := rep_readsL I ha rv
      refine ⟨_, Reads.list e rfl rfl hr, fun b m => ?_⟩
      rcases List.mem_cons.mp m with rfl | m
      · exact ⟨_, h⟩
      · exact ht b m
    | dict ds =>
      obtain ⟨kv, h, ha⟩ := c
      obtain ⟨_, h1, vs, kvr, o, es, ep, ho, ⟨hc, _, _⟩, hd, _, pr, _⟩ := (show Rd H _ _ from .inl h).ok I.hok
      have hk := pairs_keys (X := X) (s := s) (Z := Z) (H := H) (fun _ _ h => h) pr kvr ha
      obtain ⟨as, hr, ht⟩ := rep_readsD I ha kvr pr
      refine ⟨_, Reads.dict ho hc hd hk hr, fun b m => ?_⟩
      simp only [List.append_nil, List.cons_append, List.nil_append] at m
      rcases List.mem_cons.mp m with rfl | m
      · exact ⟨_, h⟩
      · exact ht b m
    | _ => exact c.elim
end
/-! ### repr -/
def rRepr (K : PySem.W.Frag) : List V → Hp → VK → Prop := fun xs H Q => ∃ Z x d, xs = [x] ∧ RepB K Z H x d ∧ d.showable = true ∧ d.depth ≤ 50 ∧ d.shown.length ≤ 16777216 ∧ Q (.str d.shown) H
def gRepr : List D → Option D
  | [d] => if d.showable = true ∧ d.depth ≤ 50 ∧ d.shown.length ≤ 16777216 then some (.str d.shown) else none
  | _ => none
theorem ca_repr {K : PySem.W.Frag} : CaD K (rRepr K) gRepr := by
  intro Z H vs ds d Q r t e k
  unfold gRepr at e
  split at e
  · split at e
    · rename_i h
      cases e
      obtain ⟨v, rfl, r1⟩ := bs1 r
      exact ⟨Z, v, _, rfl, r1, h.1, h.2.1, h.2.2, k _ H Z .refl t (.str _)⟩
    · cases e
  · cases e
theorem call_reprA {X : Cx} (hg : X.A.guards = some []) (hu : X.A.units + 60 < cLine) (hb : ∃ o, X.base.get? sysModules = some o) : CallR X (.builtin "repr") (rRepr X.K) := by
  intro pins s σ H xs us Q I r h
  obtain ⟨Z, x, d, rfl, rb, hs, hd, hl, q⟩ := h
  have hl' : d.shown.length ≤ sizeLine := by rw [sizeLine_eq]; exact hl
  obtain ⟨u, rfl, r1⟩ := vals1 r
  have isRef : ∀ a, x = .ref a → wpAny (model X.prog X.w) X.A (call (.builtin "repr") [u]) (EP X pins σ Q) X.xe s := fun a e => by
    subst e
    obtain ⟨as, hr, ht⟩ := repB_reads I rb r1
    cases r1
    refine repr_of_reads' hr hs (fun _ m => ?_) hg (by omega) (fun _ _ e => e) (fun h' u tk hk => ⟨.str d.shown, H, I.kept (t' := tk) hk, ⟨u, rfl⟩, q⟩) hl'
    obtain ⟨o, e⟩ := hb
    obtain ⟨o', e'⟩ := ht _ m
    rw [(I.bs _ _ e).2] at e'
    cases e'
  rcases rb with rb | ⟨a, rfl, c⟩
  · cases rb with
    | non =>
      cases r1
      exact PySem.P.repr_of_none ⟨.str _, H, I.tok _, ⟨_, rfl⟩, q⟩
    | bl b =>
      cases r1
      exact PySem.P.repr_of_bool ⟨.str _, H, I.tok _, ⟨_, rfl⟩, q⟩
    | int i =>
      obtain ⟨t, rfl⟩ := r1
      exact PySem.P.repr_of_int (by simpa [PyData.showable] using hs) ⟨.str _, H, I.tok _, ⟨_, rfl⟩, q⟩
    | str z =>
      obtain ⟨t, rfl⟩ := r1
      exact PySem.P.repr_of_str ⟨.str _, H, I.tok _, ⟨_, rfl⟩, q⟩ hl'
    | tup h1 h2 => exact isRef _ rfl
    | lst z h1 h2 => exact isRef _ rfl
    | dic z h1 h2 => exact isRef _ rfl
  · exact isRef _ rfl
end VS

set_option Elab.async false
set_option linter.all false
set_option maxRecDepth 100000
namespace VS
open PySem PySem.Spec PyProof.Rows L2

/-- the law's call, from what its def promises where nothing guards -/
theorem law_G {Pr : Program} {w : World} {K : PySem.W.Frag} {mg mb : Str → Option Value} {k : Nat} {fa a : Addr} {fd : FuncData} {x : Str} {sp : Sp} {s1 : Shared} {vs : List Value} {ns : List Int}
    (kin : K.In s1.heap) (nsg : s1.heap.Ns mainGlobals mg) (nsb : s1.heap.Ns builtinsNs mb) (hbb : ∀ x : Str, x ≠ "__name__" → mb x = bootBuiltins x) (nol : s1.heap.NoLimit) (see : s1.heap.NoSeer) (gens : s1.gens = #[])
    (obj : s1.heap.get? a = some { cls := .type "list", data := .seq vs.toArray }) (hin : IntsAre vs ns) (few : ns.length ≤ sizeLine) (room : Room k callerA)
    (F : ∀ base : Heap, K.In base → base.Ns mainGlobals mg → (∃ o, base.get? sysModules = some o) → FnG Pr w K mg base k fa fd [x] sp) (bind : ∀ (s : Shared) (u : Value), BindsTo s fd ⟨[u], []⟩ [(x, u)])
    (prom : ∀ H : Hp, Only H → SqL K H a (ns.map V.int) → sp [.ref a] H (fun v _ => v = .bl true) fun _ _ _ => False) :
    codeAny (model Pr w) callerA (.call (.ref fa) ⟨[.ref a], []⟩) (fun r s' => r = .ok (.ret (.bool true)) ∧ OldK s1.heap s'.heap ∧ s'.os = s1.os ∧ AllBare s'.gens) s1 := by
  have vals := vals_ints hin
  have core : ∀ H : Hp, Only H → SqL K H a (ns.map V.int) → HOk Pr w H s1.heap → (∀ b, H b ≠ none → b = a) → (H a ≠ none → K.lookup a = none) →
      codeAny (model Pr w) callerA (.call (.ref fa) ⟨[.ref a], []⟩) (fun r s' => r = .ok (.ret (.bool true)) ∧ OldK s1.heap s'.heap ∧ s'.os = s1.os ∧ AllBare s'.gens) s1 := by
    intro H only sq hok onlyA apart
    -- what is no list is not tracked
    have untr : ∀ {b : Addr} {o : Obj}, s1.heap.get? b = some o → (∀ u n, o.data ≠ .seq u n) → H b = none := fun {b o} e nd => by
      refine Classical.byContradiction fun z => ?_
      rw [onlyA b z, obj] at e
      cases e
      exact nd _ _ rfl
    have dictN : ∀ {b : Addr} {m : Str → Option Value}, s1.heap.Ns b m → (hidT s1.heap H).Ns b m := fun {b m} ⟨o, es, ep, e, d, r⟩ =>
      ⟨o, es, ep, hidT_get e (untr e fun u n q => by rw [d] at q; cases q), d, r⟩
    have kinB : K.In (hidT s1.heap H) := fun b o e => hidT_get (kin b o e) (Classical.byContradiction fun z => by
      have q := onlyA b z
      subst q
      rw [apart z] at e; cases e)
    have sysB : ∃ o, (hidT s1.heap H).get? sysModules = some o := by
      obtain ⟨mm, ⟨o, es, ep, e, d, r⟩, _⟩ := see.mods
      exact ⟨o, hidT_get e (untr e fun u n q => by rw [d] at q; cases q)⟩
    have e0 : Env0 Pr w K mg (hidT s1.heap H) callerA [] s1 H := by
      refine ⟨rfl, ⟨kinB, dictN nsg, ⟨mb, dictN nsb, hbb⟩, ?_⟩, fun b o e => of_hidT e, Nat.le_of_eq (hidT_size _ _), trivial, fun b m => (List.not_mem_nil m).elim, hok, .of_eq gens⟩
      obtain ⟨mc, h1, h2⟩ := nol
      exact ⟨mc, dictN h1, h2⟩
    have ran := (F _ kinB (dictN nsg) sysB).run callerA [] s1 H ⟨[.ref a], []⟩ [.ref a] [.ref a] _ _ rfl room e0 (bind s1 (.ref a)) (.cons rfl .nil) (prom H only sq)
    refine codeAny_mono ran fun res s' h => ?_
    match res, h with
    | .error e, h =>
      obtain ⟨_, _, _, _, _, _, _, _, _, _, _, _, z⟩ := h
      exact z.elim
    | .ok .next, h => exact h.elim
    | .ok .brk, h => exact h.elim
    | .ok .cont, h => exact h.elim
    | .ok (.ret u), h =>
      obtain ⟨v, H2, os, bare, un, hok2, rv, q⟩ := h
      have q : v = .bl true := q
      subst q
      have eu : u = Value.bool true := rv
      subst eu
      refine ⟨rfl, OldK.of_keep fun b o e => ?_, os, bare⟩
      rcases only b with z | ⟨ob, xs, z⟩
      · exact un.keep b o e z (fun m => (List.not_mem_nil m).elim) List.not_mem_nil
      · have g1 := (hok b _ z).1
        have g2 := (hok2 b _ (un.frzs b ob _ z)).1
        rw [e] at g1
        cases g1
        exact g2
  cases hk : K.lookup a with
  | none =>
    let o : Obj := { cls := .type "list", data := .seq vs.toArray }
    refine core (fun b => if b = a then some (.frz o (.lst (ns.map V.int))) else none) (fun b => ?_) (.inl (.inr ⟨o, if_pos rfl⟩)) (fun b u z => ?_) (fun b z => Classical.byContradiction fun n => z (if_neg n)) fun _ => hk
    · by_cases e : b = a
      · exact .inr ⟨o, _, if_pos e⟩
      · exact .inl (if_neg e)
    · by_cases e : b = a
      · subst e
        have z' := (if_pos rfl).symm.trans z
        cases z'
        exact ⟨obj, by rw [List.length_map]; exact few, vs, _, vals, obj⟩
      · have z' := (if_neg e).symm.trans z
        cases z'
  | some o =>
    have e := kin a o hk
    rw [obj] at e
    cases e
    have lv := hin.length
    refine core (fun _ => none) (fun _ => .inl rfl) (.inr ⟨_, vs.toArray, _, hk, rfl, rfl, rfl, ?_, by simpa using vals⟩) (fun b u z => nomatch (show (none : Option HO) = some u from z)) (fun b z => (z rfl).elim) fun z => (z rfl).elim
    rw [List.size_toArray, lv]
    exact few
/-- the goal that k_head leaves -/
theorem walk_G {l : PySem.W.OpenLaw} {n k : Nat} {q : Program} {loose : List Str} {XP : (Str → Option Value) → Heap → Prop} {YP : World → Heap → Prop} {d : DefRec} {K : Params → PySem.W.Frag} {sp : World → Sp} {x : Str}
    (hn : l.most = some n) (hn2 : n ≤ sizeLine) (hdf : d.params.defaults = []) (hr : Room k callerA) (hi : importsNone q = true)
    (hY : ∀ (w : World) (h : Heap), YP w h → (K w.params).In h)
    (F : ∀ (w : World) (mg : Str → Option Value) (fa : Addr) (h : Heap), (K w.params).In h → h.Ns mainGlobals mg → mg d.name = some (.ref fa) →
      ∃ fd : FuncData, (∀ (s : Shared) (u : Value), BindsTo s fd ⟨[u], []⟩ [(x, u)]) ∧
        ∀ base : Heap, (K w.params).In base → base.Ns mainGlobals mg → (∃ o, base.get? sysModules = some o) → FnG l.prog w (K w.params) mg base k fa fd [x] (sp w))
    (prom : ∀ (w : World) (H : Hp) (a : Addr) (ns : List Int), ns.length ≤ n → (∀ z ∈ ns, Builtin.Int.intBits z ≤ 1048576) → Only H → SqL (K w.params) H a (ns.map V.int) → sp w [.ref a] H (fun v _ => v = .bl true) fun _ _ _ => False) :
    PySem.W.WalkO q loose XP YP l.row.toRowW d [] (fun f vs => PySem.call f vs) := by
  refine Att.attach_callB hn hdf fun w _ s1 mg mb fa _ _ _ _ a vs ns G Y _ _ _ hmg hobj hints hlen hbits hg => ?_
  obtain ⟨fd, hb, hF⟩ := F w mg fa _ (hY w _ Y) G.T.g hmg
  exact law_G (hY w _ Y) G.T.g G.T.b G.T.builtins G.T.nolimit (G.T.seer hi) hg hobj hints (Nat.le_trans hlen hn2) hr hF hb fun H hO hS => prom w H a ns hlen hbits hO hS
end VS

set_option Elab.async false
set_option linter.all false
set_option maxRecDepth 100000
namespace VS
open PySem L2

/-! ### what a def is, by values -/
inductive Ar where
  | v (d : D) | o (d : D) | s (ns : List Int)
inductive FR where
  | ret (r : Rt) (outs : List D) | exc (c : Str) (fs : List (Str × D)) (outs : List D) | no
abbrev Fn := List Ar → FR
def Ar.sl : Ar → Sl
  | .v d => .val d
  | .o d => .own d
  | .s ns => .scr ns
def outsOf : List Ar → Rho → Option (List D)
  | [], _ => some []
  | .v _ :: as, _ :: ρ => outsOf as ρ
  | .o _ :: as, .own d :: ρ => (outsOf as ρ).map (d :: ·)
  | .s _ :: as, _ :: ρ => outsOf as ρ
  | _, _ => none
def okArs (P : List Nat) (ars : List Ar) : Prop := ∀ i d, ars[i]? = some (.o d) → i ∈ P
def okArsB (P : List Nat) : Nat → List Ar → Bool
  | _, [] => true
  | i, .v _ :: as => okArsB P (i + 1) as
  | i, .o _ :: as => P.contains i && okArsB P (i + 1) as
  | i, .s _ :: as => okArsB P (i + 1) as
def fret (ars : List Ar) (ρ : Rho) (k : List D → FR) : FR := match outsOf ars ρ with
  | some outs => k outs
  | none => .no
def mkF (P : List Nat) (np n : Nat) (t : SM) : Fn := fun ars => if ars.length = np ∧ okArsB P 0 ars = true then (match t (ars.map Ar.sl ++ List.replicate (n - np) .emp) with
    | .next ρ => fret ars ρ (.ret (.val .none))
    | .ret r ρ => fret ars ρ (.ret r)
    | .exc c fs ρ => fret ars ρ (.exc c fs)
    | _ => .no) else .no
theorem okArsB_ok {P : List Nat} : ∀ {ars : List Ar} {k : Nat}, okArsB P k ars = true → ∀ i d, ars[i]? = some (.o d) → k + i ∈ P
  | [], _, _, i, d, e => by simp at e
  | .v _ :: as, k, h, 0, d, e => by simp at e
  | .v _ :: as, k, h, i + 1, d, e => by
    unfold okArsB at h
    have := okArsB_ok h i d (by simpa using e)
    rw [show k + (i + 1) = k + 1 + i by omega]; exact this
  | .s _ :: as, k, h, 0, d, e => by simp at e
  | .s _ :: as, k, h, i + 1, d, e => by
    unfold okArsB at h
    have := okArsB_ok h i d (by simpa using e)
    rw [show k + (i + 1) = k + 1 + i by omega]; exact this
  | .o _ :: as, k, h, 0, d, e => by
    unfold okArsB at h
    rw [Bool.and_eq_true] at h
    simpa using h.1
  | .o _ :: as, k, h, i + 1, d, e => by
    unfold okArsB at h
    rw [Bool.and_eq_true] at h
    have := okArsB_ok h.2 i d (by simpa using e)
    rw [show k + (i + 1) = k + 1 + i by omega]; exact this

def ArgOk (K : PySem.W.Frag) (Z : Addr → Prop) (H : Hp) (v : V) : Ar → Prop
  | .v d => Rep K Z H v d
  | .o d => ∃ a, v = .ref a ∧ ¬ Z a ∧ Cell K Z H a d
  | .s ns => ∃ a, v = .ref a ∧ ScrAt K Z H a (ns.map V.int)
abbrev ArgsOk (K : PySem.W.Frag) (Z : Addr → Prop) (H : Hp) (vs : List V) (ars : List Ar) : Prop := PySem.Paired (ArgOk K Z H) vs ars
def OwnA (vs : List V) (ars : List Ar) (a : Addr) : Prop := ∃ (i : Nat) (d : D), ars[i]? = some (.o d) ∧ vs[i]? = some (.ref a)
def Dist (vs : List V) (ars : List Ar) : Prop := ∀ (i j : Nat) (d e : D) (a : Addr), ars[i]? = some (.o d) → ars[j]? = some (.o e) → vs[i]? = some (.ref a) → vs[j]? = some (.ref a) → i = j
inductive OutsOk (K : PySem.W.Frag) (Z : Addr → Prop) (H : Hp) : List V → List Ar → List D → Prop
  | nil : OutsOk K Z H [] [] []
  | v {v : V} {d : D} {vs : List V} {as : List Ar} {ds : List D} : OutsOk K Z H vs as ds → OutsOk K Z H (v :: vs) (.v d :: as) ds
  | s {v : V} {ns : List Int} {vs : List V} {as : List Ar} {ds : List D} : OutsOk K Z H vs as ds → OutsOk K Z H (v :: vs) (.s ns :: as) ds
  | o {a : Addr} {d d' : D} {vs : List V} {as : List Ar} {ds : List D} : ¬ Z a → Cell K Z H a d' → OutsOk K Z H vs as ds → OutsOk K Z H (.ref a :: vs) (.o d :: as) (d' :: ds)
def RetOk (K : PySem.W.Frag) (H : Hp) (O Z' : Addr → Prop) (H' : Hp) (v : V) : Rt → Prop
  | .val d => Rep K Z' H' v d
  | .own d => ∃ a, v = .ref a ∧ ¬ Z' a ∧ Cell K Z' H' a d ∧ ¬ O a ∧ H a = none
/-- THE PROMISE of a def -/
def spV (K : PySem.W.Frag) (mg : Str → Option Value) (F : Fn) : Sp := fun vs H Q E => ∃ (Z : Addr → Prop) (ars : List Ar), Trk Z H ∧ ArgsOk K Z H vs ars ∧ Dist vs ars ∧ match F ars with
  | .ret r outs => ∀ v H' Z', Step (OwnA vs ars) Z H Z' H' → Trk Z' H' → OutsOk K Z' H' vs ars outs → RetOk K H (OwnA vs ars) Z' H' v r → Q v H'
  | .exc c fs outs => ∀ H' Z' C dx, Step (OwnA vs ars) Z H Z' H' → Trk Z' H' → OutsOk K Z' H' vs ars outs → mg c = some (.ref C) → XRep K Z' H' dx fs → E (.ref C) dx H'
  | .no => False

/-! ### THE RULE for a def -/
theorem start_get {N : List Str} {vs : List V} {i : Nat} {v : V} (h : (L2.start N vs)[i]? = some (some v)) : vs[i]? = some v := by
  unfold L2.start at h
  by_cases q : i < vs.length
  · rw [List.getElem?_append_left (by simpa using q)] at h
    simpa using h
  · rw [List.getElem?_append_right (by simpa using Nat.not_lt.mp q)] at h
    rw [List.getElem?_replicate] at h
    split at h <;> cases h
def iniR (n : Nat) (np : Nat) (ars : List Ar) : Rho := ars.map Ar.sl ++ List.replicate (n - np) .emp
theorem ini_own {n np : Nat} {ars : List Ar} {i : Nat} {d : D} (h : (iniR n np ars)[i]? = some (.own d)) : ars[i]? = some (.o d) := by
  unfold iniR at h
  by_cases q : i < ars.length
  · rw [List.getElem?_append_left (by simpa using q), List.getElem?_map] at h
    cases e : ars[i]? with
    | none => rw [e] at h; cases h
    | some r =>
      rw [e] at h
      cases r with
      | v d => cases h
      | o d => cases h; rfl
      | s ns => cases h
  · rw [List.getElem?_append_right (by simpa using Nat.not_lt.mp q), List.getElem?_replicate] at h
    split at h <;> cases h
theorem ini_frz {n np : Nat} {ars : List Ar} {i : Nat} {d : D} (h : (iniR n np ars)[i]? = some (.frz d)) : False := by
  unfold iniR at h
  by_cases q : i < ars.length
  · rw [List.getElem?_append_left (by simpa using q), List.getElem?_map] at h
    cases e : ars[i]? with
    | none => rw [e] at h; cases h
    | some r => rw [e] at h; cases r <;> cases h
  · rw [List.getElem?_append_right (by simpa using Nat.not_lt.mp q), List.getElem?_replicate] at h
    split at h <;> cases h
theorem ini_loc {n np : Nat} {N : List Str} {vs : List V} {ars : List Ar} {a : Addr} (h : Loc (L2.start N vs) (iniR n np ars) a) : OwnA vs ars a := by
  obtain ⟨i, ⟨d, e⟩, q⟩ := h
  rcases e with e | e
  · exact ⟨i, d, ini_own e, start_get q⟩
  · exact (ini_frz e).elim
theorem paired_get {α β : Type} {R : α → β → Prop} : ∀ {xs : List α} {ys : List β}, PySem.Paired R xs ys → ∀ (i : Nat) (x : α) (y : β), xs[i]? = some x → ys[i]? = some y → R x y
  | _, _, .nil, i, x, y, e, _ => by simp at e
  | _, _, .cons h t, 0, x, y, e, e2 => by simp at e e2; subst e; subst e2; exact h
  | _, _, .cons h t, i + 1, x, y, e, e2 => paired_get t i x y (by simpa using e) (by simpa using e2)
theorem good_ini {K : PySem.W.Frag} {Z : Addr → Prop} {H : Hp} {N : List Str} {vs : List V} {ars : List Ar} (hn : ars.length ≤ N.length) (t : Trk Z H) (a : ArgsOk K Z H vs ars) (d : Dist vs ars) : Good K Z Z H (L2.start N vs) (iniR N.length ars.length ars) := by
  have hl := paired_len a
  refine ⟨by unfold L2.start iniR; simp; omega, fun _ h => h, t, fun i x r e1 e2 => ?_, fun i j b ⟨⟨d1, e1⟩, q1⟩ ⟨⟨d2, e2⟩, q2⟩ => d i j d1 d2 b (ini_own e1) (ini_own e2) (start_get q1) (start_get q2)⟩
  unfold iniR at e2
  by_cases q : i < ars.length
  · rw [List.getElem?_append_left (by simpa using q), List.getElem?_map] at e2
    have q' : i < vs.length := by omega
    have ev : vs[i]? = some vs[i] := by simp [q']
    have ea : ars[i]? = some ars[i] := by simp [q]
    have ex : x = some vs[i] := by
      unfold L2.start at e1
      rw [List.getElem?_append_left (by simpa using q'), List.getElem?_map, ev] at e1
      exact (Option.some.inj e1).symm
    have k := paired_get a i _ _ ev ea
    rw [ea] at e2
    cases er : ars[i] with
    | v d =>
      rw [er] at e2 k
      cases e2
      exact ⟨_, ex, k⟩
    | o d =>
      rw [er] at e2 k
      cases e2
      obtain ⟨b, h1, h2, h3⟩ := k
      exact ⟨b, by rw [ex, h1], h2, h3⟩
    | s ns =>
      rw [er] at e2 k
      cases e2
      obtain ⟨b, h1, h2⟩ := k
      exact ⟨b, by rw [ex, h1], h2⟩
  · rw [List.getElem?_append_right (by simpa using Nat.not_lt.mp q), List.getElem?_replicate] at e2
    split at e2
    · cases e2; trivial
    · cases e2
/-- what the own arguments hold at the end -/
theorem outs_ok {K : PySem.W.Frag} {B Z : Addr → Prop} {H : Hp} {σ : St} {ρ : Rho} (G : Good K B Z H σ ρ) : ∀ {vs : List V} {ars : List Ar} {outs : List D} (k : Nat), vs.length = ars.length → (∀ i d v, ars[i]? = some (.o d) → vs[i]? = some v → σ[k + i]? = some (some v)) →
    outsOf ars (ρ.drop k) = some outs → OutsOk K Z H vs ars outs
  | [], [], outs, k, _, _, e => by cases e; exact .nil
  | v :: vs, .v d :: ars, outs, k, hl, hp, e => by
    cases q : ρ.drop k with
    | nil => rw [q] at e; cases e
    | cons r ρ' =>
      rw [q] at e
      have e2 : outsOf ars (ρ.drop (k + 1)) = some outs := by
        rw [← List.drop_drop, q]; exact e
      exact .v (outs_ok G (k + 1) (by simpa using hl) (fun i d v h1 h2 => by
        have := hp (i + 1) d v (by simpa using h1) (by simpa using h2)
        rw [show k + 1 + i = k + (i + 1) by omega]; exact this) e2)
  | v :: vs, .s d :: ars, outs, k, hl, hp, e => by
    cases q : ρ.drop k with
    | nil => rw [q] at e; cases e
    | cons r ρ' =>
      rw [q] at e
      have e2 : outsOf ars (ρ.drop (k + 1)) = some outs := by
        rw [← List.drop_drop, q]; exact e
      exact .s (outs_ok G (k + 1) (by simpa using hl) (fun i d v h1 h2 => by
        have := hp (i + 1) d v (by simpa using h1) (by simpa using h2)
        rw [show k + 1 + i = k + (i + 1) by omega]; exact this) e2)
  | v :: vs, .o d :: ars, outs, k, hl, hp, e => by
    cases q : ρ.drop k with
    | nil => rw [q] at e; cases e
    | cons r ρ' =>
      rw [q] at e
      cases r with
      | own d' =>
        obtain ⟨outs', e2, rfl⟩ := Option.map_eq_some_iff.mp (show (outsOf ars ρ').map (d' :: ·) = some outs from e)
        have e3 : outsOf ars (ρ.drop (k + 1)) = some outs' := by
          rw [← List.drop_drop, q]; exact e2
        have ek : ρ[k]? = some (.own d') := by
          have := congrArg (fun l => l[0]?) q
          simpa using this
        have es := hp 0 d v rfl rfl
        obtain ⟨a, h1, n, c, _⟩ := G.own ek
        rw [Nat.add_zero, h1] at es
        cases es
        exact .o n c (outs_ok G (k + 1) (by simpa using hl) (fun i d v h1 h2 => by
          have := hp (i + 1) d v (by simpa using h1) (by simpa using h2)
          rw [show k + 1 + i = k + (i + 1) by omega]; exact this) e3)
      | emp => cases e
      | val d' => cases e
      | frz d' => cases e
      | exc c f => cases e
      | scr ns => cases e
theorem fret_ok {ars : List Ar} {ρ : Rho} {k : List D → FR} : fret ars ρ k = .no ∨ ∃ outs, outsOf ars ρ = some outs ∧ fret ars ρ k = k outs := by
  unfold fret
  cases outsOf ars ρ with
  | none => exact .inl rfl
  | some o => exact .inr ⟨o, rfl, rfl⟩

/-- from the slots of the body to what is promised -/
theorem fin_step {K : PySem.W.Frag} {P : List Nat} {Z Z' : Addr → Prop} {H H' : Hp} {N : List Str} {vs : List V} {ars : List Ar} {σ' : St} {ρ' : Rho} {outs : List D} (hP : okArsB P 0 ars = true) (hl : vs.length = ars.length)
    (s : SStep P Z H (L2.start N vs) (iniR N.length ars.length ars) Z' H' σ' ρ') (G : Good K Z Z' H' σ' ρ') (o : outsOf ars ρ' = some outs) :
    Step (OwnA vs ars) Z H Z' H' ∧ OutsOk K Z' H' vs ars outs ∧ (∀ a, OwnA vs ars a → Owns σ' ρ' a) := by
  have pin : ∀ (i : Nat) (d : D) (v : V), ars[i]? = some (Ar.o d) → vs[i]? = some v → σ'[i]? = some (some v) := fun i d v h1 h2 => by
    have m := okArsB_ok hP i d h1
    rw [Nat.zero_add] at m
    rw [s.pin i m]
    unfold L2.start
    rw [List.getElem?_append_left (by simpa using (List.getElem?_eq_some_iff.mp h2).1), List.getElem?_map, h2]
    rfl
  have oo := outs_ok G (vs := vs) (ars := ars) (outs := outs) 0 hl (fun i d v h1 h2 => by rw [Nat.zero_add]; exact pin i d v h1 h2) (by simpa using o)
  -- the own arguments are own at the end
  have ow : ∀ a, OwnA vs ars a → Owns σ' ρ' a := fun a ⟨i, d, h1, h2⟩ => by
    have e := pin i d _ h1 h2
    have : ∀ {ars : List Ar} {ρ : Rho} {outs : List D} {i : Nat} {d : D}, outsOf ars ρ = some outs → ars[i]? = some (.o d) → ∃ d', ρ[i]? = some (.own d') := by
      intro ars
      induction ars with
      | nil => intro ρ outs i d _ h; simp at h
      | cons x xs ih =>
        intro ρ outs i d h1 h2
        cases ρ with
        | nil => cases x <;> cases h1
        | cons r ρ =>
          cases x with
          | v d1 =>
            cases i with
            | zero => simp at h2
            | succ i => exact ih (ρ := ρ) (show outsOf xs ρ = some outs from h1) (by simpa using h2)
          | s d1 =>
            cases i with
            | zero => simp at h2
            | succ i => exact ih (ρ := ρ) (show outsOf xs ρ = some outs from h1) (by simpa using h2)
          | o d1 =>
            cases r with
            | own d2 =>
              obtain ⟨outs', e2, rfl⟩ := Option.map_eq_some_iff.mp (show (outsOf xs ρ).map (d2 :: ·) = some outs from h1)
              cases i with
              | zero => exact ⟨d2, rfl⟩
              | succ i => exact ih (ρ := ρ) e2 (by simpa using h2)
            | emp => cases h1
            | val d' => cases h1
            | frz d' => cases h1
            | exc c f => cases h1
            | scr ns => cases h1
    obtain ⟨d', e'⟩ := this o h1
    exact ⟨i, ⟨d', e'⟩, e⟩
  refine ⟨⟨fun a u e n => s.keep a u e fun q => n (ini_loc q), G.bz, fun a z => ?_, s.there⟩, oo, ow⟩
  rcases s.new a z with k | k | k
  · exact .inl k
  · exact .inr k
  · obtain ⟨i, oa⟩ := ow a (ini_loc k)
    obtain ⟨_, _, n, _⟩ := G.ownAt oa
    exact absurd z n
section
variable {P : Program} {w : World} {K : PySem.W.Frag} {mg : Str → Option Value} {base : Heap}
/-- a def by what its body does -/
theorem fn_ok {x qual : Str} {st : Stmt} {f : Addr} {fd : FuncData} {N ps : List Str} {k : Nat} {t : SM} (F : Fun K x qual st f fd) (S : FnScope N ps (defScope st)) (pn : List Nat) (hn : ps.length ≤ N.length)
    (hb : ∀ (cdv : Value) (A : Around) (outer : List Env) (s : Shared) (H : Hp) (E : XK), A.guards = some [] → Room k (A.deeper (PyProof.Rows.envOfC qual (defScope st) s.heap.objs.size f cdv)) →
      DSs (cxOf (L2.CX P w) P w K mg base N qual (defScope st) f cdv A outer s H E) (fun cls d _ H' => E cls d H') pn (defBody st) t) :
    FnG P w K mg base (k + 1) f fd ps (spV K mg (mkF pn ps.length N.length t)) := by
  have ln : ∀ {vs H Q E}, spV K mg (mkF pn ps.length N.length t) vs H Q E → vs.length = ps.length := fun {vs H Q E} h => by
    obtain ⟨Z, ars, tz, a, d, m⟩ := h
    unfold mkF at m
    by_cases q : ars.length = ps.length ∧ okArsB pn 0 ars = true
    · rw [paired_len a, q.1]
    · rw [if_neg q] at m
      exact m.elim
  refine fun_okG F S (fun vs H Q E h => ln h) fun cdv A outer s H vs Q E hg hr h => ⟨_, (hb cdv A outer s H E hg hr).ps, ?_⟩
  have hlen := ln h
  obtain ⟨Z, ars, tz, a, d, m⟩ := h
  have hl := paired_len a
  by_cases q : ars.length = ps.length ∧ okArsB pn 0 ars = true
  · have eF : mkF pn ps.length N.length t ars = (match t (iniR N.length ars.length ars) with
      | .next ρ => fret ars ρ (.ret (.val .none))
      | .ret r ρ => fret ars ρ (.ret r)
      | .exc c fs ρ => fret ars ρ (.exc c fs)
      | _ => .no) := by
      unfold mkF iniR
      rw [if_pos q, q.1]
    rw [eF] at m
    refine ⟨Z, Z, iniR N.length ars.length ars, good_ini (by omega) tz a d, ?_⟩
    cases e : t (iniR N.length ars.length ars) with
    | next ρ =>
      rw [e] at m
      rcases fret_ok (ars := ars) (ρ := ρ) (k := .ret (.val .none)) with z | ⟨outs, o, z⟩
      · dsimp only at m; rw [z] at m; exact m.elim
      · dsimp only at m
        rw [z] at m
        intro σ' H' Z' s g
        obtain ⟨s1, s2, s3⟩ := fin_step q.2 hl s g o
        exact m .non H' Z' s1 g.zt s2 .non
    | ret r ρ =>
      rw [e] at m
      rcases fret_ok (ars := ars) (ρ := ρ) (k := .ret r) with z | ⟨outs, o, z⟩
      · dsimp only at m; rw [z] at m; exact m.elim
      · dsimp only at m
        rw [z] at m
        intro v σ' H' Z' s g rr
        obtain ⟨s1, s2, s3⟩ := fin_step q.2 hl s g o
        refine m v H' Z' s1 g.zt s2 ?_
        cases r with
        | val d => exact rr
        | own d =>
          obtain ⟨b, h1, h2, h3, h4, h5⟩ := rr
          have nb : ¬ OwnA vs ars b := fun k => h4 (s3 b k)
          exact ⟨b, h1, h2, h3, nb, h5.resolve_left fun k => nb (ini_loc k)⟩
    | exc c fs ρ =>
      rw [e] at m
      rcases fret_ok (ars := ars) (ρ := ρ) (k := .exc c fs) with z | ⟨outs, o, z⟩
      · dsimp only at m; rw [z] at m; exact m.elim
      · dsimp only at m
        rw [z] at m
        intro σ' H' Z' C dx s g hm xr
        obtain ⟨s1, s2, s3⟩ := fin_step q.2 hl s g o
        exact m H' Z' C dx s1 g.zt s2 hm xr
    | brk ρ => rw [e] at m; exact m.elim
    | cont ρ => rw [e] at m; exact m.elim
    | no => rw [e] at m; exact m.elim
  · unfold mkF at m
    rw [if_neg q] at m
    exact m.elim
end

/-! ### contexts -/
structure C1 (X : Cx) (W : WX) (k : Nat) : Prop where
  room : Room k X.A
  gd : X.A.guards = some []
  tk : Takes X W
  calm : X.calm = true
  sys : ∃ o, X.base.get? sysModules = some o
  nd : X.N.Nodup
structure C2 (X : Cx) (W : WX) (k : Nat) : Prop extends C1 X W k where
  po : PassesOwn (model X.prog X.w) X.A X.env X.xe
structure FnD (P : Program) (w : World) (K : PySem.W.Frag) (mg : Str → Option Value) (base : Heap) (k : Nat) (x : Str) (ps : List Str) (F : Fn) : Prop where
  ex : ∃ f fd, FnG P w K mg base k f fd ps (spV K mg F) ∧ mg x = some (.ref f) ∧ PySem.W.keepIn K (.ref f) = true ∧ Binds K fd ps []
section
variable {P : Program} {w : World} {K : PySem.W.Frag} {mg : Str → Option Value} {base : Heap}
theorem FnD.mono {j k : Nat} {x : Str} {ps : List Str} {F : Fn} (h : FnD P w K mg base j x ps F) (hk : j ≤ k) : FnD P w K mg base k x ps F := by
  obtain ⟨f, fd, h1, h2, h3, h4⟩ := h.ex
  exact ⟨f, fd, h1.mono hk, h2, h3, h4⟩
/-- THE RULE for a def -/
theorem fn_d {x qual : Str} {st : Stmt} {f : Addr} {fd : FuncData} {N ps : List Str} {k : Nat} {t : SM} (F : Fun K x qual st f fd) (S : FnScope N ps (defScope st)) (pn : List Nat) (hm : mg x = some (.ref f)) (hbi : Binds K fd ps []) (sys : ∃ o, base.get? sysModules = some o)
    (hb : ∀ (cdv : Value) (A : Around) (out : List Env) (s : Shared) (H : Hp) (E : XK), C2 (cxOf (L2.CX P w) P w K mg base N qual (defScope st) f cdv A out s H E) (fun cls d _ H' => E cls d H') k →
      DSs (cxOf (L2.CX P w) P w K mg base N qual (defScope st) f cdv A out s H E) (fun cls d _ H' => E cls d H') pn (defBody st) t) :
    FnD P w K mg base (k + 1) x ps (mkF pn ps.length N.length t) := by
  refine ⟨f, fd, fn_ok F S pn ?_ fun cdv A outer s H E hg hr => hb _ _ _ _ _ _ ⟨⟨hr, hg, takes_of rfl rfl rfl rfl, rfl, sys, S.nd⟩, passes_of rfl⟩, hm, F.kp, hbi⟩
  have := congrArg List.length S.pre
  rw [List.length_take] at this
  omega
end
end VS

set_option Elab.async false
set_option linter.all false
set_option maxRecDepth 100000
namespace VS
open PySem L2

/-! ### calls of defs -/
def arsOf : List Op → Rho → Option (List Ar)
  | [], _ => some []
  | .v d :: os, ρ => (arsOf os ρ).map (.v d :: ·)
  | .p j :: os, ρ => match ρ[j]? with
    | some (.own d) => (arsOf os ρ).map (.o d :: ·)
    | _ => none
  | .s ns :: os, ρ => (arsOf os ρ).map (.s ns :: ·)
def places : List Op → List Nat
  | [] => []
  | .v _ :: os => places os
  | .p j :: os => j :: places os
  | .s _ :: os => places os
def putOuts : List Op → List D → Rho → Option Rho
  | [], [], ρ => some ρ
  | .v _ :: os, ds, ρ => putOuts os ds ρ
  | .p j :: os, d :: ds, ρ => putOuts os ds (ρ.set j (.own d))
  | .s _ :: os, ds, ρ => putOuts os ds ρ
  | _, _, _ => none
def ndB : List Nat → Bool
  | [] => true
  | j :: js => !js.contains j && ndB js
def mput {α : Type} (os : List Op) (outs : List D) (k : Rho → Res α) : M α := fun ρ => match putOuts os outs ρ with
  | some ρ' => k ρ'
  | none => .no
def mcall (F : Fn) (fa : M (List Op)) : M Rt := mbind fa fun os ρ => match arsOf os ρ with
  | none => .no
  | some ars => if ndB (places os) = true then (match F ars with
    | .ret r outs => mput os outs (.ok r) ρ
    | .exc c fs outs => mput os outs (.exc c fs) ρ
    | .no => .no) else .no
def mcallV (F : Fn) (fa : M (List Op)) : M D := mbind (mcall F fa) fun r => match r with
  | .val d => mret d
  | .own _ => mno
def mcallF (F : Fn) (fa : M (List Op)) : M D := mbind (mcall F fa) fun r => match r with
  | .own d => mret d
  | .val _ => mno
def OA (ρ : Rho) : Op → Ar → Prop
  | .v d, .v e => d = e
  | .p j, .o d => ρ[j]? = some (.own d)
  | .s n, .s m => n = m
  | _, _ => False
theorem arsOf_oa {ρ : Rho} : ∀ {os : List Op} {ars : List Ar}, arsOf os ρ = some ars → PySem.Paired (OA ρ) os ars
  | [], _, e => by cases e; exact .nil
  | .v d :: os, ars, e => by
    obtain ⟨as, e2, rfl⟩ := Option.map_eq_some_iff.mp (show (arsOf os ρ).map (.v d :: ·) = some ars from e)
    exact .cons rfl (arsOf_oa e2)
  | .s n :: os, ars, e => by
    obtain ⟨as, e2, rfl⟩ := Option.map_eq_some_iff.mp (show (arsOf os ρ).map (.s n :: ·) = some ars from e)
    exact .cons rfl (arsOf_oa e2)
  | .p j :: os, ars, e => by
    unfold arsOf at e
    split at e
    · rename_i d q
      obtain ⟨as, e2, rfl⟩ := Option.map_eq_some_iff.mp e
      exact .cons q (arsOf_oa e2)
    · cases e
theorem put_tags : ∀ {os : List Op} {outs : List D} {ρ ρ' : Rho}, (∀ j ∈ places os, ∃ d, ρ[j]? = some (.own d)) → putOuts os outs ρ = some ρ' → tags ρ' = tags ρ
  | [], [], ρ, ρ', _, e => by cases e; rfl
  | [], _ :: _, ρ, ρ', _, e => by cases e
  | .v _ :: os, outs, ρ, ρ', h, e => put_tags (os := os) h e
  | .s _ :: os, outs, ρ, ρ', h, e => put_tags (os := os) h e
  | .p j :: os, [], ρ, ρ', h, e => by cases e
  | .p j :: os, d :: ds, ρ, ρ', h, e => by
    have e : putOuts os ds (ρ.set j (.own d)) = some ρ' := e
    have ow : ∀ i ∈ places os, ∃ d', (ρ.set j (.own d))[i]? = some (.own d') := fun i m => by
      obtain ⟨d', q⟩ := h i (List.mem_cons_of_mem _ m)
      by_cases k : j = i
      · subst k
        exact ⟨d, List.getElem?_set_self (List.getElem?_eq_some_iff.mp q).1⟩
      · exact ⟨d', by rw [List.getElem?_set_ne k]; exact q⟩
    rw [put_tags ow e]
    obtain ⟨d', q⟩ := h j List.mem_cons_self
    refine tags_ext fun i => ?_
    by_cases k : j = i
    · subst k
      rw [List.getElem?_set_self (List.getElem?_eq_some_iff.mp q).1, q]
      rfl
    · rw [List.getElem?_set_ne k]
theorem oa_places {ρ : Rho} : ∀ {os : List Op} {ars : List Ar}, PySem.Paired (OA ρ) os ars → ∀ j ∈ places os, ∃ d, ρ[j]? = some (.own d)
  | [], _, .nil, j, m => by cases m
  | .v d :: os, .v e :: as, .cons h t, j, m => oa_places t j m
  | .s d :: os, .s e :: as, .cons h t, j, m => oa_places t j m
  | .s d :: os, .v e :: as, .cons h t, j, m => h.elim
  | .s d :: os, .o e :: as, .cons h t, j, m => h.elim
  | .v d :: os, .s e :: as, .cons h t, j, m => h.elim
  | .p d :: os, .s e :: as, .cons h t, j, m => h.elim
  | .p i :: os, .o d :: as, .cons h t, j, m => by
    rcases List.mem_cons.mp m with rfl | m
    · exact ⟨d, h⟩
    · exact oa_places t j m
  | .v d :: os, .o e :: as, .cons h t, j, m => h.elim
  | .p d :: os, .v e :: as, .cons h t, j, m => h.elim
theorem tp_call {F : Fn} {fa : M (List Op)} (h : TP fa) : TP (mcall F fa) := h.bind fun os => by
  refine ⟨fun ρ a ρ' e => ?_, fun ρ c x ρ' e => ?_⟩ <;> split at e
  · cases e
  · rename_i ars q
    split at e
    rotate_left
    · cases e
    split at e
    · unfold mput at e
      split at e
      · rename_i ρ1 q2
        cases e
        exact put_tags (oa_places (arsOf_oa q)) q2
      · cases e
    · unfold mput at e
      split at e
      · cases e
      · cases e
    · cases e
  · cases e
  · rename_i ars q
    split at e
    rotate_left
    · cases e
    split at e
    · unfold mput at e
      split at e
      · cases e
      · cases e
    · unfold mput at e
      split at e
      · rename_i ρ1 q2
        cases e
        exact put_tags (oa_places (arsOf_oa q)) q2
      · cases e
    · cases e
section
variable {K : PySem.W.Frag} {B Z Z' : Addr → Prop} {H H' : Hp} {σ : St} {ρ ρ' : Rho}
theorem ro_args (G : Good K B Z H σ ρ) : ∀ {vs : List V} {os : List Op} {ars : List Ar}, PySem.Paired (fun v o => RepO K σ Z H v o) vs os → PySem.Paired (OA ρ) os ars → ArgsOk K Z H vs ars
  | [], [], [], .nil, .nil => .nil
  | _ :: _, .v d :: os, .v e :: as, .cons h t, .cons k l => by
    have k : d = e := k
    subst k
    exact .cons h (ro_args G t l)
  | _ :: _, .s d :: os, .s e :: as, .cons h t, .cons k l => by
    have k : d = e := k
    subst k
    exact .cons h (ro_args G t l)
  | _ :: _, .s d :: os, .v e :: as, .cons h t, .cons k l => k.elim
  | _ :: _, .s d :: os, .o e :: as, .cons h t, .cons k l => k.elim
  | _ :: _, .v d :: os, .s e :: as, .cons h t, .cons k l => k.elim
  | _ :: _, .p d :: os, .s e :: as, .cons h t, .cons k l => k.elim
  | _ :: _, .p j :: os, .o d :: as, .cons h t, .cons k l => by
    obtain ⟨a, h1, n, c, _⟩ := G.own k
    have h' : σ[j]? = some (some _) := h
    rw [h1] at h'
    cases h'
    exact .cons ⟨a, rfl, n, c⟩ (ro_args G t l)
  | _ :: _, .v d :: os, .o e :: as, .cons h t, .cons k l => k.elim
  | _ :: _, .p d :: os, .v e :: as, .cons h t, .cons k l => k.elim
/-- an own argument is at its place -/
theorem own_place : ∀ {vs : List V} {os : List Op} {ars : List Ar}, PySem.Paired (fun v o => RepO K σ Z H v o) vs os → PySem.Paired (OA ρ) os ars → ∀ (i : Nat) (d : D) (a : Addr), ars[i]? = some (.o d) → vs[i]? = some (.ref a) → ∃ j, os[i]? = some (.p j) ∧ OwnAt σ ρ j a
  | [], [], [], .nil, .nil, i, d, a, e, _ => by simp at e
  | v :: _, .v d :: os, .v e :: as, .cons h t, .cons k l, 0, d', a, e1, e2 => by simp at e1
  | v :: _, _ :: os, .s e :: as, .cons h t, .cons k l, 0, d', a, e1, e2 => by simp at e1
  | v :: _, .s d :: os, .o e :: as, .cons h t, .cons k l, 0, _, _, _, _ => k.elim
  | v :: _, .s d :: os, .v e :: as, .cons h t, .cons k l, 0, _, _, _, _ => k.elim
  | v :: _, .p j :: os, .o d :: as, .cons h t, .cons k l, 0, d', a, e1, e2 => by
    simp at e1 e2
    subst e1 e2
    exact ⟨j, rfl, ⟨d, k⟩, h⟩
  | v :: _, _ :: os, _ :: as, .cons h t, .cons k l, i + 1, d', a, e1, e2 => by
    obtain ⟨j, q1, q2⟩ := own_place t l i d' a (by simpa using e1) (by simpa using e2)
    exact ⟨j, by simpa using q1, q2⟩
  | v :: _, .v d :: os, .o e :: as, .cons h t, .cons k l, 0, _, _, _, _ => k.elim
  | v :: _, .p d :: os, .v e :: as, .cons h t, .cons k l, 0, _, _, _, _ => k.elim
theorem mem_places : ∀ {os : List Op} {i j : Nat}, os[i]? = some (.p j) → j ∈ places os
  | [], i, j, e => by simp at e
  | .v _ :: os, 0, j, e => by simp at e
  | .s _ :: os, 0, j, e => by simp at e
  | .s _ :: os, i + 1, j, e => mem_places (os := os) (i := i) (by simpa using e)
  | .p k :: os, 0, j, e => by simp at e; subst e; exact List.mem_cons_self
  | .v _ :: os, i + 1, j, e => mem_places (os := os) (i := i) (by simpa using e)
  | .p k :: os, i + 1, j, e => List.mem_cons_of_mem _ (mem_places (os := os) (i := i) (by simpa using e))
theorem nd_places : ∀ {os : List Op} {i i' j : Nat}, ndB (places os) = true → os[i]? = some (.p j) → os[i']? = some (.p j) → i = i'
  | [], i, i', j, _, e, _ => by simp at e
  | .v _ :: os, 0, i', j, _, e, _ => by simp at e
  | .v _ :: os, i + 1, 0, j, _, _, e => by simp at e
  | .v _ :: os, i + 1, i' + 1, j, n, e, e' => congrArg (· + 1) (nd_places (os := os) n (by simpa using e) (by simpa using e'))
  | .s _ :: os, 0, i', j, _, e, _ => by simp at e
  | .s _ :: os, i + 1, 0, j, _, _, e => by simp at e
  | .s _ :: os, i + 1, i' + 1, j, n, e, e' => congrArg (· + 1) (nd_places (os := os) n (by simpa using e) (by simpa using e'))
  | .p k :: os, 0, 0, j, n, e, e' => rfl
  | .p k :: os, 0, i' + 1, j, n, e, e' => by
    simp at e
    subst e
    have m := mem_places (os := os) (i := i') (j := k) (by simpa using e')
    have n : (!(places os).contains k && ndB (places os)) = true := n
    simp [m] at n
  | .p k :: os, i + 1, 0, j, n, e, e' => by
    simp at e'
    subst e'
    have m := mem_places (os := os) (i := i) (j := k) (by simpa using e)
    have n : (!(places os).contains k && ndB (places os)) = true := n
    simp [m] at n
  | .p k :: os, i + 1, i' + 1, j, n, e, e' => by
    have n : (!(places os).contains k && ndB (places os)) = true := n
    rw [Bool.and_eq_true] at n
    exact congrArg (· + 1) (nd_places (os := os) n.2 (by simpa using e) (by simpa using e'))
theorem put_get : ∀ {vs : List V} {os : List Op} {ars : List Ar} {outs : List D} {ρ ρ' : Rho}, PySem.Paired (fun v o => RepO K σ Z H v o) vs os → OutsOk K Z' H' vs ars outs → (∀ i : Nat, (∃ d : D, ars[i]? = some (Ar.o d)) ↔ ∃ j : Nat, os[i]? = some (Op.p j)) → putOuts os outs ρ = some ρ' →
    ∀ i, (i ∉ places os ∧ ρ'[i]? = ρ[i]?) ∨ (i ∈ places os ∧ (ρ'[i]? = none ∨ ∃ a d', σ[i]? = some (some (.ref a)) ∧ ρ'[i]? = some (.own d') ∧ ¬ Z' a ∧ Cell K Z' H' a d'))
  | [], [], [], [], ρ, ρ', .nil, .nil, _, e, i => by cases e; exact .inl ⟨by simp [places], rfl⟩
  | v :: vs, .v d :: os, .v d' :: as, outs, ρ, ρ', .cons h t, .v o, hk, e, i => put_get (os := os) t o (fun i => by simpa using hk (i + 1)) e i
  | v :: vs, .s d :: os, .s d' :: as, outs, ρ, ρ', .cons h t, .s o, hk, e, i => put_get (os := os) t o (fun i => by simpa using hk (i + 1)) e i
  | v :: vs, .v d :: os, .s d' :: as, outs, ρ, ρ', .cons h t, .s o, hk, e, i => put_get (os := os) t o (fun i => by simpa using hk (i + 1)) e i
  | v :: vs, .s d :: os, .v d' :: as, outs, ρ, ρ', .cons h t, .v o, hk, e, i => put_get (os := os) t o (fun i => by simpa using hk (i + 1)) e i
  | v :: vs, .p j :: os, .s d' :: as, outs, ρ, ρ', .cons h t, .s o, hk, e, i => by
    obtain ⟨d, q⟩ := (hk 0).mpr ⟨j, rfl⟩
    simp at q
  | _ :: vs, .s j :: os, .o d' :: as, _ :: outs, ρ, ρ', .cons h t, .o n c o, hk, e, i => by
    obtain ⟨d, q⟩ := (hk 0).mp ⟨d', rfl⟩
    simp at q
  | v :: vs, .p j :: os, .v d' :: as, outs, ρ, ρ', .cons h t, .v o, hk, e, i => by
    obtain ⟨d, q⟩ := (hk 0).mpr ⟨j, rfl⟩
    simp at q
  | _ :: vs, .v j :: os, .o d' :: as, _ :: outs, ρ, ρ', .cons h t, .o n c o, hk, e, i => by
    obtain ⟨d, q⟩ := (hk 0).mp ⟨d', rfl⟩
    simp at q
  | _ :: vs, .p j :: os, .o d :: as, d' :: ds, ρ, ρ', .cons h t, .o n c o, hk, e, i => by
    have e : putOuts os ds (ρ.set j (.own d')) = some ρ' := e
    rcases put_get (os := os) t o (fun i => by simpa using hk (i + 1)) e i with ⟨m, q⟩ | ⟨m, q⟩
    · by_cases k : i = j
      · subst k
        refine .inr ⟨List.mem_cons_self, ?_⟩
        by_cases hl : i < ρ.length
        · exact .inr ⟨_, d', h, by rw [q, List.getElem?_set_self hl], n, c⟩
        · exact .inl (by rw [q]; exact List.getElem?_eq_none (by simpa using hl))
      · refine .inl ⟨fun z => ?_, by rw [q, List.getElem?_set_ne (Ne.symm k)]⟩
        rcases List.mem_cons.mp z with z | z
        · exact k z
        · exact m z
    · exact .inr ⟨List.mem_cons_of_mem _ m, q⟩
theorem oa_iff : ∀ {os : List Op} {ars : List Ar}, PySem.Paired (OA ρ) os ars → ∀ (i : Nat), (∃ d, ars[i]? = some (.o d)) ↔ ∃ j, os[i]? = some (.p j)
  | [], [], .nil, i => by simp
  | .v _ :: os, .v _ :: as, .cons h t, 0 => by simp
  | .p _ :: os, .o _ :: as, .cons h t, 0 => by simp
  | .s _ :: os, .s _ :: as, .cons h t, 0 => by simp
  | .s _ :: os, .v _ :: as, .cons h t, 0 => by simp
  | .s _ :: os, .o _ :: as, .cons h t, 0 => h.elim
  | .v _ :: os, .s _ :: as, .cons h t, 0 => by simp
  | .p _ :: os, .s _ :: as, .cons h t, 0 => h.elim
  | .v _ :: os, .o _ :: as, .cons h t, 0 => h.elim
  | .p _ :: os, .v _ :: as, .cons h t, 0 => h.elim
  | _ :: os, _ :: as, .cons h t, i + 1 => by simpa using oa_iff t i
/-- behind the call -/
theorem call_good {vs : List V} {os : List Op} {ars : List Ar} {outs : List D} (G : Good K B Z H σ ρ) (r : PySem.Paired (fun v o => RepO K σ Z H v o) vs os) (oa : PySem.Paired (OA ρ) os ars) (s : Step (OwnA vs ars) Z H Z' H') (t : Trk Z' H') (o : OutsOk K Z' H' vs ars outs)
    (e : putOuts os outs ρ = some ρ') : Good K B Z' H' σ ρ' ∧ Step (Owns σ ρ) Z H Z' H' ∧ tags ρ' = tags ρ := by
  have ow : ∀ a, OwnA vs ars a → ∃ j ∈ places os, OwnAt σ ρ j a := fun a ⟨i, d, h1, h2⟩ => by
    obtain ⟨j, q1, q2⟩ := own_place r oa i d a h1 h2
    exact ⟨j, mem_places q1, q2⟩
  have ow' : ∀ a, OwnA vs ars a → Owns σ ρ a := fun a h => let ⟨j, _, q⟩ := ow a h; ⟨j, q⟩
  have mm : MutO (OwnA vs ars) H := fun a h => G.mut a (ow' a h)
  have hz : ∀ a, Z a → ¬ OwnA vs ars a := fun a z h => G.nz a z (ow' a h)
  have tg : tags ρ' = tags ρ := put_tags (oa_places oa) e
  have pg := put_get (σ := σ) (Z := Z) (H := H) r o (oa_iff oa) e
  refine ⟨⟨?_, fun a b => s.mono a (G.bz a b), t, fun i x r' e1 e2 => ?_, fun i j a o1 o2 => G.ap i j a (ownAt_tags tg o1) (ownAt_tags tg o2)⟩, s.weak ow', tg⟩
  · have := congrArg List.length tg
    simp only [tags, List.length_map] at this
    rw [this, G.len]
  · rcases pg i with ⟨m, q⟩ | ⟨m, q | ⟨a, d', h1, h2, h3, h4⟩⟩
    · rw [q] at e2
      have k := G.sl i x r' e1 e2
      cases r' with
      | emp => trivial
      | val d => obtain ⟨v, e, r⟩ := k; exact ⟨v, e, r.step s mm hz⟩
      | own d =>
        obtain ⟨b, rfl, nz, c⟩ := k
        have oi : OwnAt σ ρ i b := ⟨⟨d, e2⟩, e1⟩
        have nb : ¬ OwnA vs ars b := fun h => by
          obtain ⟨j, mj, oj⟩ := ow b h
          have := G.ap i j b oi oj
          subst this
          exact m mj
        refine ⟨b, rfl, fun z => ?_, c.step s mm hz nb⟩
        rcases s.new b z with k | k
        · exact nz k
        · obtain ⟨u, h, _⟩ := c.there
          rw [h] at k; cases k
      | frz d => obtain ⟨b, e, zb, nb, c⟩ := k; exact ⟨b, e, s.mono _ zb, nb, c.step s mm hz (hz b zb)⟩
      | exc c f =>
        obtain ⟨a, C, oe, vs, u, e, h1, h2, h3, h4, x⟩ := k
        refine ⟨a, C, oe, vs, u, e, s.keep _ _ h1 fun o => ?_, h2, h3, h4, x.step s mm hz⟩
        have z := mm a o
        rw [h1] at z
        exact z
      | scr ns => obtain ⟨b, e, q⟩ := k; exact ⟨b, e, q.step s hz⟩
    · rw [q] at e2; cases e2
    · rw [h1] at e1
      rw [h2] at e2
      cases e1
      cases e2
      exact ⟨a, rfl, h3, h4⟩
end
theorem call_imp {X : Cx} {W : WX} {F : Fn} {fa : M (List Op)} {σ : St} {H : Hp} {Q : VK} {β : Type} {g : Rt → M β} {R : Rl V β} (hf : TP fa) (h : Lf X W R (mbind (mcall F fa) g) σ H Q)
    (k : ∀ B Z1 H1 ρ1 ρ2 (O : Addr → Prop) r v H' Z', Good X.K B Z1 H1 σ ρ1 → Good X.K B Z' H' σ ρ2 → Step (Owns σ ρ1) Z1 H1 Z' H' → tags ρ2 = tags ρ1 → RetOk X.K H1 O Z' H' v r → Post X W R B Z1 H1 σ ρ1 (g r ρ2) Q → Q v H') :
    tCallS (spV X.K X.mg F) (WE W) (Lf X W (RA X) fa) σ H Q := by
  obtain ⟨B, Z, ρ, G, p⟩ := h
  unfold mcall at p
  rw [mbind_assoc] at p
  refine Post.bind hf G p fun vs H1 Z1 ρ1 os s1 G1 t1 r1 p1 => ?_
  unfold mbind at p1
  dsimp only at p1
  cases ea : arsOf os ρ1 with
  | none => rw [ea] at p1; exact p1.elim
  | some ars =>
    rw [ea] at p1
    dsimp only at p1
    by_cases nd : ndB (places os) = true
    · rw [if_pos nd] at p1
      have oa := arsOf_oa ea
      refine ⟨Z1, ars, G1.zt, ro_args G1 r1 oa, fun i j d e a h1 h2 h3 h4 => ?_, ?_⟩
      · obtain ⟨j1, q1, q2⟩ := own_place r1 oa i d a h1 h3
        obtain ⟨j2, q3, q4⟩ := own_place r1 oa j e a h2 h4
        have := G1.ap _ _ _ q2 q4
        subst this
        exact nd_places nd q1 q3
      · cases eF : F ars with
        | ret r outs =>
          rw [eF] at p1
          intro v H' Z' s t oo rr
          dsimp only at p1
          unfold mput at p1
          cases ep : putOuts os outs ρ1 with
          | none => rw [ep] at p1; exact p1.elim
          | some ρ2 =>
            rw [ep] at p1
            obtain ⟨G2, s2, t2⟩ := call_good G1 r1 oa s t oo ep
            exact k B Z1 H1 ρ1 ρ2 _ r v H' Z' G1 G2 s2 t2 rr p1
        | exc c fs outs =>
          rw [eF] at p1
          intro H' Z' C dx s t oo hm xr
          dsimp only at p1
          unfold mput at p1
          cases ep : putOuts os outs ρ1 with
          | none => rw [ep] at p1; exact p1.elim
          | some ρ2 =>
            rw [ep] at p1
            obtain ⟨G2, s2, t2⟩ := call_good G1 r1 oa s t oo ep
            exact p1 H' Z' C dx s2 G2 hm xr
        | no => rw [eF] at p1; exact p1.elim
    · rw [if_neg nd] at p1; exact p1.elim
section
variable {X : Cx} {W : WX} {F : Fn} {fa : M (List Op)} {k : Nat} {ps : List Str} {x : Str} {p pos : Pos} {e : Expr} {es : List Expr}
theorem tp_callV (h : TP fa) : TP (mcallV F fa) := (tp_call h).bind fun r => by
  cases r with
  | val d => exact .ret d
  | own d => exact .no
theorem tp_callF (h : TP fa) : TP (mcallF F fa) := (tp_call h).bind fun r => by
  cases r with
  | val d => exact .no
  | own d => exact .ret d
theorem callV_imp {σ : St} {H : Hp} {Q : VK} (hf : TP fa) (h : Lf X W (RV X) (mcallV F fa) σ H Q) : tCallS (spV X.K X.mg F) (WE W) (Lf X W (RA X) fa) σ H Q :=
  call_imp hf h fun B Z1 H1 ρ1 ρ2 O r v H' Z' G1 G2 s2 t2 rr p => by
    cases r with
    | val d => exact p v H' Z' s2 G2 rr
    | own d => exact p.elim
theorem callF_imp {σ : St} {H : Hp} {Q : VK} (hf : TP fa) (h : Lf X W (RF X) (mcallF F fa) σ H Q) : tCallS (spV X.K X.mg F) (WE W) (Lf X W (RA X) fa) σ H Q :=
  call_imp hf h fun B Z1 H1 ρ1 ρ2 O r v H' Z' G1 G2 s2 t2 rr p => by
    cases r with
    | val d => exact p.elim
    | own d =>
      obtain ⟨a, h1, h2, h3, h4, h5⟩ := rr
      refine p v H' Z' s2 G2 ⟨a, h1, h2, h3, fun ⟨i, o⟩ => ?_, h5⟩
      obtain ⟨d', _, _, c⟩ := G1.ownAt (ownAt_tags t2 o)
      obtain ⟨u, q, _⟩ := c.there
      rw [h5] at q; cases q
theorem ve_call (h : FnD X.prog X.w X.K X.mg X.base k x ps F) (c : C1 X W k) (hg : Gl X x) (ha : VA X W (e :: es) fa) (hdb : (x == ("__debug__" : Str)) = false := by decide) (he : starEach (e :: es) X.env = (false, eval e X.env) :: starEach es X.env := by rfl)
    (hpl : (backTo pos (starEach es X.env)).any (·.1) = false := by rfl) : VE X W (.Call (.Name x p) (e :: es) [] pos) (mcallV F fa) := by
  obtain ⟨f, fd, h1, h2, h3, h4⟩ := h.ex
  exact ⟨PE.imp (pe_callG h1 c.gd c.room hg h2 h3 h4 c.tk ha.pa hdb he hpl) fun σ H Q q => callV_imp ha.tp q, tp_callV ha.tp⟩
theorem fe_call (h : FnD X.prog X.w X.K X.mg X.base k x ps F) (c : C1 X W k) (hg : Gl X x) (ha : VA X W (e :: es) fa) (hdb : (x == ("__debug__" : Str)) = false := by decide) (he : starEach (e :: es) X.env = (false, eval e X.env) :: starEach es X.env := by rfl)
    (hpl : (backTo pos (starEach es X.env)).any (·.1) = false := by rfl) : FE X W (.Call (.Name x p) (e :: es) [] pos) (mcallF F fa) := by
  obtain ⟨f, fd, h1, h2, h3, h4⟩ := h.ex
  exact ⟨PE.imp (pe_callG h1 c.gd c.room hg h2 h3 h4 c.tk ha.pa hdb he hpl) fun σ H Q q => callF_imp ha.tp q, tp_callF ha.tp⟩
theorem nil_imp {σ : St} {H : Hp} {Q : List V → Hp → Prop} (h : Lf X W (RA X) mnil σ H Q) : tNil σ H Q := by
  obtain ⟨B, Z, ρ, G, p⟩ := h
  exact p.at G .nil
theorem ve_call0 (h : FnD X.prog X.w X.K X.mg X.base k x ps F) (c : C1 X W k) (hg : Gl X x) (hdb : (x == ("__debug__" : Str)) = false := by decide) : VE X W (.Call (.Name x p) [] [] pos) (mcallV F mnil) := by
  obtain ⟨f, fd, h1, h2, h3, h4⟩ := h.ex
  exact ⟨PE.imp (pe_callG0 h1 c.gd c.room hg h2 h3 h4 c.tk hdb) fun σ H Q q => nil_imp (callV_imp (.ret _) q), tp_callV (.ret _)⟩
theorem fe_call0 (h : FnD X.prog X.w X.K X.mg X.base k x ps F) (c : C1 X W k) (hg : Gl X x) (hdb : (x == ("__debug__" : Str)) = false := by decide) : FE X W (.Call (.Name x p) [] [] pos) (mcallF F mnil) := by
  obtain ⟨f, fd, h1, h2, h3, h4⟩ := h.ex
  exact ⟨PE.imp (pe_callG0 h1 c.gd c.room hg h2 h3 h4 c.tk hdb) fun σ H Q q => nil_imp (callF_imp (.ret _) q), tp_callF (.ret _)⟩
end
theorem takesN {X : Cx} : Takes X WN := fun _ _ x => by
  obtain ⟨_, _, _, _, _, _, _, _, _, _, _, _, _, _, _, _, z⟩ := x
  exact z.elim
/-- within a comprehension -/
theorem C1.blk {X : Cx} {W : WX} {k : Nat} (c : C1 X W k) (scope : Scope) (s : Shared) (H : Hp) (C : Addr) (cl : List (Str × Addr)) (fp : List Addr) : C1 (BX X scope s H C cl fp) WN k := ⟨c.room, c.gd, takesN, c.calm, c.sys, c.nd⟩
end VS

set_option Elab.async false
set_option linter.all false
set_option maxRecDepth 100000
namespace VS
open PySem L2

/-! ### methods that write: x.m(..), x holds its thing alone -/
/-- what such a method does: the thing and the arguments to the new thing and the result -/
def MuD (K : PySem.W.Frag) (r : V → List V → Hp → VK → Prop) (g : D → List D → Option (D × D)) : Prop := ∀ (Z : Addr → Prop) (H : Hp) (a : Addr) (d : D) (vs : List V) (ds : List D) (d' e : D) (Q : VK), Cell K Z H a d → ¬ Z a → RepL K Z H vs ds → g d ds = some (d', e) →
  (∀ v o', (∃ o, H a = some o ∧ Mut (some o)) → (∀ Z2 H2, Later Z H Z2 H2 → H2 a = some o' → Cell K Z2 H2 a d') → Rep K Z H v e → Q v (upd H a o')) → r (.ref a) vs H Q
def dTy : D → String
  | .list _ => "list" | .dict _ => "dict" | _ => ""
theorem later_out {K : PySem.W.Frag} {Z : Addr → Prop} {H : Hp} {a : Addr} {o o' : HO} (e : H a = some o) (m : Mut (some o)) (nz : ¬ Z a) : Later Z H Z (upd H a o') :=
  Later.refl.step (step_at e) (mut_at e m) fun b zb q => by subst q; exact nz zb
def ownAt (ρ : Rho) (i : Nat) : Option D := match ρ[i]? with
  | some (.own d) => some d
  | _ => none
theorem ownAt_eq {ρ : Rho} {i : Nat} {d : D} (h : ownAt ρ i = some d) : ρ[i]? = some (.own d) := by
  unfold ownAt at h
  split at h
  · rename_i q; cases h; exact q
  · cases h
def mmut (i : Nat) (T : String) (g : D → List D → Option (D × D)) (fa : M (List Op)) : M D := fun ρ => match ownAt ρ i with
  | none => .no
  | some d0 => if dTy d0 = T then (mbind fa fun os ρ1 => match vals os, ownAt ρ1 i with
    | some ds, some d => match g d ds with
      | some (d', e) => .ok e (ρ1.set i (.own d'))
      | none => .no
    | _, _ => .no) ρ else .no
theorem tags_setOwn {ρ : Rho} {i : Nat} {d d' : D} (h : ρ[i]? = some (.own d)) : tags (ρ.set i (.own d')) = tags ρ := by
  refine tags_ext fun j => ?_
  by_cases k : i = j
  · subst k
    rw [List.getElem?_set_self (List.getElem?_eq_some_iff.mp h).1, h]
    rfl
  · rw [List.getElem?_set_ne k]
theorem tp_mut {i : Nat} {T : String} {g : D → List D → Option (D × D)} {fa : M (List Op)} (h : TP fa) : TP (mmut i T g fa) := by
  have inner : TP (mbind fa fun os ρ1 => match vals os, ownAt ρ1 i with
    | some ds, some d => match g d ds with
      | some (d', e) => Res.ok e (ρ1.set i (.own d'))
      | none => .no
    | _, _ => .no) := h.bind fun os => by
    refine ⟨fun ρ a ρ' e => ?_, fun ρ c x ρ' e => ?_⟩
    · split at e
      · rename_i ds d e1 e2
        split at e
        · cases e
          exact tags_setOwn (ownAt_eq e2)
        · cases e
      · cases e
    · split at e
      · split at e <;> cases e
      · cases e
  refine ⟨fun ρ a ρ' e => ?_, fun ρ c x ρ' e => ?_⟩ <;> unfold mmut at e <;> split at e
  · cases e
  · split at e
    · exact inner.ok _ _ _ e
    · cases e
  · cases e
  · split at e
    · exact inner.ex _ _ _ _ e
    · cases e
/-- a thing written at its place -/
theorem Good.write {K : PySem.W.Frag} {B Z : Addr → Prop} {H : Hp} {σ : St} {ρ : Rho} {i : Nat} {a : Addr} {o' : HO} {d d' : D} (G : Good K B Z H σ ρ) (e : ρ[i]? = some (.own d)) (es : σ[i]? = some (some (.ref a)))
    (c : ∀ Z2 H2, Later Z H Z2 H2 → H2 a = some o' → Cell K Z2 H2 a d') : Good K B Z (upd H a o') σ (ρ.set i (.own d')) ∧ Step (Owns σ ρ) Z H Z (upd H a o') := by
  have oa : OwnAt σ ρ i a := ⟨⟨d, e⟩, es⟩
  obtain ⟨d0, e0, nz, c0⟩ := G.ownAt oa
  obtain ⟨o, ho, mo⟩ := c0.there
  have s : Step (fun b => b = a) Z H Z (upd H a o') := step_at ho
  have mm := mut_at ho mo
  have hz : ∀ b, Z b → ¬ b = a := fun b zb q => by subst q; exact nz zb
  have l : Later Z H Z (upd H a o') := Later.refl.step s mm hz
  have tg : tags (ρ.set i (.own d')) = tags ρ := tags_setOwn e
  refine ⟨⟨by simpa using G.len, G.bz, fun b zb => ?_, fun j x r e1 e2 => ?_, fun j k b o1 o2 => G.ap j k b (ownAt_tags tg o1) (ownAt_tags tg o2)⟩, s.weak fun b q => by subst q; exact ⟨i, oa⟩⟩
  · obtain ⟨u, q⟩ := G.zt b zb
    exact s.there b u q
  · rcases get_set e2 with ⟨rfl, rfl, _⟩ | ⟨n, e2⟩
    · rw [es] at e1
      cases e1
      exact ⟨a, rfl, nz, c _ _ l upd_same⟩
    · have q := G.sl j x r e1 e2
      cases r with
      | emp => trivial
      | val d => obtain ⟨v, e, r⟩ := q; exact ⟨v, e, r.step s mm hz⟩
      | own d2 =>
        obtain ⟨b, rfl, nz2, c2⟩ := q
        refine ⟨b, rfl, nz2, c2.step s mm hz fun k => ?_⟩
        subst k
        exact n (G.ap j i _ ⟨⟨d2, e2⟩, e1⟩ oa)
      | frz d2 => obtain ⟨b, e, zb, nb, c2⟩ := q; exact ⟨b, e, zb, nb, c2.step s mm hz (hz b zb)⟩
      | exc c f =>
        obtain ⟨b, C, oe, vs, u, e, h1, h2, h3, h4, x⟩ := q
        exact ⟨b, C, oe, vs, u, e, s.keep _ _ h1 fun k => (by
          have z := mm b k
          rw [h1] at z
          exact z), h2, h3, h4, x.step s mm hz⟩
      | scr ns => obtain ⟨b, e, q⟩ := q; exact ⟨b, e, q.step s hz⟩
theorem cell_ty {X : Cx} {Z : Addr → Prop} {H : Hp} {a : Addr} {d : D} {T : String} (c : Cell X.K Z H a d) (e : dTy d = T) : tyV X.K T (.ref a) H := by
  subst e
  cases d with
  | list ds => obtain ⟨vs, h, _⟩ := c; exact .inl ⟨rfl, vs, .inl (.inl h)⟩
  | dict ds => obtain ⟨kv, h, _⟩ := c; exact .inr (.inr (.inl ⟨rfl, .inl ⟨kv, h⟩⟩))
  | _ => exact c.elim
section
variable {X : Cx} {W : WX} {T id : String} {name x : Str} {i : Nat} {fa : M (List Op)} {g : D → List D → Option (D × D)} {r : V → List V → Hp → VK → Prop} {apos cpos pos : Pos} {e : Expr} {es : List Expr}
theorem mut_imp {σ : St} {H : Hp} {Q : VK} (hg : MuD X.K r g) (hf : TP fa) (h : Lf X W (RV X) (mmut i T g fa) σ H Q) : ∃ a, σ[i]? = some (some (.ref a)) ∧ tyV X.K T (.ref a) H ∧ Lf X W (RA X) fa σ H fun xs H2 => r (.ref a) xs H2 Q := by
  obtain ⟨B, Z, ρ, G, p⟩ := h
  unfold mmut at p
  cases e0 : ownAt ρ i with
  | none => rw [e0] at p; exact p.elim
  | some d0 =>
    rw [e0] at p
    dsimp only at p
    by_cases ht : dTy d0 = T
    · rw [if_pos ht] at p
      obtain ⟨a, es, nz, c, ow⟩ := G.own (ownAt_eq e0)
      refine ⟨a, es, cell_ty c ht, ?_⟩
      refine Post.bind hf G p fun vs H1 Z1 ρ1 os s1 G1 t1 r1 p1 => ?_
      cases ev : vals os with
      | none => rw [ev] at p1; exact p1.elim
      | some ds =>
        cases e1 : ownAt ρ1 i with
        | none => rw [ev, e1] at p1; exact p1.elim
        | some d =>
          rw [ev, e1] at p1
          dsimp only at p1
          cases eg : g d ds with
          | none => rw [eg] at p1; exact p1.elim
          | some q =>
            obtain ⟨d', e⟩ := q
            rw [eg] at p1
            have eo := ownAt_eq e1
            obtain ⟨a', es', nz', c', ow'⟩ := G1.own eo
            rw [es] at es'
            cases es'
            refine hg Z1 H1 a d vs ds d' e Q c' nz' (vals_rep ev r1) eg fun v o' ⟨o, ho, mo⟩ hc re => ?_
            obtain ⟨G2, s2⟩ := G1.write (o' := o') eo es hc
            exact p1 v _ Z1 s2 G2 (re.later (later_out (K := X.K) ho mo nz'))
    · rw [if_neg ht] at p; exact p.elim
theorem ve_mut (pa : PlainAttrs T) (slot : Slot T name id) (hty : typeOf (.builtin id) = pure (.type "method_descriptor")) (hm : MtR X id r) (hg : MuD X.K r g) (hv : PE X (.Name x pos) (tVar i)) (ha : VA X W (e :: es) fa)
    (hbase : attributeBase (.Name x pos) name X.env (eval (.Name x pos) X.env) = eval (.Name x pos) X.env := by rfl)
    (hfew : ((backTo cpos (starEach (e :: es) X.env)).all (fun x => !x.1) && (backToKw cpos (keywordEach [] X.env)).all (fun x => x.1.isSome)
      && decide ((e :: es).length + ([] : List Keyword).length + (if ([] : List Keyword).isEmpty then 0 else 1) < 30)) = true := by rfl)
    (hline : (apos.endLine == cpos.line) = true := by rfl) (hs : starEach (e :: es) X.env = (false, eval e X.env) :: starEach es X.env := by rfl) (hplain : (backTo cpos (starEach es X.env)).any (·.1) = false := by rfl) :
    VE X W (.Call (.Attribute (.Name x pos) name apos) (e :: es) [] cpos) (mmut i T g fa) :=
  ⟨PE.imp (pe_bm pa slot hty hm hv ha.pa hbase hfew hline hs hplain) fun σ H Q h => by
    obtain ⟨a, h1, h2, h3⟩ := mut_imp hg ha.tp h
    exact ⟨.ref a, h1, h2, h3⟩, tp_mut ha.tp⟩
theorem ve_mut0 (pa : PlainAttrs T) (slot : Slot T name id) (hty : typeOf (.builtin id) = pure (.type "method_descriptor")) (hm : MtR X id r) (hg : MuD X.K r g) (hv : PE X (.Name x pos) (tVar i))
    (hbase : attributeBase (.Name x pos) name X.env (eval (.Name x pos) X.env) = eval (.Name x pos) X.env := by rfl) (hline : (apos.endLine == cpos.line) = true := by rfl) :
    VE X W (.Call (.Attribute (.Name x pos) name apos) [] [] cpos) (mmut i T g mnil) :=
  ⟨PE.imp (pe_bm0 pa slot hty hm hv hbase hline) fun σ H Q h => by
    obtain ⟨a, h1, h2, h3⟩ := mut_imp hg (.ret _) h
    exact ⟨.ref a, h1, h2, nil_imp h3⟩, tp_mut (.ret _)⟩
end
section
variable {K : PySem.W.Frag}
def gAppend : D → List D → Option (D × D)
  | .list xs, [d] => if xs.length < lineN then some (.list (xs ++ [d]), .none) else none
  | _, _ => none
theorem md_append : MuD K rAppend gAppend := by
  intro Z H a d vs ds d' e Q c nz r eg k
  unfold gAppend at eg
  split at eg
  · split at eg
    · rename_i xs d0 hl
      cases eg
      obtain ⟨us, h, ru⟩ := c
      cases r with
      | cons r t =>
        cases t
        refine ⟨a, us, _, rfl, rfl, h, by rw [← lineN_eq, ru.length]; exact hl, k _ _ ⟨_, h, trivial⟩ (fun Z2 H2 l e => ⟨_, e, (ru.later l).append (.cons (r.later l) .nil)⟩) .non⟩
    · cases eg
  · cases eg
theorem RepL.erase : ∀ {Z : Addr → Prop} {H : Hp} {vs : List V} {ds : List D} (i : Nat), RepL K Z H vs ds → RepL K Z H (vs.eraseIdx i) (ds.eraseIdx i)
  | _, _, _, _, _, .nil => .nil
  | _, _, _, _, 0, .cons _ t => t
  | _, _, _, _, i + 1, .cons r t => .cons r (RepL.erase i t)
def gPopAt : D → List D → Option (D × D)
  | .list xs, [.int i] => if decide (-(2 ^ 62) ≤ i) && decide (i < 2 ^ 62) then (seqIndex? i xs.length).bind fun k => xs[k]?.map fun y => (.list (xs.eraseIdx k), y) else none
  | _, _ => none
theorem md_popAt : MuD K rPopAt gPopAt := by
  intro Z H a d vs ds d' e Q c nz r eg k
  unfold gPopAt at eg
  split at eg
  · split at eg
    · rename_i xs i hb
      simp only [Bool.and_eq_true, decide_eq_true_eq] at hb
      obtain ⟨j, e1, e2⟩ := Option.bind_eq_some_iff.mp eg
      obtain ⟨y, e3, e4⟩ := Option.map_eq_some_iff.mp e2
      cases e4
      obtain ⟨us, h, ru⟩ := c
      cases r with
      | cons r t =>
        cases t
        cases r
        obtain ⟨w, q1, q2⟩ := ru.get e3
        exact ⟨a, us, i, j, w, rfl, rfl, h, by omega, by omega, by rw [ru.length]; exact e1, q1, k _ _ ⟨_, h, trivial⟩ (fun Z2 H2 l e => ⟨_, e, (ru.later l).erase j⟩) q2⟩
    · cases eg
  · cases eg
theorem RepL.dropLast : ∀ {Z : Addr → Prop} {H : Hp} {vs : List V} {ds : List D}, RepL K Z H vs ds → RepL K Z H vs.dropLast ds.dropLast
  | _, _, _, _, .nil => .nil
  | _, _, _, _, .cons r .nil => .nil
  | _, _, _, _, .cons r (.cons r2 t) => .cons r (RepL.dropLast (.cons r2 t))
def gPop : D → List D → Option (D × D)
  | .list xs, [] => xs[xs.length - 1]?.map fun y => (.list xs.dropLast, y)
  | _, _ => none
theorem md_pop : MuD K rPop gPop := by
  intro Z H a d vs ds d' e Q c nz r eg k
  unfold gPop at eg
  split at eg
  · rename_i xs
    obtain ⟨y, e3, e4⟩ := Option.map_eq_some_iff.mp eg
    cases e4
    obtain ⟨us, h, ru⟩ := c
    cases r
    obtain ⟨w, q1, q2⟩ := ru.get e3
    exact ⟨a, us, w, rfl, rfl, h, by rw [ru.length]; exact q1, k _ _ ⟨_, h, trivial⟩ (fun Z2 H2 l e => ⟨_, e, (ru.later l).dropLast⟩) q2⟩
  · cases eg
end
end VS

set_option Elab.async false
set_option linter.all false
set_option maxRecDepth 100000
namespace VS
open PySem L2

/-! ### a value, or a new container -/
def Rt.sl : Rt → Sl
  | .val d => .val d
  | .own d => .own d
abbrev RR (X : Cx) : Rl V Rt := ⟨fun σ ρ H0 Z H v r => match r with
  | .val d => Rep X.K Z H v d
  | .own d => ∃ a, v = .ref a ∧ ¬ Z a ∧ Cell X.K Z H a d ∧ ¬ Owns σ ρ a ∧ H0 a = none, fun {σ ρ H0 H1 Z H b a} h q => by
    cases a with
    | val d => exact q
    | own d => obtain ⟨c, e, z, k, o, n⟩ := q; exact ⟨c, e, z, k, o, h c n⟩⟩
structure ME (X : Cx) (W : WX) (e : Expr) (f : M Rt) : Prop where
  pe : PE X e (Lf X W (RR X) f)
  tp : TP f
def mrv (f : M D) : M Rt := mbind f fun d => mret (.val d)
def mro (f : M D) : M Rt := mbind f fun d => mret (.own d)
section
variable {X : Cx} {W : WX} {e : Expr} {f : M D}
theorem me_v (h : VE X W e f) : ME X W e (mrv f) :=
  ⟨PE.imp h.pe fun σ H Q ⟨B, Z, ρ, G, p⟩ => Post.bind h.tp G p fun b H1 Z1 ρ1 a s G1 t r p1 => p1.at G1 (show (RR X).r σ ρ1 H1 Z1 H1 b (.val a) from r), h.tp.bind fun _ => .ret _⟩
theorem me_o (h : FE X W e f) : ME X W e (mro f) := by
  refine ⟨PE.imp h.pe fun σ H Q ⟨B, Z, ρ, G, p⟩ => ⟨B, Z, ρ, G, ?_⟩, h.tp.bind fun _ => .ret _⟩
  unfold mro mbind at p
  cases e : f ρ with
  | ok d ρ1 => rw [e] at p; exact fun b H' Z' s g r => p b H' Z' s g r
  | exc c fs ρ1 => rw [e] at p; exact p
  | no => rw [e] at p; exact p
end
/-- a, b = x, y -/
def spar (i j : Nat) (f g : M Rt) : SM := sbind f fun r => sbind g fun q ρ => .next ((ρ.set i r.sl).set j q.sl)
theorem RR.later {X : Cx} {σ : St} {ρ ρ' : Rho} {H0 H H' : Hp} {Z Z' O : Addr → Prop} {v : V} {r : Rt} (s : Step (Owns σ ρ) Z H Z' H') (m : MutO (Owns σ ρ) H) (hz : ∀ a, Z a → ¬ Owns σ ρ a) (t : tags ρ' = tags ρ) (q : (RR X).r σ ρ H0 Z H v r) : (RR X).r σ ρ' H0 Z' H' v r := by
  cases r with
  | val d => exact Rep.step s m hz q
  | own d =>
    obtain ⟨a, e, nz, c, no, nn⟩ := q
    refine ⟨a, e, fun z => ?_, c.step s m hz no, fun o => no (owns_tags t a o), nn⟩
    rcases s.new a z with k | k
    · exact nz k
    · obtain ⟨u, h, _⟩ := c.there
      rw [h] at k; cases k
/-- a slot filled -/
theorem set_rt {X : Cx} {P : List Nat} {B Z : Addr → Prop} {H H0 : Hp} {σ : St} {ρ : Rho} {i : Nat} {v : V} {r : Rt} (G : Good X.K B Z H σ ρ) (hP : i ∉ P) (q : (RR X).r σ ρ H0 Z H v r) : Good X.K B Z H (σ.set i (some v)) (ρ.set i r.sl) := by
  cases r with
  | val d => exact G.setVal q
  | own d =>
    obtain ⟨a, rfl, nz, c, no, nn⟩ := q
    exact G.set (i := i) (r := .own d) (x := some (.ref a)) ⟨a, rfl, nz, c⟩ fun b _ e => by cases e; exact no
theorem sstep_rt {X : Cx} {P : List Nat} {Z0 Z : Addr → Prop} {H H0 : Hp} {σ σ0 : St} {ρ ρ0 : Rho} {i : Nat} {v : V} {r : Rt} (hP : i ∉ P) (s : SStep P Z0 H0 σ0 ρ0 Z H σ ρ) (q : (RR X).r σ ρ H0 Z H v r) : SStep P Z0 H0 σ0 ρ0 Z H (σ.set i (some v)) (ρ.set i r.sl) := by
  refine ⟨s.keep, s.new, fun a h => ?_, s.there, fun j hj => (pin_set hP j hj).trans (s.pin j hj)⟩
  rcases loc_set h with h | ⟨⟨d, e⟩, e2⟩
  · exact s.loc a h
  · cases r with
    | val d => rcases e with e | e <;> cases e
    | own d =>
      obtain ⟨b, rfl, _, _, _, nn⟩ := q
      cases e2
      exact .inr nn
theorem ds_par {X : Cx} {W : WX} {P : List Nat} {i j : Nat} {x y : Str} {a b : Expr} {f g : M Rt} {px py pt pos : Pos} {kt k2 : Nat} {pt2 : Pos} (hc : X.calm = true) (hN : X.N.Nodup) (hi : X.N[i]? = some x) (hj : X.N[j]? = some y) (hij : i ≠ j)
    (hx : X.env.scope.names.lookup x = some .local) (hy : X.env.scope.names.lookup y = some .local) (hPi : i ∉ P) (hPj : j ∉ P) (ha : ME X W a f) (hb : ME X W b g)
    (hw : swappedStores [.Tuple [.Name x px, .Name y py] kt pt] (.Tuple [a, b] k2 pt2) X.env = pure (some [x, y]))
    (hs : swapsWithSole [.Tuple [.Name x px, .Name y py] kt pt] (.Tuple [a, b] k2 pt2) pos.line X.env = pure false := by rfl)
    (he : starEach [a, b] X.env = (false, eval a X.env) :: starEach [b] X.env := by rfl) (he2 : starEach [b] X.env = (false, eval b X.env) :: starEach [] X.env := by rfl) :
    DS X W P (.Assign [.Tuple [.Name x px, .Name y py] kt pt] (.Tuple [a, b] k2 pt2) pos) (spar i j f g) := by
  refine ⟨PS.imp (ps_par hc hN hi hj hij hx hy (pa_cons ha.pe (pa_cons hb.pe pa_nil he2) he) hw hs) fun E σ H ⟨B, Z, ρ, G, p⟩ => ?_⟩
  refine SPost.bind (R := RR X) ha.tp G p fun v H1 Z1 ρ1 r s1 G1 t1 q1 p1 => ?_
  have p2 : SPost X W P B Z1 H1 σ ρ1 (sbind g (fun q ρ => .next ((ρ.set i r.sl).set j q.sl)) ρ1) E := p1.after (s1.s t1)
  refine ⟨B, Z1, ρ1, G1, ?_⟩
  unfold sbind at p2 p1
  cases eg : g ρ1 with
  | exc c fs ρ2 =>
    rw [eg] at p2
    exact fun H' Z' C dx s g m x => p2 σ H' Z' C dx (s.s (hb.tp.ex _ _ _ _ eg)) g m x
  | no => rw [eg] at p2; exact p2
  | ok q ρ2 =>
    rw [eg] at p2 p1
    intro u H2 Z2 s2 G2 q2
    have t2 := hb.tp.ok _ _ _ eg
    refine ⟨v, u, rfl, ?_⟩
    have qv : (RR X).r σ ρ2 H Z2 H2 v r := RR.later (O := fun _ => False) s2 G1.mut G1.nz t2 q1
    have qu : (RR X).r σ ρ2 H Z2 H2 u q := (RR X).anti (fun c e => s1.free e) q2
    have G3 := set_rt (P := P) G2 hPi qv
    have s3 : SStep P Z H σ ρ Z2 H2 σ ρ2 := (s1.s t1).trans (s2.s t2)
    have s4 := sstep_rt (X := X) hPi s3 qv
    have qu' : (RR X).r (σ.set i (some v)) (ρ2.set i r.sl) H Z2 H2 u q := by
      cases q with
      | val d => exact qu
      | own d =>
        obtain ⟨a2, rfl, nz, c, no, nn⟩ := q2
        refine ⟨a2, rfl, nz, c, fun ⟨k, o⟩ => ?_, s1.free nn⟩
        rcases ownAt_set o with ⟨_, o⟩ | ⟨_, ⟨d', e⟩, e2⟩
        · exact no ⟨k, o⟩
        · cases e2
          cases r with
          | val d => cases e
          | own d =>
            obtain ⟨b, e3, _, c3, _, _⟩ := q1
            cases e3
            obtain ⟨w, hw, _⟩ := c3.there
            rw [nn] at hw; cases hw
    have G4 := set_rt (P := P) G3 hPj qu'
    have s5 := sstep_rt (X := X) hPj s4 qu'
    exact p1 _ H2 Z2 s5 G4

/-! ### stores into what one name holds -/
/-- x[k] = e: a list -/
def sputL (i : Nat) (fe fi : M D) : SM := sbind fe fun v ρ => if (ownAt ρ i).isSome = true then (sbind fi fun k ρ => match k, ownAt ρ i with
  | .int z, some (.list xs) => match ixN xs.length z with
    | some j => .next (ρ.set i (.own (.list (xs.set j v))))
    | none => .no
  | _, _ => .no) ρ else .no
/-- x[k] = e: a dict -/
def sputD (i : Nat) (fe fi : M D) : SM := sbind fe fun v ρ => if (ownAt ρ i).isSome = true then (sbind fi fun k ρ => match keyOf k, ownAt ρ i with
  | some key, some (.dict xs) => if xs.length < lineN then .next (ρ.set i (.own (.dict (dput xs key v)))) else .no
  | _, _ => .no) ρ else .no
section
variable {X : Cx} {W : WX} {P : List Nat} {i : Nat} {x : Str} {e ie : Expr} {fe fi : M D} {pos pos' p : Pos}
theorem put_core {t : V → V → V → Hp → (Hp → Prop) → Prop} {k : D → D → SM} {E : Ends} {σ : St} {H : Hp} (he : TP fe) (hi : TP fi)
    (h : LS X W P (sbind fe fun v ρ => if (ownAt ρ i).isSome = true then (sbind fi fun q => k v q) ρ else .no) E σ H)
    (c : ∀ B Z H ρ a v d iv q d0, Good X.K B Z H σ ρ → ownAt ρ i = some d0 → σ[i]? = some (some (.ref a)) → Rep X.K Z H v d → Rep X.K Z H iv q → SPost X W P B Z H σ ρ (k d q ρ) E → t (.ref a) iv v H fun H3 => E.nx σ H3) :
    Lf X W (RV X) fe σ H fun v H1 => ∃ o, σ[i]? = some (some o) ∧ Lf X W (RV X) fi σ H1 fun iv H2 => t o iv v H2 fun H3 => E.nx σ H3 := by
  obtain ⟨B, Z, ρ, G, p⟩ := h
  refine SPost.bind (R := RV X) he G p fun v H1 Z1 ρ1 d s1 G1 t1 r1 p1 => ?_
  by_cases ho : (ownAt ρ1 i).isSome = true
  · rw [if_pos ho] at p1
    obtain ⟨d0, e0⟩ := Option.isSome_iff_exists.mp ho
    obtain ⟨a, es, nz, c0, ow⟩ := G1.own (ownAt_eq e0)
    refine ⟨.ref a, es, ?_⟩
    have p2 : SPost X W P B Z1 H1 σ ρ1 (sbind fi (fun q => k d q) ρ1) E := p1.after (s1.s t1)
    refine SPost.bind (R := RV X) hi G1 p2 fun iv H2 Z2 ρ2 q s2 G2 t2 r2 p3 => ?_
    have e1 : ∃ d1, ownAt ρ2 i = some d1 := by
      have := tags_get t2 i
      rw [ownAt_eq e0] at this
      cases e : ρ2[i]? with
      | none => rw [e] at this; cases this
      | some r =>
        rw [e] at this
        obtain ⟨d1, rfl⟩ := tag_own (r := r) (Option.some.inj this)
        exact ⟨d1, by unfold ownAt; rw [e]⟩
    obtain ⟨d1, e1⟩ := e1
    exact c B Z2 H2 ρ2 a v d iv q d1 G2 e1 es (r1.step s2 G1.mut G1.nz) r2 (p3.after (s2.s t2))
  · rw [if_neg ho] at p1; exact p1.elim
theorem ds_putL (he : VE X W e fe) (hv : PE X (.Name x p) (tVar i)) (hi : VE X W ie fi)
    (ha : ∀ v, assign (.Subscript (.Name x p) ie pos') X.env v = (do
      let ov ← holding [v] (eval (.Name x p) X.env)
      let iv ← holding [v, ov] (eval ie X.env)
      standAt pos'
      holding [v, ov, iv] (setItem ov iv v)
      release [v, ov, iv] []) := by intro _; rfl)
    (hs : swapsWithSole [.Subscript (.Name x p) ie pos'] e pos.line X.env = pure false := by rfl) (hw : swappedStores [.Subscript (.Name x p) ie pos'] e X.env = pure none := by rfl)
    (h1 : (assignEach [.Subscript (.Name x p) ie pos'] X.env).map (·.2) = [assign (.Subscript (.Name x p) ie pos') X.env] := by rfl) :
    DS X W P (.Assign [.Subscript (.Name x p) ie pos'] e pos) (sputL i fe fi) := by
  refine ⟨PS.imp (ps_asg he.pe (pg_sub hv hi.pe set_list ha) hs hw h1) fun E σ H h => ?_⟩
  refine put_core (i := i) (t := rSetL) he.tp hi.tp h fun B Z H ρ a v d iv q d0 G e0 es rv ri p => ?_
  rw [e0] at p
  cases q with
  | int z =>
    cases ri
    cases d0 with
    | list xs =>
      dsimp only at p
      cases ej : ixN xs.length z with
      | none => rw [ej] at p; exact p.elim
      | some j =>
        rw [ej] at p
        obtain ⟨a', es', nz, ⟨us, h1, ru⟩, ow⟩ := G.own (ownAt_eq e0)
        rw [es] at es'
        cases es'
        obtain ⟨G2, s2⟩ := G.write (d' := .list (xs.set j d)) (o' := .lst (us.set j v)) (ownAt_eq e0) es fun Z2 H2 l e => ⟨_, e, (ru.later l).set (rv.later l) j⟩
        exact ⟨a, us, z, j, rfl, rfl, h1, by rw [ru.length]; exact ej, p _ _ _ (s2.s (tags_setOwn (ownAt_eq e0))) G2⟩
    | _ => exact p.elim
  | _ => exact p.elim
theorem ds_putD (hu : X.A.units + 1 < cLine) (he : VE X W e fe) (hv : PE X (.Name x p) (tVar i)) (hi : VE X W ie fi) (hs : swapsWith e (some (.Subscript (.Name x p) ie pos')) pos.line X.env = pure false := by rfl) :
    DS X W P (.Assign [.Subscript (.Name x p) ie pos'] e pos) (sputD i fe fi) := by
  refine ⟨PS.imp (ps_dput hu hv hi.pe he.pe hs) fun E σ H h => ?_⟩
  refine put_core (i := i) (t := fun x y v H3 Q => ∃ a H4, x = .ref a ∧ DPut H3 a y v H4 ∧ Q H4) he.tp hi.tp h fun B Z H ρ a v d iv q d0 G e0 es rv ri p => ?_
  rw [e0] at p
  cases ek : keyOf q with
  | none => rw [ek] at p; exact p.elim
  | some key =>
    rw [ek] at p
    have eq := keyOf_eq ek
    subst eq
    cases d0 with
    | dict xs =>
      dsimp only at p
      by_cases hl : xs.length < lineN
      · rw [if_pos hl] at p
        obtain ⟨a', es', nz, ⟨kv, h1, ru⟩, ow⟩ := G.own (ownAt_eq e0)
        rw [es] at es'
        cases es'
        obtain ⟨G2, s2⟩ := G.write (d' := .dict (dput xs key d)) (o' := .dK (putK kv key v)) (ownAt_eq e0) es fun Z2 H2 l e => ⟨_, e, RepD.put key (rv.later l) (ru.later l)⟩
        have ei := (RepB.of ri).key
        subst ei
        exact ⟨a, _, rfl, .k h1 (by rw [← lineN_eq, ru.length]; exact hl), p _ _ _ (s2.s (tags_setOwn (ownAt_eq e0))) G2⟩
      · rw [if_neg hl] at p; exact p.elim
    | _ => exact p.elim
/-- x += e: a number -/
def saugI (i : Nat) (f : Int → Int → Int) (fe : M D) : SM := fun ρ => match ρ[i]? with
  | some (.val (.int z)) => (sbind fe fun d ρ => match d with
    | .int w => .next (ρ.set i (.val (.int (f z w))))
    | _ => .no) ρ
  | _ => .no
theorem ds_augAdd {pos2 : Pos} (hN : X.N.Nodup) (hi : X.N[i]? = some x) (hx : L2.Loc X.env.scope x) (hP : i ∉ P) (he : VE X W e fe) (hf : X.fn x = true ∨ X.env.scope.names.lookup x = some .local := by first | exact .inl rfl | exact .inr rfl | assumption) :
    DS X W P (.AugAssign (.Name x pos2) .Add e pos) (saugI i (· + ·) fe) := by
  refine ⟨PS.imp (ps_aug hN hi hx he.pe ip_add hf) fun E σ H ⟨B, Z, ρ, G, p⟩ => ?_⟩
  unfold saugI at p
  split at p
  · rename_i z q
    obtain ⟨v, e1, r⟩ := G.val q
    cases r
    refine ⟨_, e1, ?_⟩
    refine SPost.bind (R := RV X) he.tp G p fun y H1 Z1 ρ1 d s1 G1 t1 r1 p1 => ?_
    cases d with
    | int w =>
      cases r1
      exact ⟨z, w, rfl, rfl, p1 _ H1 Z1 ((s1.s t1).trans (.setVal hP)) (G1.setVal (.int _))⟩
    | _ => exact p1.elim
  · exact p.elim
end

/-! ### what one name held is shared from now on -/
def sfz (i : Nat) (t : SM) : SM := fun ρ => match ρ[i]? with
  | some (.own d) => t (ρ.set i (.val d))
  | _ => .no
theorem pss_frz {X : Cx} {sts : List Stmt} {t : TS} (h : PSs X sts t) : PSs X sts (fun E σ H => t E σ H ∨ ∃ d u, H d = some u ∧ Mut (some u) ∧ ∀ od, t E σ (upd H d (.frz od u))) := by
  refine ⟨fun pins s σ H D I hw => ?_⟩
  rcases hw with hw | ⟨d, u, hd, mu, hw⟩
  · exact h.run pins s σ H D I hw
  · obtain ⟨od, I2⟩ := I.lock hd mu
    exact h.run pins s σ _ D I2 (hw od)
theorem Good.own_val {K : PySem.W.Frag} {B Z : Addr → Prop} {H : Hp} {σ : St} {ρ : Rho} {i : Nat} {a : Addr} {d : D} {Z' : Addr → Prop} {H' : Hp} (G : Good K B Z H σ ρ) (e : ρ[i]? = some (.own d)) (es : σ[i]? = some (some (.ref a)))
    (hz : Z' = fun b => Z b ∨ b = a) (same : ∀ b, b ≠ a → H' b = H b) (l : Later Z H Z' H') (r : Rep K Z' H' (.ref a) d) (th : ∃ o, H' a = some o) : Good K B Z' H' σ (ρ.set i (.val d)) := by
  subst hz
  have oa : OwnAt σ ρ i a := ⟨⟨d, e⟩, es⟩
  have sub : ∀ j b, OwnAt σ (ρ.set i (.val d)) j b → j ≠ i ∧ OwnAt σ ρ j b := fun j b ⟨⟨d', e1⟩, q1⟩ => by
    rcases get_set e1 with ⟨_, e2, _⟩ | ⟨n, e2⟩
    · cases e2
    · exact ⟨n, ⟨d', e2⟩, q1⟩
  have ne : ∀ j b, j ≠ i → OwnAt σ ρ j b → b ≠ a := fun j b n o q => by subst q; exact n (G.ap j i _ o oa)
  refine ⟨by simpa using G.len, fun b h => .inl (G.bz b h), fun b zb => ?_, fun j x q e1 e2 => ?_, fun j k b o1 o2 => G.ap j k b (sub j b o1).2 (sub k b o2).2⟩
  · by_cases k : b = a
    · subst k; exact th
    · rw [same b k]
      exact G.zt b (zb.resolve_right k)
  · rcases get_set e2 with ⟨rfl, rfl, _⟩ | ⟨n, e2⟩
    · rw [es] at e1
      cases e1
      exact ⟨_, rfl, r⟩
    · have k := G.sl j x q e1 e2
      cases q with
      | emp => trivial
      | val d2 => obtain ⟨v, e, r⟩ := k; exact ⟨v, e, r.later l⟩
      | own d2 =>
        obtain ⟨b, rfl, nz, c⟩ := k
        have nb := ne j b n ⟨⟨d2, e2⟩, e1⟩
        refine ⟨b, rfl, fun z => z.elim nz nb, ?_⟩
        cases d2 with
        | list ds => obtain ⟨vs, h, r⟩ := c; exact ⟨vs, by rw [same b nb]; exact h, r.later l⟩
        | dict ds => obtain ⟨kv, h, r⟩ := c; exact ⟨kv, by rw [same b nb]; exact h, r.later l⟩
        | _ => exact c.elim
      | frz d2 =>
        obtain ⟨b, e, zb, nb, c⟩ := k
        refine ⟨b, e, .inl zb, nb, ?_⟩
        cases d2 with
        | list ds => obtain ⟨vs, h, r⟩ := c; exact ⟨vs, l.keep _ _ zb h, r.later l⟩
        | dict ds => obtain ⟨o, kv, h, r⟩ := c; exact ⟨o, kv, l.keep _ _ zb h, r.later l⟩
        | _ => exact c.elim
      | exc c f =>
        obtain ⟨b, C, oe, vs, u, e, h1, h2, h3, h4, x⟩ := k
        obtain ⟨_, _, _, ca⟩ := G.ownAt oa
        obtain ⟨o1, ho1, mo1⟩ := ca.there
        have na : ∀ b1 o2, H b1 = some o2 → ¬ Mut (some o2) → b1 ≠ a := fun b1 o2 q n z => by
          rw [z, ho1] at q
          cases q
          exact n mo1
        refine ⟨b, C, oe, vs, u, e, by rw [same b (na _ _ h1 fun z => z)]; exact h1, h2, h3, h4, ?_⟩
        cases f with
        | nil => exact x
        | cons f fs => obtain ⟨d1, us, e1, q1, r1, q2⟩ := x; exact ⟨d1, us, e1, by rw [same d1 (na _ _ q1 fun z => z)]; exact q1, r1.later l, q2⟩
      | scr ns =>
        obtain ⟨b, e, q⟩ := k
        refine ⟨b, e, q.elim (fun k => .inl ⟨.inl k.1, ?_⟩) .inr⟩
        rcases k.2 with h | ⟨o, h⟩
        · exact .inl (l.keep _ _ k.1 h)
        · exact .inr ⟨o, l.keep _ _ k.1 h⟩
theorem dss_freeze {X : Cx} {W : WX} {P : List Nat} {sts : List Stmt} {t : SM} (i : Nat) (h : DSs X W P sts t) : DSs X W P sts (sfz i t) := by
  refine ⟨PSs.imp (pss_frz h.ps) fun E σ H ⟨B, Z, ρ, G, p⟩ => ?_⟩
  unfold sfz at p
  split at p
  · · rename_i d e
      obtain ⟨a, es, nz, c, ow⟩ := G.own e
      have lc : ∀ b, VS.Loc σ (ρ.set i (.val d)) b → VS.Loc σ ρ b := fun b ⟨j, ⟨d', e1⟩, q1⟩ => by
        refine ⟨j, ⟨d', ?_⟩, q1⟩
        rcases e1 with e1 | e1
        · rcases get_set e1 with ⟨_, e2, _⟩ | ⟨_, e2⟩
          · cases e2
          · exact .inl e2
        · rcases get_set e1 with ⟨_, e2, _⟩ | ⟨_, e2⟩
          · cases e2
          · exact .inr e2
      have step : ∀ {H' : Hp}, (∀ b, b ≠ a → H' b = H b) → (∃ o, H' a = some o) → SStep P Z H σ ρ (fun b => Z b ∨ b = a) H' σ (ρ.set i (.val d)) := fun {H'} same th => by
        refine ⟨fun b o q n => ?_, fun b z => z.elim .inl fun k => .inr (.inr (k ▸ owns_loc ow)), fun b hb => .inl (lc b hb), fun b o q => ?_, fun _ _ => rfl⟩
        · rw [same b fun k => n (k ▸ owns_loc ow)]; exact q
        · by_cases k : b = a
          · subst k; exact th
          · exact ⟨o, by rw [same b k]; exact q⟩
      cases d with
      | list ds =>
        obtain ⟨vs, h, r⟩ := c
        exact .inl ⟨B, _, _, G.own_val e es rfl (fun _ _ => rfl) grow_later (.lst (.inr rfl) h (r.later grow_later)) ⟨_, h⟩, p.after (step (fun _ _ => rfl) ⟨_, h⟩)⟩
      | dict ds =>
        obtain ⟨kv, h, r⟩ := c
        refine .inr ⟨a, _, h, trivial, fun od => ?_⟩
        have l1 : Later Z H Z (upd H a (.frz od (.dK kv))) := later_out (K := X.K) h trivial nz
        have l2 : Later Z H (fun b => Z b ∨ b = a) (upd H a (.frz od (.dK kv))) := ⟨fun b z => .inl z, l1.keep, l1.tup⟩
        exact ⟨B, _, _, G.own_val e es rfl (fun b n => upd_ne n) l2 (.dic (.inr rfl) upd_same (r.later l2)) ⟨_, upd_same⟩, p.after (step (fun b n => upd_ne n) ⟨_, upd_same⟩)⟩
      | _ => exact c.elim
  · exact p.elim
end VS

set_option Elab.async false
set_option linter.all false
set_option maxRecDepth 100000
namespace VS
open PySem PySem.Spec PyProof.Rows L2

/-! ### t[::-1] of a tuple -/
theorem rev_pick (xs : Array Value) : ((List.range xs.size).filterMap fun (m : Nat) => xs[(((xs.size : Int) - 1) + (m : Int) * (-1)).toNat]?).toArray = xs.toList.reverse.toArray := by
  congr 1
  obtain ⟨l⟩ := xs
  simp only [List.size_toArray, List.getElem?_toArray]
  have h : ∀ m ∈ List.range l.length, l[(((l.length : Int) - 1) + (m : Int) * (-1)).toNat]? = l.reverse[m]? := fun m hm => by
    have hm := List.mem_range.mp hm
    rw [List.getElem?_reverse hm]
    congr 1
    omega
  have cong : ∀ (q : List Nat) (f g : Nat → Option Value), (∀ m ∈ q, f m = g m) → q.filterMap f = q.filterMap g := by
    intro q f g
    induction q with
    | nil => intro _; rfl
    | cons a q ih =>
      intro hq
      rw [List.filterMap_cons, List.filterMap_cons, hq a List.mem_cons_self, ih fun m h => hq m (List.mem_cons_of_mem _ h)]
  rw [cong _ _ _ h]
  have : ∀ (r : List Value) (n : Nat), n = r.length → (List.range n).filterMap (fun m => r[m]?) = r := by
    intro r n e
    subst e
    refine List.ext_getElem? fun i => ?_
    have e2 : (List.range r.length).filterMap (fun m => r[m]?) = (List.range r.length).pmap (fun m h => r[m]'h) (fun m h => List.mem_range.mp h) := by
      have : ∀ (q : List Nat) (hq : ∀ m ∈ q, m < r.length), q.filterMap (fun m => r[m]?) = q.pmap (fun m h => r[m]'h) hq := by
        intro q
        induction q with
        | nil => intro _; rfl
        | cons a q ih =>
          intro hq
          rw [List.filterMap_cons, List.getElem?_eq_getElem (hq a List.mem_cons_self)]
          rw [List.pmap_cons, ih fun m h => hq m (List.mem_cons_of_mem _ h)]
      exact this _ _
    rw [e2]
    by_cases hi : i < r.length
    · simp [hi]
    · simp [hi]
  exact this _ _ (by simp)
section
variable {prog : Program} {w : World} {A : Around} {E : Value → Shared → Prop} {s : Shared}
theorem applied_rev {sl : Addr} {vl vu vs : Value} {n : Nat} {Q : Int × Int × Nat → Shared → Prop} (hs : s.heap.IsSliceOf sl vl vu vs) (pl : IsPart vl none) (pu : IsPart vu none) (ps : IsPart vs (some (-1)))
    (h : Q ((n : Int) - 1, -1, n) s) : wpAny (model prog w) A (Builtin.Slice.sliceApplied (.ref sl) (pure (n : Int))) Q E s := by
  obtain ⟨os, hos, hcs, hds⟩ := id hs
  unfold Builtin.Slice.sliceApplied Builtin.Slice.sliceFields
  refine wpAny_bind (wpAny_bind (wpAny_field hos hds (x := vl) rfl (wpAny_bind (wpAny_field hos hds (x := vu) rfl (wpAny_bind (wpAny_field hos hds (x := vs) rfl (wpAny_pure ?_)))))))
  refine wpAny_bind (HT.slicePart_ ps ?_)
  show wpAny _ _ (if (((some (-1) : Option Int).getD 1) == 0) = true then _ else _) _ _ s
  rw [if_neg (by decide)]
  refine wpAny_bind (HT.slicePart_ pl (wpAny_bind (HT.slicePart_ pu (wpAny_bind (wpAny_pure ?_)))))
  show wpAny _ _ (match Builtin.Slice.sliceAdjust none none (-1) (n : Int) with | (lo, hi) => pure (lo, (-1 : Int), Builtin.Slice.slicePlaces lo hi (-1))) _ _ s
  have e1 : Builtin.Slice.sliceAdjust none none (-1) (n : Int) = ((n : Int) - 1, -1) := by
    unfold Builtin.Slice.sliceAdjust
    simp
  rw [e1]
  show wpAny _ _ (pure ((n : Int) - 1, (-1 : Int), Builtin.Slice.slicePlaces ((n : Int) - 1) (-1) (-1))) _ _ s
  have e2 : Builtin.Slice.slicePlaces ((n : Int) - 1) (-1) (-1) = n := by
    unfold Builtin.Slice.slicePlaces
    simp only [show ¬ ((-1 : Int) > 0) by omega, if_false, Int.neg_neg, Int.ediv_one]
    split <;> omega
  rw [e2]
  exact wpAny_pure h
theorem tup_rev {t sl : Addr} {items : Array Value} {vl vu vs : Value} {Q : Value → Shared → Prop} (ht : IsTup s.heap t items) (hs : s.heap.IsSliceOf sl vl vu vs) (pl : IsPart vl none) (pu : IsPart vu none) (ps : IsPart vs (some (-1)))
    (h : Q (.ref s.heap.objs.size) { s with heap := s.heap.push { cls := .type "tuple", data := .seq items.toList.reverse.toArray } }) (hsz : items.size ≤ sizeLine) : wpAny (model prog w) A (getItem (.ref t) (.ref sl)) Q E s := by
  have hok : sizeOk (.seq items.toList.reverse.toArray) := by
    show items.toList.reverse.toArray.size ≤ sizeLine
    rw [List.size_toArray, List.length_reverse, Array.length_toList]
    exact hsz
  obtain ⟨os, hos, hcs, hds⟩ := id hs
  have hT : s.TypeIs (.ref sl) "slice" := ⟨os, hos, hcs⟩
  unfold getItem
  try with_reducible refine wpAny_holding ?_
  first | refine wpAny_bind (wpAny_pure ?_) | skip
  refine wpAny_bind (wpAny_sequenceKey ht.typeIs (by decide) ?_)
  refine wpAny_bind (wpAny_callSpecial?_slot (name := Str.ofString "__getitem__") ht.typeIs slot_tuple_getitem (wpAny_call_entry slot_tuple_getitem ht.typeIs entry_tuple_getitem ?_ (args_tuple_getitem _ _)))
  show wpAny _ _ (Builtin.Tuple.tupleItemsOf (.ref t) >>= _) _ _ s
  refine wpAny_bind (tupleItemsOf_ ht ?_)
  refine wpAny_bind (wpAny_typeOf hT ?_)
  rw [if_pos (by decide)]
  refine wpAny_bind (applied_rev (n := items.size) hs pl pu ps ?_)
  have no : ¬ ((((items.size : Int) - 1) == 0 && (-1 : Int) == 1 && items.size == items.size) = true) := by
    simp
  show wpAny _ _ (if (((items.size : Int) - 1) == 0 && (-1 : Int) == 1 && items.size == items.size) = true then _ else _) _ _ s
  rw [if_neg no, rev_pick]
  first
    | exact wpAny_bind (m := Builtin.Tuple.tupleExact _) (wpAny_newObj_type (wpAny_pure ⟨_, rfl, wpAny_pure h⟩) hok)
    | exact wpAny_bind (m := Builtin.Tuple.tupleExact _) (wpAny_newObj_type (wpAny_bind (wpAny_pure (wpAny_pure ⟨_, rfl, wpAny_pure h⟩))) hok)
    | exact wpAny_bind (wpAny_bind (m := Builtin.Tuple.tupleExact _) (wpAny_newObj_type (wpAny_pure (wpAny_pure ⟨_, rfl, wpAny_pure h⟩)) hok))
    | exact wpAny_bind (wpAny_bind (m := Builtin.Tuple.tupleExact _) (wpAny_newObj_type (wpAny_pure ⟨_, rfl, wpAny_pure h⟩) hok))
end

/-! ### slices by value -/
def cutD (xs : List D) (lo hi : Option Int) : List D := (xs.drop (HT.sIx xs.length 0 lo)).take (HT.sIx xs.length xs.length hi - HT.sIx xs.length 0 lo)
def dSl (d : D) (lo hi : Option Int) : Option D := match d with
  | .list xs => some (.list (cutD xs lo hi))
  | .tuple xs => some (.tuple (cutD xs lo hi))
  | .str z => if z.length ≤ lineN then some (.str (cutS z lo hi)) else none
  | _ => none
def rSlV (K : PySem.W.Frag) : V → Option Int → Option Int → Hp → VK → Prop := fun x lo hi H Q => rSlL K x lo hi H Q ∨ (rSlA K x lo hi H Q ∨ rSlS x lo hi H Q)
theorem sl_all {X : Cx} : SlR X (rSlV X.K) := sl_list.or (sl_tupA.or sl_str)
theorem RepL.cut {K : PySem.W.Frag} {Z : Addr → Prop} {H : Hp} {vs : List V} {ds : List D} (r : RepL K Z H vs ds) (lo hi : Option Int) : RepL K Z H (cutV vs lo hi) (cutD ds lo hi) := by
  unfold cutV cutD
  rw [r.length]
  exact (r.drop _).take _
theorem cutD_whole {xs : List D} {lo hi : Option Int} (h : HT.sIx xs.length 0 lo = 0 ∧ HT.sIx xs.length xs.length hi = xs.length) : cutD xs lo hi = xs := by
  unfold cutD
  rw [h.1, h.2]
  simp
theorem sl_ok {K : PySem.W.Frag} {Z : Addr → Prop} {H : Hp} {x : V} {d e : D} {lo hi : Option Int} {Q : VK} (r : RepB K Z H x d) (t : Trk Z H) (h : dSl d lo hi = some e) (k : ∀ v H' Z', Ext Z H Z' H' → Trk Z' H' → Rep K Z' H' v e → Q v H') : rSlV K x lo hi H Q := by
  unfold dSl at h
  split at h
  · cases h
    obtain ⟨a, us, rfl, h1, r2⟩ := r.lst
    refine .inl ⟨a, us, rfl, .inl (.inl h1), fun l hl => ?_⟩
    have x : Ext Z H (fun a => Z a ∨ a = l) (upd H l (.lst (cutV us lo hi))) := ext_new hl
    exact k _ _ _ x (trk_upd t) (.lst (.inr rfl) upd_same ((r2.cut lo hi).ext x))
  · cases h
    have w := r.rep_tup
    obtain ⟨a, us, rfl, h1, r2⟩ := r.tup
    refine .inr (.inl ⟨a, us, rfl, h1, fun hw => ?_, fun hw l hl => ?_⟩)
    · rw [r2.length] at hw
      rw [cutD_whole hw] at k
      exact k _ H Z .refl t w
    · have x : Ext Z H Z (upd H l (.tup (cutV us lo hi))) := Ext.upd hl Z (fun _ h => h) fun _ h => .inl h
      exact k _ _ _ x (Trk.ext t x) (.tup (SqT.of upd_same) ((r2.cut lo hi).ext x))
  · split at h
    · rename_i z hz
      cases h
      exact .inr (.inr ⟨_, r.str, by rw [← lineN_eq]; exact hz, k _ H Z .refl t (.str _)⟩)
    · cases h
  · cases h
/-- a part of a slice -/
structure OE (X : Cx) (W : WX) (e : Option Expr) (f : M (Option Int)) : Prop where
  po : PO X e (Lf X W ⟨fun _ _ _ _ _ a b => a = b, fun _ h => h⟩ f)
  tp : TP f
abbrev RI : Rl (Option Int) (Option Int) := ⟨fun _ _ _ _ _ a b => a = b, fun _ h => h⟩
theorem PO.imp {X : Cx} {e : Option Expr} {t t' : TO} (h : PO X e t) (i : ∀ σ H Q, t' σ H Q → t σ H Q) : PO X e t' := ⟨fun pins s σ H Q I q => h.run pins s σ H Q I (i σ H Q q)⟩
def mpart (f : M D) : M (Option Int) := mbind f fun d => match d with
  | .int i => mret (some i)
  | _ => mno
def mslice (fo : M Op) (fl fh : M (Option Int)) : M D := mbind fo fun o => mbind fl fun l => mbind fh fun h => mbind (mder o) fun d => mopt (dSl d l h)
section
variable {X : Cx} {W : WX} {e : Expr} {lo hi : Option Expr} {f : M D} {fo : M Op} {fl fh : M (Option Int)} {pos p2 : Pos}
theorem oe_none : OE X W none (mret none) := ⟨PO.imp po_none fun σ H Q ⟨B, Z, ρ, G, p⟩ => p.at (R := RI) G rfl, .ret _⟩
theorem tp_part (h : TP f) : TP (mpart f) := h.bind fun d => by
  cases d <;> first | exact .ret _ | exact .no
theorem oe_some (h : VE X W e f) : OE X W (some e) (mpart f) := by
  refine ⟨PO.imp (po_some h.pe) fun σ H Q ⟨B, Z, ρ, G, p⟩ => ?_, tp_part h.tp⟩
  refine Post.bind h.tp G p fun v H1 Z1 ρ1 d s1 G1 t1 r1 p1 => ?_
  cases d with
  | int i => cases r1; exact ⟨i, rfl, p1.at (R := RI) G1 rfl⟩
  | _ => exact p1.elim
theorem ve_slice (he : BE X W e fo) (hl : OE X W lo fl) (hh : OE X W hi fh) : VE X W (.Subscript e (.Slice lo hi none p2) pos) (mslice fo fl fh) := by
  refine ⟨PE.imp (pe_slice sl_all he.pe hl.po hh.po) fun σ H Q ⟨B, Z, ρ, G, p⟩ => ?_, he.tp.bind fun _ => hl.tp.bind fun _ => hh.tp.bind fun _ => (TP.der _).bind fun _ => .opt _⟩
  refine Post.bind he.tp G p fun v H1 Z1 ρ1 o s1 G1 t1 r1 p1 => ?_
  refine Post.bind (R := RI) hl.tp G1 p1 fun l H2 Z2 ρ2 l' s2 G2 t2 r2 p2 => ?_
  refine Post.bind (R := RI) hh.tp G2 p2 fun u H3 Z3 ρ3 u' s3 G3 t3 r3 p3 => ?_
  have r2 : l = l' := r2
  have r3 : u = u' := r3
  subst r2 r3
  have ro := RepO.step s3 G2.mut G2.nz (RepO.step s2 G1.mut G1.nz r1)
  obtain ⟨d, rb, p4⟩ := p3.der G3 ro
  obtain ⟨c, e1, p5⟩ := p4.opt
  exact sl_ok rb G3.zt e1 fun v H' Z' s t r => p5.lay G3 s t r
/-- xs[::-1], of a list or a tuple -/
def dRev : D → Option D
  | .list xs => some (.list xs.reverse)
  | .tuple xs => some (.tuple xs.reverse)
  | _ => none
def tRevA (K : PySem.W.Frag) (te : TE) : TE := fun σ H Q => te σ H fun x H1 => ∃ a xs, x = .ref a ∧ ((SqL K H1 a xs ∧ ∀ p, H1 p = none → Q (.ref p) (upd H1 p (.lst xs.reverse))) ∨ (SqT K H1 a xs ∧ ∀ p, H1 p = none → Q (.ref p) (upd H1 p (.tup xs.reverse))))
theorem pe_revA {te : TE} {k : Nat} {p1 p3 p4 : Pos} (he : PE X e te) : PE X (.Subscript e (.Slice none none (some (.UnaryOp .USub (.Constant (.int 1) k p1) p3)) p4) pos) (tRevA X.K te) := by
  refine ⟨fun pins s σ H Q I h => ?_⟩
  refine Subscript_ (thn (he.run pins s σ H _ I h) fun v s1 ⟨x, H1, I1, r1, q1⟩ => ?_)
  obtain ⟨a, xs, rfl, q⟩ := q1
  cases r1
  have step : PO X (some (.UnaryOp .USub (.Constant (.int 1) k p1) p3)) (tPart (tUn (rU fun i => .int (-i)) (tC (.int 1)))) := po_some (pe_un un_neg pe_int)
  refine wpAny_Slice (thn (po_none.run pins s1 σ H1 (fun o G => o = none ∧ G = H1) I1 ⟨rfl, rfl⟩) fun vl s2 ⟨_, _, I2, pl, el, e2⟩ => ?_)
  subst el e2
  refine thn (po_none.run pins s2 σ _ (fun o G => o = none ∧ G = _) I2 ⟨rfl, rfl⟩) fun vu s3 ⟨_, _, I3, pu, eu, e3⟩ => ?_
  subst eu e3
  refine thn (step.run pins s3 σ _ (fun o G => o = some (-1) ∧ G = _) I3 ⟨1, rfl, -1, rfl, rfl, rfl⟩) fun vs s4 ⟨_, _, I4, ps, eo, e4⟩ => ?_
  subst eo e4
  have I5 := I4.kept (h' := s4.heap.push { cls := .type "slice", data := .fields #[vl, vu, vs] }) (t' := s4.toks) fun b ob q => Heap.get?_push_of_some _ q
  show wpAny (model X.prog X.w) X.A (subscriptTail e (.Slice none none (some (.UnaryOp .USub (.Constant (.int 1) k p1) p3)) p4) (.ref a) (.ref s4.heap.objs.size)) (EP X pins σ Q) X.xe { s4 with heap := s4.heap.push { cls := .type "slice", data := .fields #[vl, vu, vs] } }
  rcases q with ⟨hx, q⟩ | ⟨hx, q⟩
  · obtain ⟨its, r, ht, hz⟩ := I5.list hx
    have hlen := r.length
    refine tail_any (ops := [.ref a, .ref s4.heap.objs.size]) ht.isList.typeIs (PySem.slot_list_getitem.lookup) ?_ (by with_unfolding_all rfl)
    refine wpAny_getItem_list_slice ht.isList (Heap.IsSliceOf.new _ vl vu vs) pl pu ps (by decide) ?_ (by rw [List.size_toArray]; omega)
    rw [PySem.W.krv_pick]
    exact ⟨.ref _, _, I5.laid (t' := s4.toks) (o := .lst xs.reverse) (fun b ob q => Heap.get?_push_of_some _ q) (Nat.le_refl _) ⟨by rw [List.length_reverse]; exact hz, _, 0, r.reverse, Heap.get?_push_size _ rfl⟩, rfl, q _ (I5.hok.fresh (Nat.le_refl _))⟩
  · obtain ⟨its, r, ht, hz⟩ := I5.tuple hx
    have hlen := r.length
    refine tail_any (ops := [.ref a, .ref s4.heap.objs.size]) ht.typeIs (slot_tuple_getitem.lookup) ?_ (by with_unfolding_all rfl)
    refine tup_rev ht (Heap.IsSliceOf.new _ vl vu vs) pl pu ps ?_ (by rw [List.size_toArray]; omega)
    exact ⟨.ref _, _, I5.laid (t' := s4.toks) (o := .tup xs.reverse) (fun b ob q => Heap.get?_push_of_some _ q) (Nat.le_refl _) ⟨by rw [List.length_reverse]; exact hz, _, by simpa using r.reverse, IsTup.new _ _⟩, rfl, q _ (I5.hok.fresh (Nat.le_refl _))⟩
def mrev (f : M Op) : M D := mbind f fun o => mbind (mder o) fun d => mopt (dRev d)
theorem ve_rev {k : Nat} {p1 p3 p4 : Pos} (he : BE X W e fo) : VE X W (.Subscript e (.Slice none none (some (.UnaryOp .USub (.Constant (.int 1) k p1) p3)) p4) pos) (mrev fo) := by
  refine ⟨PE.imp (pe_revA he.pe) fun σ H Q ⟨B, Z, ρ, G, p⟩ => ?_, he.tp.bind fun _ => (TP.der _).bind fun _ => .opt _⟩
  refine Post.bind he.tp G p fun v H1 Z1 ρ1 o s1 G1 t1 r1 p1 => ?_
  obtain ⟨d, rb, p2⟩ := p1.der G1 r1
  obtain ⟨c, e1, p3⟩ := p2.opt
  cases d with
  | list ds =>
    cases e1
    obtain ⟨a, us, rfl, h1, r2⟩ := rb.lst
    refine ⟨a, us, rfl, .inl ⟨.inl (.inl h1), fun l hl => ?_⟩⟩
    have x : Ext Z1 H1 (fun a => Z1 a ∨ a = l) (upd H1 l (.lst us.reverse)) := ext_new hl
    exact p3.lay G1 x (trk_upd G1.zt) (.lst (.inr rfl) upd_same (r2.reverse.ext x))
  | tuple ds =>
    cases e1
    obtain ⟨a, us, rfl, h1, r2⟩ := rb.tup
    refine ⟨a, us, rfl, .inr ⟨h1, fun l hl => ?_⟩⟩
    have x : Ext Z1 H1 Z1 (upd H1 l (.tup us.reverse)) := Ext.upd hl Z1 (fun _ h => h) fun _ h => .inl h
    exact p3.lay G1 x (Trk.ext G1.zt x) (.tup (SqT.of upd_same) (r2.reverse.ext x))
  | _ => cases e1
end
end VS

set_option Elab.async false
set_option linter.all false
set_option maxRecDepth 100000
namespace VS
open PySem L2

/-! ### built-ins that make a new container -/
def CaF (K : PySem.W.Frag) (r : List V → Hp → VK → Prop) (g : List D → Option D) : Prop := ∀ (Z : Addr → Prop) (H : Hp) (vs : List V) (ds : List D) (d : D) (Q : VK), RepBs K Z H vs ds → Trk Z H → g ds = some d →
  (∀ a H', Ext Z H Z H' → H a = none → Cell K Z H' a d → Q (.ref a) H') → r vs H Q
section
variable {X : Cx} {W : WX} {e : Expr} {es : List Expr} {f : M (List Op)} {pos p : Pos} {x : Str} {id T : String} {r : List V → Hp → VK → Prop} {g : List D → Option D}
theorem cf_imp {σ : St} {H : Hp} {Q : VK} (hg : CaF X.K r g) (hf : TP f) (h : Lf X W (RF X) (mcb g f) σ H Q) : tCB r (Lf X W (RA X) f) σ H Q := by
  obtain ⟨B, Z, ρ, G, p⟩ := h
  refine Post.bind hf G p fun vs H1 Z1 ρ1 os s1 G1 t1 r1 p1 => ?_
  obtain ⟨ds, r2, p2⟩ := Post.ders (g := fun ds => mopt (g ds)) G1 r1 p1
  obtain ⟨d, e1, p3⟩ := p2.opt
  refine hg Z1 H1 vs ds d Q r2 G1.zt e1 fun a H' s n c => ?_
  have fr := G1.free n
  exact p3.lay G1 s (Trk.ext G1.zt s) ⟨a, rfl, fr.1, c, fr.2, n⟩
theorem fe_callTy (hc : CallR X (.type T) r) (hg : CaF X.K r g) (gl : Gl X x) (hm : X.mg x = none) (hv : bootBuiltins x = some (.type T)) (ha : VA X W (e :: es) f) (hn : x ≠ "__name__" := by decide) (hdb : (x == ("__debug__" : Str)) = false := by decide)
    (he : starEach (e :: es) X.env = (false, eval e X.env) :: starEach es X.env := by rfl) (hpl : (backTo pos (starEach es X.env)).any (·.1) = false := by rfl) : FE X W (.Call (.Name x p) (e :: es) [] pos) (mcb g f) :=
  ⟨PE.imp (pe_callTy hc gl hm hv ha.pa hn hdb he hpl) fun σ H Q h => cf_imp hg ha.tp h, tp_cb ha.tp⟩
theorem fe_callB (hc : CallR X (.builtin id) r) (hg : CaF X.K r g) (gl : Gl X x) (hm : X.mg x = none) (hv : bootBuiltins x = some (.builtin id)) (ha : VA X W (e :: es) f) (hn : x ≠ "__name__" := by decide) (hdb : (x == ("__debug__" : Str)) = false := by decide)
    (he : starEach (e :: es) X.env = (false, eval e X.env) :: starEach es X.env := by rfl) (hpl : (backTo pos (starEach es X.env)).any (·.1) = false := by rfl) : FE X W (.Call (.Name x p) (e :: es) [] pos) (mcb g f) :=
  ⟨PE.imp (pe_callB hc gl hm hv ha.pa hn hdb he hpl) fun σ H Q h => cf_imp hg ha.tp h, tp_cb ha.tp⟩
end
/-- list(x) of a list, a tuple, a dict, a text -/
def rListA (K : PySem.W.Frag) : List V → Hp → VK → Prop := fun xs H Q => (∃ p ys, xs = [.ref p] ∧ (SqL K H p ys ∨ SqT K H p ys) ∧ ∀ l, H l = none → Q (.ref l) (upd H l (.lst ys))) ∨
  ((∃ (a : Addr) (kvs : List (Key × V)), xs = [.ref a] ∧ Rd H a (.dK kvs) ∧ ∀ p, H p = none → Q (.ref p) (upd H p (.lst (kvs.map fun kv => kV kv.1)))) ∨
  ∃ z : Str, xs = [.str z] ∧ z.length ≤ sizeLine ∧ ∀ p, H p = none → Q (.ref p) (upd H p (.lst (z.cps.toList.map fun c => .str ⟨#[c]⟩))))
theorem paired_of {α β : Type} {R : α → β → Prop} : ∀ {xs : List α} {ys : List β}, xs.length = ys.length → (∀ (i : Nat) x y, xs[i]? = some x → ys[i]? = some y → R x y) → PySem.Paired R xs ys
  | [], [], _, _ => .nil
  | x :: xs, y :: ys, hl, h => .cons (h 0 x y rfl rfl) (paired_of (by simpa using hl) fun i a b h1 h2 => h (i + 1) a b (by simpa using h1) (by simpa using h2))
theorem signs_vals {z : Str} {acc : Array Value} (h : ItemsOf (SignAt z) acc z.cps.size) : Vals (z.cps.toList.map fun c => V.str ⟨#[c]⟩) acc.toList := by
  refine paired_of (by simp [h.1]) fun i x y e1 e2 => ?_
  obtain ⟨c, u, q1, rfl⟩ := h.2 i y (by simpa using e2)
  rw [List.getElem?_map, Array.getElem?_toList, q1] at e1
  cases e1
  exact ⟨u, rfl⟩
theorem call_listA {X : Cx} (hc : X.calm = true) : CallR X (.type "list") (rListA X.K) := by
  intro pins s σ H xs us Q I r h
  rcases h with h | h | ⟨z, rfl, hz, q⟩
  · exact call_list_of pins s σ H xs us Q I r h
  · exact call_listD hc pins s σ H xs us Q I r h
  · obtain ⟨u, rfl, t, rfl⟩ := vals1 r
    have hz' : z.cps.size ≤ sizeLine := hz
    refine call_list_str (I.ok.hd hc) z t (fun h' tk acc c hk hS hacc => ?_) hz'
    have vv := signs_vals hacc
    have el := vv.length
    simp only [List.length_map, Array.length_toList] at el
    refine ⟨.ref _, _, I.laid (t' := tk) (o := .lst (z.cps.toList.map fun c => V.str ⟨#[c]⟩)) hk (Nat.le_refl _) ⟨by simpa using hz', acc.toList, c, vv, hS⟩, rfl, q _ (I.hok.fresh (Nat.le_refl _))⟩
def gListA : List D → Option D
  | [.list xs] => some (.list xs)
  | [.tuple xs] => some (.list xs)
  | [.dict xs] => some (.list (xs.map (·.1)))
  | [.str z] => if z.length ≤ lineN then some (.list (z.cps.toList.map fun c => .str ⟨#[c]⟩)) else none
  | _ => none
section
variable {K : PySem.W.Frag} {Z : Addr → Prop} {H : Hp}
theorem RepD.keys : ∀ {kv : List (Key × V)} {ds : List (D × D)}, RepD K Z H kv ds → RepL K Z H (kv.map fun p => kV p.1) (ds.map (·.1))
  | _, _, .nil => .nil
  | _, _, .cons _ t => .cons rep_kD (RepD.keys t)
theorem rep_signs : ∀ (cs : List Nat), RepL K Z H (cs.map fun c => V.str ⟨#[c]⟩) (cs.map fun c => PyData.str ⟨#[c]⟩)
  | [] => .nil
  | c :: cs => .cons (.str _) (rep_signs cs)
theorem ext_out {q : Addr} {o : HO} (hq : H q = none) : Ext Z H Z (upd H q o) := Ext.upd hq Z (fun _ h => h) fun _ h => .inl h
theorem cf_list : CaF K (rListA K) gListA := by
  intro Z H vs ds d Q r t e k
  unfold gListA at e
  split at e
  · cases e
    obtain ⟨v, rfl, r1⟩ := bs1 r
    obtain ⟨a, us, rfl, h1, r2⟩ := r1.lst
    exact .inl ⟨a, us, rfl, .inl (.inl (.inl h1)), fun l hl => k l _ (ext_out hl) hl ⟨us, upd_same, r2.ext (ext_out hl)⟩⟩
  · cases e
    obtain ⟨v, rfl, r1⟩ := bs1 r
    obtain ⟨a, us, rfl, h1, r2⟩ := r1.tup
    exact .inl ⟨a, us, rfl, .inr h1, fun l hl => k l _ (ext_out hl) hl ⟨us, upd_same, r2.ext (ext_out hl)⟩⟩
  · cases e
    obtain ⟨v, rfl, r1⟩ := bs1 r
    obtain ⟨a, kv, rfl, h1, r2⟩ := r1.dic
    exact .inr (.inl ⟨a, kv, rfl, h1, fun l hl => k l _ (ext_out hl) hl ⟨_, upd_same, r2.keys.ext (ext_out hl)⟩⟩)
  · split at e
    · rename_i z hz
      cases e
      obtain ⟨v, rfl, r1⟩ := bs1 r
      have e1 := r1.str
      subst e1
      exact .inr (.inr ⟨z, rfl, by rw [← lineN_eq]; exact hz, fun l hl => k l _ (ext_out hl) hl ⟨_, upd_same, rep_signs _⟩⟩)
    · cases e
  · cases e
end
section
variable {X : Cx} {W : WX} {pos : Pos}
/-- {} -/
theorem fe_dnew : FE X W (.Dict [] [] pos) (mret (.dict [])) := by
  refine ⟨PE.imp pe_dnewK fun σ H Q ⟨B, Z, ρ, G, p⟩ => fun q hq => ?_, .ret _⟩
  have fr := G.free hq
  exact p.lay G (ext_out hq) (Trk.ext G.zt (ext_out hq)) ⟨q, rfl, fr.1, ⟨[], upd_same, .nil⟩, fr.2, hq⟩
end
/-! ### methods of values -/
/-- a text's split at a text -/
def msplit (fo fa : M D) : M D := mbind fo fun x => match x with
  | .str a => mbind fa fun y => match y with
    | .str b => if (b.length == 0) = false ∧ a.length + 2 ≤ lineN then mret (.list ((Txt.split a b).map .str)) else mno
    | _ => mno
  | _ => mno
theorem rep_strs {K : PySem.W.Frag} {Z : Addr → Prop} {H : Hp} : ∀ (ys : List Str), RepL K Z H (ys.map V.str) (ys.map PyData.str)
  | [] => .nil
  | y :: ys => .cons (.str y) (rep_strs ys)
section
variable {X : Cx} {W : WX} {o e : Expr} {fo fa : M D} {apos pos : Pos}
theorem tp_split (ho : TP fo) (ha : TP fa) : TP (msplit fo fa) := ho.bind fun x => by
  cases x <;> first
    | exact .no
    | exact ha.bind fun y => by
        cases y <;> first
          | exact .no
          | exact tp_ite (.ret _) .no
theorem fe_split (ho : VE X W o fo) (he : VE X W e fa) (hs : starEach [e] X.env = [(false, eval e X.env)] := by rfl) (hbase : attributeBase o "split" X.env (eval o X.env) = eval o X.env := by rfl) (hline : (apos.endLine == pos.line) = true := by rfl) :
    FE X W (.Call (.Attribute o "split" apos) [e] [] pos) (msplit fo fa) := by
  refine ⟨PE.imp (pe_split ho.pe he.pe hs hbase hline) fun σ H Q ⟨B, Z, ρ, G, p⟩ => ?_, tp_split ho.tp he.tp⟩
  refine Post.bind ho.tp G p fun v H1 Z1 ρ1 d s1 G1 t1 r1 p1 => ?_
  cases d with
  | str a => ?_
  | _ => exact p1.elim
  cases r1
  refine ⟨⟨a, rfl⟩, ?_⟩
  refine Post.bind he.tp G1 p1 fun w H2 Z2 ρ2 y s2 G2 t2 r2 p2 => ?_
  cases y with
  | str b =>
    cases r2
    by_cases h : (b.length == 0) = false ∧ a.length + 2 ≤ lineN
    · have p2 : Post X W (RF X) B Z2 H2 σ ρ2 ((if (b.length == 0) = false ∧ a.length + 2 ≤ lineN then mret (PyData.list ((Txt.split a b).map .str)) else mno) ρ2) Q := p2
      rw [if_pos h] at p2
      refine ⟨a, b, rfl, rfl, h.1, by rw [← lineN_eq]; exact h.2, fun l hl => ?_⟩
      have fr := G2.free hl
      exact p2.lay G2 (ext_out hl) (Trk.ext G2.zt (ext_out hl)) ⟨l, rfl, fr.1, ⟨_, upd_same, rep_strs _⟩, fr.2, hl⟩
    · have p2 : Post X W (RF X) B Z2 H2 σ ρ2 ((if (b.length == 0) = false ∧ a.length + 2 ≤ lineN then mret (PyData.list ((Txt.split a b).map .str)) else mno) ρ2) Q := p2
      rw [if_neg h] at p2; exact p2.elim
  | _ => exact p2.elim
end
end VS

set_option Elab.async false
set_option linter.all false
set_option maxRecDepth 100000
namespace VS
open PySem L2

/-! ### dict comprehensions -/
def mkv (fk fv : M D) : M (Key × D) := mbind fk fun d => match keyOf d with
  | some k => mbind fv fun v => mret (k, v)
  | none => mno
theorem tp_kv {fk fv : M D} (hk : TP fk) (hv : TP fv) : TP (mkv fk fv) := hk.bind fun d => by
  cases keyOf d with
  | none => exact .no
  | some k => exact hv.bind fun _ => .ret _
def dputs (acc : List (D × D)) (ps : List (Key × D)) : List (D × D) := ps.foldl (fun a p => dput a p.1 p.2) acc
def mdc (fi : M (List D)) (m : Tg) (ft : M Bool) (fk fv : M D) (vs : List Nat) : M D := mbind (mcompL fi m ft (mkv fk fv) vs) fun ps => mret (.dict (dputs [] ps))
abbrev RKV (X : Cx) : Rl (V × V) (Key × D) := ⟨fun _ _ _ Z H b a => b.1 = kV a.1 ∧ Rep X.K Z H b.2 a.2, fun _ h => h⟩
theorem kv_imp {X : Cx} {fk fv : M D} (hk : TP fk) (hv : TP fv) {σ : St} {H : Hp} {Q : V × V → Hp → Prop} (h : Lf X WN (RKV X) (mkv fk fv) σ H Q) : Lf X WN (RV X) fk σ H fun y H4 => Lf X WN (RV X) fv σ H4 fun z H5 => Q (y, z) H5 := by
  obtain ⟨B, Z, ρ, G, p⟩ := h
  refine Post.bind hk G p fun y H1 Z1 ρ1 d s1 G1 t1 r1 p1 => ?_
  cases ek : keyOf d with
  | none => rw [ek] at p1; exact p1.elim
  | some k =>
    rw [ek] at p1
    have e := keyOf_eq ek
    subst e
    have ey := (RepB.of r1).key
    refine Post.bind hv G1 p1 fun z H2 Z2 ρ2 e s2 G2 t2 r2 p2 => ?_
    exact p2.at (R := RKV X) G2 ⟨ey, r2⟩
theorem putK_len (kvs : List (Key × V)) (k : Key) (v : V) : (putK kvs k v).length ≤ kvs.length + 1 := by
  unfold putK
  split
  · simp
  · simp
section
variable {X : Cx} {W : WX} {fi : M (List D)} {m : Tg} {ft : M Bool} {fk fv : M D} {vs ts : List Nat}
theorem dc_imp {σ : St} {H : Hp} {Q : VK} (hi : TP fi) (hm : ∀ d ρ ρ', m d ρ = some ρ' → Fr ts ρ' ρ) (hs : ∀ i ∈ ts, i ∈ vs) (tt : TP ft) (tk : TP fk) (tv : TP fv) (h : Lf X W (RF X) (mdc fi m ft fk fv vs) σ H Q) :
    tDc (Lf X W (RW X) fi) (LG X ts m) (Lf X WN RT ft) (Lf X WN (RV X) fk) (Lf X WN (RV X) fv) vs σ H Q := by
  obtain ⟨B, Z, ρ, G, p⟩ := h
  unfold mdc mcompL at p
  rw [mbind_assoc] at p
  refine Post.bind hi G p fun J H1 Z1 ρ1 ds s1 G1 t1 w p1 => fun Da hDa => ?_
  have te := tp_kv tk tv
  unfold mbind at p1
  dsimp only at p1
  by_cases hc : clean vs ρ1 = true ∧ ds.length ≤ lineN
  · obtain ⟨hcl, hlen⟩ := id hc
    rcases cloop_noX (ck := fun _ => True) (m := m) (ft := ft) (fe := mkv fk fv) (vs := vs) (ds := ds) (ρ := ρ1) with ⟨ys, ρe, e⟩ | e
    · rw [if_pos hc, e] at p1
      refine ⟨fun i n H => n = ds.length - i ∧ i ≤ ds.length ∧ ∃ Z ρ acc as ys', CI X.K vs B Z1 H1 (wipe σ vs) ρ1 Da Z H ρ ∧ H Da = some (.dK acc) ∧ RepD X.K Z H acc (dputs [] as) ∧ acc.length ≤ i ∧ cloop (fun _ => True) m ft (mkv fk fv) vs (ds.drop i) ρ = .ok ys' ρe ∧ ys = as ++ ys',
        ⟨ds.length, by simp, Nat.zero_le _, Z1, ρ1, [], [], ys, .start G1 hcl hDa, upd_same, .nil, Nat.le_refl _, by simpa using e, rfl⟩, ?_⟩
      rintro i n H ⟨rfl, hi, Z2, ρ2, acc, as, ys', c, hD, rl, ha, e2, rfl⟩
      by_cases hlt : i < ds.length
      · refine .inr ⟨w.go i Z2 H c.lat hlt, fun H => ∃ Z ρ acc bs ys2, CI X.K vs B Z1 H1 (wipe σ vs) ρ1 Da Z H ρ ∧ H Da = some (.dK acc) ∧ RepD X.K Z H acc (dputs [] bs) ∧ acc.length ≤ i + 1 ∧ cloop (fun _ => True) m ft (mkv fk fv) vs (ds.drop (i + 1)) ρ = .ok ys2 ρe ∧ as ++ ys' = bs ++ ys2,
          fun H' q => ⟨_, by omega, rfl, hlt, q⟩, fun x H' y => ?_⟩
        have T := comp_turn (R := RKV X) (u := .dK acc) (N := fun H => ∃ Z ρ acc bs ys2, CI X.K vs B Z1 H1 (wipe σ vs) ρ1 Da Z H ρ ∧ H Da = some (.dK acc) ∧ RepD X.K Z H acc (dputs [] bs) ∧ acc.length ≤ i + 1 ∧ cloop (fun _ => True) m ft (mkv fk fv) vs (ds.drop (i + 1)) ρ = .ok ys2 ρe ∧ as ++ ys' = bs ++ ys2)
          (Y := fun b H5 => ∃ kvs k, b.1 = kV k ∧ H5 Da = some (.dK kvs) ∧ kvs.length < sizeLine ∧ ∃ Z ρ acc bs ys2, CI X.K vs B Z1 H1 (wipe σ vs) ρ1 Da Z (upd H5 Da (.dK (putK kvs k b.2))) ρ ∧ upd H5 Da (.dK (putK kvs k b.2)) Da = some (.dK acc) ∧ RepD X.K Z (upd H5 Da (.dK (putK kvs k b.2))) acc (dputs [] bs) ∧ acc.length ≤ i + 1 ∧ cloop (fun _ => True) m ft (mkv fk fv) vs (ds.drop (i + 1)) ρ = .ok ys2 ρe ∧ as ++ ys' = bs ++ ys2)
          hm hs tt te (w.yld i Z2 H x H' c.lat c.good.zt hlt y) c hD hDa hlt e2 (fun H3 Z3 ρ3 c3 l3 h3 e3 => ⟨Z3, ρ3, acc, as, ys', c3, h3, rl.later l3, Nat.le_succ_of_le ha, e3, rfl⟩) fun σ2 H3 b a H4 Z4 ρ4 ys2 c4 l4 h4 r4 ey e4 => ?_
        · obtain ⟨B', Z', ρ', d', ρ'', g1, g2, g3, g4⟩ := T
          refine ⟨B', Z', ρ', d', ρ'', g1, g2, g3, fun σ3 q1 q2 q3 q4 => ?_⟩
          obtain ⟨z1, B5, Z5, ρ5, g5, p5⟩ := g4 σ3 q1 q2 q3 q4
          refine ⟨z1, B5, Z5, ρ5, g5, ?_⟩
          cases et : ft ρ5 with
          | ok bb ρ6 =>
            rw [et] at p5
            intro b2 H6 Z6 s6 G6 r6
            have p6 := p5 b2 H6 Z6 s6 G6 r6
            cases b2 with
            | true => exact kv_imp tk tv p6
            | false => exact p6
          | exc c fs ρ6 => rw [et] at p5; exact p5
          | no => rw [et] at p5; exact p5
        · obtain ⟨eb, rb⟩ := r4
          obtain ⟨c5, l5⟩ := c4.put (o' := .dK (putK acc a.1 b.2)) hDa h4 trivial
          refine ⟨acc, a.1, eb, h4, by rw [← lineN_eq]; omega, Z4, _, _, as ++ [a], ys2, c5, upd_same, ?_, Nat.le_trans (putK_len _ _ _) (by omega), e4, by rw [ey, List.append_assoc]; rfl⟩
          unfold dputs
          rw [List.foldl_append]
          exact RepD.put a.1 (rb.later l5) ((rl.later l4).later l5)
      · have ei : i = ds.length := by omega
        subst ei
        rw [List.drop_length] at e2
        obtain ⟨rfl, rfl⟩ := cloop_nil e2
        refine .inl ⟨w.stop Z2 H c.lat, ?_⟩
        rw [List.append_nil] at p1
        have no : ¬ Owns σ ρe Da := fun q => c.nw (owns_tags c.tg _ (owns_unwipe c.cl q))
        exact p1 (.ref Da) H Z2 (c.step.weak fun a q => owns_wipe q) (c.good.unwipe c.cl) ⟨Da, rfl, c.nz, ⟨acc, hD, rl⟩, no, hDa⟩
    · rw [if_pos hc, e] at p1; exact p1.elim
  · rw [if_neg hc] at p1; exact p1.elim
structure DC (X : Cx) (W : WX) (kx vx tg iter : Expr) (ifs : List Expr) (scope : Scope) (vs : List Nat) (own : List (Str × Nat)) (fi : M (List D)) (m : Tg) (ft : M Bool) (fk fv : M D) (ts : List Nat) : Prop where
  i : IE X W tg iter fi
  ok : BlkOk X.N X.env.scope scope own
  evs : own.map (·.2) = vs
  s : ∀ i ∈ ts, i ∈ vs
  g : ∀ (s : Shared) (H : Hp) (C : Addr) (cl : List (Str × Addr)) (fp : List Addr), GE (BX X scope s H C cl fp) ts tg m
  t : ∀ (s : Shared) (H : Hp) (C : Addr) (cl : List (Str × Addr)) (fp : List Addr), VTs (BX X scope s H C cl fp) WN ifs ft
  k : ∀ (s : Shared) (H : Hp) (C : Addr) (cl : List (Str × Addr)) (fp : List Addr), VE (BX X scope s H C cl fp) WN kx fk
  v : ∀ (s : Shared) (H : Hp) (C : Addr) (cl : List (Str × Addr)) (fp : List Addr), VE (BX X scope s H C cl fp) WN vx fv
variable {kx vx tg iter : Expr} {ifs : List Expr} {scope : Scope} {own : List (Str × Nat)} {pos : Pos}
theorem fe_dc (hc : X.calm = true) (hN : X.N.Nodup) (c : DC X W kx vx tg iter ifs scope vs own fi m ft fk fv ts) (hs : ∀ x, foldedSetIterable iter X.env x = pure x := by intro _; rfl) : FE X W (.DictComp kx vx [⟨tg, iter, ifs, 0⟩] scope pos) (mdc fi m ft fk fv vs) := by
  have q := pe_dc (g := LG X ts m) (tt := Lf X WN RT ft) (tk := Lf X WN (RV X) fk) (tv := Lf X WN (RV X) fv) (pos := pos) hc hN c.i.pi c.ok (fun s H C cl fp => (c.g s H C cl fp).pg) (fun s H C cl fp => (c.t s H C cl fp).pt) (fun s H C cl fp => (c.k s H C cl fp).pe) (fun s H C cl fp => (c.v s H C cl fp).pe) hs
  rw [c.evs] at q
  have tt := (c.t X.s_0 X.H_0 0 [] []).tp
  have tk := (c.k X.s_0 X.H_0 0 [] []).tp
  have tv := (c.v X.s_0 X.H_0 0 [] []).tp
  have hm := (c.g X.s_0 X.H_0 0 [] []).fr
  exact ⟨PE.imp q fun σ H Q h => dc_imp c.i.tp hm c.s tt tk tv h, (tp_compL c.i.tp hm c.s tt (tp_kv tk tv)).bind fun _ => .ret _⟩
end
end VS

set_option Elab.async false
set_option linter.all false
set_option maxRecDepth 100000
namespace VS
open PySem L2

/-! ### operators, put together -/
section
variable {K : PySem.W.Frag}
def cPow (i j : Int) : Bool := decide (0 ≤ j) && decide (j ≤ 1000000) && decide (i.natAbs < 18446744073709551616)
theorem cPow_ok {i j : Int} (h : cPow i j = true) : CPow i j := by
  unfold cPow at h
  simp only [Bool.and_eq_true, decide_eq_true_eq] at h
  exact ⟨h.1.1, h.1.2, by have := h.2; omega⟩
def dPow : D → D → Option D := gIC cPow fun i j => i ^ j.toNat
theorem opd_pow : OpD K (rI CPow fun i j => .int (i ^ j.toNat)) dPow := opd_ic fun _ _ => cPow_ok
def cMul (i j : Int) : Bool := (decide (-18446744073709551616 < i) && decide (i < 18446744073709551616)) || (decide (-18446744073709551616 < j) && decide (j < 18446744073709551616))
theorem cMul_ok {i j : Int} (h : cMul i j = true) : CMul i j := by
  unfold cMul at h
  simp only [Bool.or_eq_true, Bool.and_eq_true, decide_eq_true_eq] at h
  rcases h with h | h
  · exact .inl ⟨by have := h.1; omega, by have := h.2; omega⟩
  · exact .inr ⟨by have := h.1; omega, by have := h.2; omega⟩
def dMul : D → D → Option D := orG (gIC cMul (· * ·)) gRep
def rMulA : R2 := fun x y H Q => rI CMul (fun i j => .int (i * j)) x y H Q ∨ rRep x y H Q
theorem op_mulA {X : Cx} : OpR X (binaryOp .Mult) rMulA := op_mul.or op_rep
theorem opd_mul : OpD K rMulA dMul := opd_or (opd_ic fun _ _ => cMul_ok) opd_rep
def dMod : D → D → Option D := gIC (fun _ j => decide (0 < j)) (· % ·)
theorem opd_mod : OpD K (rI (fun _ j => 0 < j) fun i j => .int (i % j)) dMod := opd_ic fun _ _ h => by simpa using h
def dAdd : D → D → Option D := orG (gI (· + ·)) (orG gAddS (orG gCat gCatT))
def rAddA (K : PySem.W.Frag) : R2 := fun x y H Q => rI0 (fun i j => .int (i + j)) x y H Q ∨ ((∃ i j, x = .str i ∧ y = .str j ∧ i.length + j.length ≤ sizeLine ∧ Q (.str (i ++ j)) H) ∨ (rCat x y H Q ∨ rCatA K x y H Q))
def dSub : D → D → Option D := gI (· - ·)
theorem opd_sub : OpD K (rI0 fun i j => .int (i - j)) dSub := opd_i
def dLt : D → D → Option D := gB fun i j => decide (i < j)
def dLe : D → D → Option D := gB fun i j => decide (i ≤ j)
def dGt : D → D → Option D := gB fun i j => decide (j < i)
def dGe : D → D → Option D := gB fun i j => decide (j ≤ i)
theorem opd_add : OpD K (rAddA K) dAdd := opd_or opd_i (opd_or opd_addS (opd_or opd_cat opd_catT))
def dFdiv : D → D → Option D := gIC (fun _ j => decide (0 < j) && decide (j < 1073741824)) (· / ·)
theorem opd_fdiv : OpD K (rI CDiv fun i j => .int (i / j)) dFdiv := opd_ic fun _ _ h => by
  simp only [Bool.and_eq_true, decide_eq_true_eq] at h
  exact h
theorem opd_lt : OpD K (rI0 fun i j => .bl (decide (i < j))) dLt := opd_b
theorem opd_le : OpD K (rI0 fun i j => .bl (decide (i ≤ j))) dLe := opd_b
theorem opd_gt : OpD K (rI0 fun i j => .bl (decide (j < i))) dGt := opd_b
theorem opd_ge : OpD K (rI0 fun i j => .bl (decide (j ≤ i))) dGe := opd_b
end
end VS

set_option Elab.async false
set_option linter.all false
set_option maxRecDepth 100000
namespace VS
open PySem L2

/-! ### methods of lists that read -/
def mmeth (g : D → List D → Option D) (fo : M Op) (fa : M (List Op)) : M D := mbind fo fun o => mbind (mder o) fun d0 => match d0 with
  | .list _ => mbind fa fun os => mbind (mder o) fun d => mbind (mders os) fun ds => mopt (g d ds)
  | _ => mno
def MeD (K : PySem.W.Frag) (r : V → List V → Hp → VK → Prop) (g : D → List D → Option D) : Prop := ∀ (Z : Addr → Prop) (H : Hp) (x : V) (d : D) (vs : List V) (ds : List D) (e : D) (Q : VK), RepB K Z H x d → RepBs K Z H vs ds → Trk Z H → g d ds = some e →
  (∀ v H' Z', Ext Z H Z' H' → Trk Z' H' → Rep K Z' H' v e → Q v H') → r x vs H Q
section
variable {X : Cx} {W : WX} {id : String} {name : Str} {fo : M Op} {fa : M (List Op)} {g : D → List D → Option D} {r : V → List V → Hp → VK → Prop} {apos cpos : Pos} {o e : Expr} {es : List Expr}
theorem tp_meth (ho : TP fo) (ha : TP fa) : TP (mmeth g fo fa) := ho.bind fun o => (TP.der o).bind fun d => by
  cases d <;> first
    | exact .no
    | exact ha.bind fun _ => (TP.der _).bind fun _ => (TP.ders _).bind fun _ => .opt _
theorem ve_meth (slot : Slot "list" name id) (hty : typeOf (.builtin id) = pure (.type "method_descriptor")) (hm : MtR X id r) (hg : MeD X.K r g) (ho : BE X W o fo) (ha : VA X W (e :: es) fa)
    (hbase : attributeBase o name X.env (eval o X.env) = eval o X.env := by rfl)
    (hfew : ((backTo cpos (starEach (e :: es) X.env)).all (fun x => !x.1) && (backToKw cpos (keywordEach [] X.env)).all (fun x => x.1.isSome)
      && decide ((e :: es).length + ([] : List Keyword).length + (if ([] : List Keyword).isEmpty then 0 else 1) < 30)) = true := by rfl)
    (hline : (apos.endLine == cpos.line) = true := by rfl) (hs : starEach (e :: es) X.env = (false, eval e X.env) :: starEach es X.env := by rfl) (hplain : (backTo cpos (starEach es X.env)).any (·.1) = false := by rfl) :
    VE X W (.Call (.Attribute o name apos) (e :: es) [] cpos) (mmeth g fo fa) := by
  refine ⟨PE.imp (pe_bm PySem.F.plainAttrs_list slot hty hm ho.pe ha.pa hbase hfew hline hs hplain) fun σ H Q ⟨B, Z, ρ, G, p⟩ => ?_, tp_meth ho.tp ha.tp⟩
  refine Post.bind ho.tp G p fun v H1 Z1 ρ1 op s1 G1 t1 r1 p1 => ?_
  obtain ⟨d0, rb, p2⟩ := p1.der G1 r1
  cases d0 with
  | list xs =>
    obtain ⟨a, us, rfl, h1, r2⟩ := rb.lst
    refine ⟨.inl ⟨rfl, us, .inl (.inl h1)⟩, ?_⟩
    refine Post.bind ha.tp G1 p2 fun vs H2 Z2 ρ2 os s2 G2 t2 ra p3 => ?_
    obtain ⟨d, rb2, p4⟩ := p3.der G2 (RepO.step s2 G1.mut G1.nz r1)
    obtain ⟨ds, rs, p5⟩ := Post.ders (g := fun ds => mopt (g d ds)) G2 ra p4
    obtain ⟨c, e1, p6⟩ := p5.opt
    exact hg Z2 H2 _ d vs ds c Q rb2 rs G2.zt e1 fun v H' Z' s t r => p6.lay G2 s t r
  | _ => exact p2.elim
end
/-- scalars as values -/
def scV : D → Option V
  | .none => some .non | .bool b => some (.bl b) | .int i => some (.int i) | .str s => some (.str s)
  | _ => none
def scVs : List D → Option (List V)
  | [] => some []
  | d :: ds => (scV d).bind fun v => (scVs ds).map (v :: ·)
theorem scV_rep {K : PySem.W.Frag} {Z : Addr → Prop} {H : Hp} {x : V} {d : D} {v : V} (r : RepB K Z H x d) (e : scV d = some v) : x = v ∧ flatV v = true := by
  cases d with
  | none => cases e; exact ⟨r.non, rfl⟩
  | bool b => cases e; exact ⟨r.bl, rfl⟩
  | int i => cases e; exact ⟨r.int, rfl⟩
  | str s => cases e; exact ⟨r.str, rfl⟩
  | _ => cases e
theorem scVs_rep {K : PySem.W.Frag} {Z : Addr → Prop} {H : Hp} : ∀ {vs : List V} {ds : List D} {ws : List V}, RepL K Z H vs ds → scVs ds = some ws → vs = ws ∧ ws.all flatV = true
  | [], [], _, .nil, e => by cases e; exact ⟨rfl, rfl⟩
  | v :: vs, d :: ds, ws, .cons r t, e => by
    unfold scVs at e
    obtain ⟨w, e1, e2⟩ := Option.bind_eq_some_iff.mp e
    obtain ⟨us, e3, rfl⟩ := Option.map_eq_some_iff.mp e2
    obtain ⟨rfl, f1⟩ := scV_rep (RepB.of r) e1
    obtain ⟨rfl, f2⟩ := scVs_rep t e3
    exact ⟨rfl, by simp [f1, f2]⟩
def ixV (y : V) : List V → Option Nat
  | [] => none
  | z :: zs => if eqV z y = true then some 0 else (ixV y zs).map (· + 1)
theorem ixV_ok {y : V} : ∀ {ws : List V} {j : Nat}, ixV y ws = some j → ∃ z, ws[j]? = some z ∧ eqV z y = true ∧ ∀ m z', m < j → ws[m]? = some z' → eqV z' y = false
  | z :: zs, j, e => by
    unfold ixV at e
    split at e
    · rename_i h
      cases e
      exact ⟨z, rfl, h, fun m _ hm => absurd hm (Nat.not_lt_zero m)⟩
    · rename_i h
      obtain ⟨k, e1, rfl⟩ := Option.map_eq_some_iff.mp e
      obtain ⟨z1, q1, q2, q3⟩ := ixV_ok e1
      refine ⟨z1, by simpa using q1, q2, fun m z' hm hz => ?_⟩
      cases m with
      | zero => simp at hz; subst hz; simpa using h
      | succ m => exact q3 m z' (by omega) (by simpa using hz)
def gIndex : D → List D → Option D
  | .list xs, [y] => (scVs xs).bind fun ws => (scV y).bind fun v => (ixV v ws).map fun (j : Nat) => .int j
  | _, _ => none
theorem me_index {K : PySem.W.Frag} : MeD K (rIndex K) gIndex := by
  intro Z H x d vs ds e Q rb rs t h k
  unfold gIndex at h
  split at h
  · obtain ⟨ws, e1, h⟩ := Option.bind_eq_some_iff.mp h
    obtain ⟨v, e2, h⟩ := Option.bind_eq_some_iff.mp h
    obtain ⟨j, e3, rfl⟩ := Option.map_eq_some_iff.mp h
    obtain ⟨y', rfl, ry⟩ := bs1 rs
    obtain ⟨a, us, rfl, h1, r2⟩ := rb.lst
    obtain ⟨rfl, f1⟩ := scVs_rep r2 e1
    obtain ⟨rfl, f2⟩ := scV_rep ry e2
    obtain ⟨z, q1, q2, q3⟩ := ixV_ok e3
    exact ⟨a, us, y', j, z, rfl, rfl, .inl (.inl h1), f2, f1, q1, q2, q3, k _ H Z .refl t (.int _)⟩
  · cases h
section
variable {X : Cx} {W : WX} {fo : M Op} {fa : M (List Op)} {apos cpos : Pos} {o e : Expr}
theorem ve_index (ho : BE X W o fo) (ha : VA X W [e] fa) (hbase : attributeBase o "index" X.env (eval o X.env) = eval o X.env := by rfl) (hline : (apos.endLine == cpos.line) = true := by rfl)
    (hfew : ((backTo cpos (starEach [e] X.env)).all (fun x => !x.1) && (backToKw cpos (keywordEach [] X.env)).all (fun x => x.1.isSome)
      && decide (([e] : List Expr).length + ([] : List Keyword).length + (if ([] : List Keyword).isEmpty then 0 else 1) < 30)) = true := by rfl)
    (hs : starEach [e] X.env = (false, eval e X.env) :: starEach [] X.env := by rfl) (hplain : (backTo cpos (starEach ([] : List Expr) X.env)).any (·.1) = false := by rfl) : VE X W (.Call (.Attribute o "index" apos) [e] [] cpos) (mmeth gIndex fo fa) :=
  ve_meth PySem.F.slot_list_index PySem.F.type_list_index mt_index me_index ho ha hbase hfew hline hs hplain
end

/-! ### {k: v, ..} -/
def mpairs : List (M D × M D) → M (List (Key × D))
  | [] => mret []
  | (fk, fv) :: r => mbind (mkv fk fv) fun p => mbind (mpairs r) fun ps => mret (p :: ps)
structure DE (X : Cx) (W : WX) (pos : Pos) (keys : List (Option Expr)) (values : List Expr) (fs : List (M D × M D)) : Prop where
  pp : PPs X pos keys values (fs.map fun p => (Lf X W (RV X) p.1, Lf X W (RV X) p.2))
  tp : TP (mpairs fs)
section
variable {X : Cx} {W : WX} {pos : Pos} {k v : Expr} {ks : List (Option Expr)} {vs : List Expr} {fk fv : M D} {fs : List (M D × M D)}
theorem de_nil : DE X W pos [] [] [] := ⟨pps_nil, .ret _⟩
theorem de_cons (hk : VE X W k fk) (hv : VE X W v fv) (hr : DE X W pos ks vs fs) : DE X W pos (some k :: ks) (v :: vs) ((fk, fv) :: fs) :=
  ⟨pps_cons hk.pe hv.pe hr.pp, (tp_kv hk.tp hv.tp).bind fun _ => hr.tp.bind fun _ => .ret _⟩
/-- the pairs, the new dict at p untouched -/
theorem pairs_imp {p : Addr} {o : HO} {σ : St} : ∀ {fs : List (M D × M D)} {B Z : Addr → Prop} {H : Hp} {ρ : Rho} {T : Rho → List (Key × D) → Prop} {Q : List (V × V) → Hp → Prop}, (∀ q ∈ fs, TP q.1 ∧ TP q.2) → Good X.K B Z H σ ρ → H p = some o → ¬ Z p → ¬ Owns σ ρ p →
    (match mpairs fs ρ with
      | .ok ps ρ' => ∀ (us : List (Key × V)) (H' : Hp) (Z' : Addr → Prop), Step (Owns σ ρ) Z H Z' H' → Good X.K B Z' H' σ ρ' → H' p = some o → ¬ Z' p → tags ρ' = tags ρ → us.map (·.1) = ps.map (·.1) → RepL X.K Z' H' (us.map (·.2)) (ps.map (·.2)) → Q (us.map fun (kv : Key × V) => (kV kv.1, kv.2)) H'
      | .exc c f ρ' => XPost X W B Z H σ ρ c f ρ'
      | .no => False) → tPairs (fs.map fun q => (Lf X W (RV X) q.1, Lf X W (RV X) q.2)) σ H Q
  | [], B, Z, H, ρ, T, Q, _, G, hp, nz, no, q => q [] H Z .refl G hp nz rfl rfl .nil
  | (fk, fv) :: fs, B, Z, H, ρ, T, Q, tp, G, hp, nz, no, q => by
    have tk := (tp (fk, fv) List.mem_cons_self).1
    have tv := (tp (fk, fv) List.mem_cons_self).2
    have keep : ∀ {ρ Z H Z' H'}, Step (Owns σ ρ) Z H Z' H' → H p = some o → ¬ Z p → ¬ Owns σ ρ p → H' p = some o ∧ ¬ Z' p := fun {ρ Z H Z' H'} s hp nz no => ⟨s.keep _ _ hp no, fun z => by
      rcases s.new _ z with k | k
      · exact nz k
      · rw [hp] at k; cases k⟩
    refine ⟨B, Z, ρ, G, ?_⟩
    show Post X W (RV X) B Z H σ ρ (fk ρ) _
    unfold mpairs mkv mbind at q
    cases ek : fk ρ with
    | no => rw [ek] at q; exact q.elim
    | exc c f ρ1 => rw [ek] at q; exact q
    | ok dk ρ1 =>
      rw [ek] at q
      intro x H1 Z1 s1 G1 r1
      have t1 := tk.ok _ _ _ ek
      obtain ⟨hp1, nz1⟩ := keep s1 hp nz no
      have no1 : ¬ Owns σ ρ1 p := fun h => no (owns_tags t1 _ h)
      refine ⟨B, Z1, ρ1, G1, ?_⟩
      show Post X W (RV X) B Z1 H1 σ ρ1 (fv ρ1) _
      cases eo : keyOf dk with
      | none =>
        simp only [Res.bind, eo] at q
        exact q.elim
      | some key =>
        simp only [Res.bind, eo] at q
        have e2 := keyOf_eq eo
        subst e2
        have ex := (RepB.of r1).key
        subst ex
        cases ev : fv ρ1 with
        | no => rw [ev] at q; exact q.elim
        | exc c f ρ2 => rw [ev] at q; exact XPost.after s1 t1 q
        | ok dv ρ2 =>
          rw [ev] at q
          intro y H2 Z2 s2 G2 r2
          have t2 := tv.ok _ _ _ ev
          obtain ⟨hp2, nz2⟩ := keep s2 hp1 nz1 no1
          have no2 : ¬ Owns σ ρ2 p := fun h => no1 (owns_tags t2 _ h)
          have s12 : Step (Owns σ ρ) Z H Z2 H2 := s1.trans s2 fun a h => .inl (owns_tags t1 a h)
          refine pairs_imp (fs := fs) (T := T) (fun q h => tp q (List.mem_cons_of_mem _ h)) G2 hp2 nz2 no2 ?_
          simp only [mret] at q
          cases em : mpairs fs ρ2 with
          | no => rw [em] at q; exact q.elim
          | exc c f ρ3 => rw [em] at q; exact XPost.after s12 (t2.trans t1) q
          | ok ps ρ3 =>
            rw [em] at q
            intro us H3 Z3 s3 G3 hp3 nz3 t3 eu ru
            have r3 := r2.step s3 G2.mut G2.nz
            exact q ((key, y) :: us) H3 Z3 (s12.trans s3 fun a h => .inl (owns_tags (t2.trans t1) a h)) G3 hp3 nz3 (t3.trans (t2.trans t1)) (by simp [eu]) (.cons r3 ru)
def mdisp (fs : List (M D × M D)) : M D := mbind (mpairs fs) fun ps => if ps.length ≤ 15 then mret (.dict (dputs [] ps)) else mno
theorem repD_of {K : PySem.W.Frag} {Z : Addr → Prop} {H : Hp} : ∀ {us : List (Key × V)} {ps : List (Key × D)} {acc : List (Key × V)} {ds : List (D × D)}, us.map (·.1) = ps.map (·.1) → RepL K Z H (us.map (·.2)) (ps.map (·.2)) → RepD K Z H acc ds → RepD K Z H (mergeK acc us) (dputs ds ps)
  | [], [], acc, ds, _, _, r => r
  | (k, v) :: us, (k', d) :: ps, acc, ds, e, r, ra => by
    simp only [List.map_cons, List.cons.injEq] at e
    obtain ⟨e1, e2⟩ := e
    subst e1
    simp only [List.map_cons] at r
    cases r with
    | cons r t => exact repD_of (us := us) (ps := ps) e2 t (RepD.put k r ra)
  | [], _ :: _, _, _, e, _, _ => by simp at e
  | _ :: _, [], _, _, e, _, _ => by simp at e
theorem fe_disp (h : DE X W pos ks vs fs) (tp : ∀ q ∈ fs, TP q.1 ∧ TP q.2) (hall : ks.all (·.isSome) = true := by rfl) (hl : ks.length = vs.length := by rfl) (h0 : ks ≠ [] := by intro h; cases h) (h15 : ks.length ≤ 15 := by decide) : FE X W (.Dict ks vs pos) (mdisp fs) := by
  refine ⟨PE.imp (pe_disp h.pp hall hl h0 h15) fun σ H Q ⟨B, Z, ρ, G, p⟩ => fun a ha => ?_, h.tp.bind fun _ => tp_ite (.ret _) .no⟩
  have fr := G.free ha
  have x : Ext Z H Z (upd H a (.dK [])) := ext_out ha
  have G1 := G.ext x (Trk.ext G.zt x)
  refine pairs_imp (T := fun _ _ => True) tp G1 upd_same fr.1 fr.2 ?_
  unfold mdisp mbind at p
  cases em : mpairs fs ρ with
  | no => rw [em] at p; exact p.elim
  | exc c f ρ1 => rw [em] at p; exact XPost.after (x.weak fun _ (q : False) => q.elim) rfl p
  | ok ps ρ1 =>
    rw [em] at p
    intro us H2 Z2 s2 G2 hp2 nz2 t2 eu ru
    simp only [Res.bind] at p
    by_cases hl : ps.length ≤ 15
    · rw [if_pos hl] at p
      have el : us.length = ps.length := by simpa using congrArg List.length eu
      have no2 : ¬ Owns σ ρ1 a := fun h => fr.2 (owns_tags t2 _ h)
      refine ⟨hp2, us, rfl, by omega, ?_⟩
      have l := later_out (K := X.K) (Z := Z2) (o' := HO.dK (mergeK [] us)) hp2 trivial nz2
      have ru2 : RepL X.K Z2 (upd H2 a (.dK (mergeK [] us))) (us.map (·.2)) (ps.map (·.2)) := ru.later l
      have st : Step (Owns σ ρ) Z H Z2 (upd H2 a (.dK (mergeK [] us))) := step_upd ((x.weak fun _ (q : False) => q.elim).trans s2 fun b h => .inl h) ha
      exact p _ _ _ st (G2.updOut hp2 trivial nz2 no2) ⟨a, rfl, nz2, ⟨_, upd_same, repD_of eu ru2 .nil⟩, no2, ha⟩
    · rw [if_neg hl] at p; exact p.elim
end
end VS

set_option Elab.async false
set_option linter.all false
set_option maxRecDepth 100000
namespace VS
open PySem L2

/-! ### short forms, for a text that a program prints -/
theorem C1.u {X : Cx} {W : WX} {k : Nat} (c : C1 X W k) (n : Nat) (h : n ≤ 200 := by decide) : X.A.units + n < cLine := by
  have := c.room.un
  omega
structure Bi (mg : Str → Option Value) : Prop where
  len : mg "len" = none
  isinstance : mg "isinstance" = none
  tuple : mg "tuple" = none
  list : mg "list" = none
  any : mg "any" = none
  all : mg "all" = none
  sum : mg "sum" = none
  abs : mg "abs" = none
  int : mg "int" = none
  str : mg "str" = none
  bool : mg "bool" = none
  dict : mg "dict" = none
  set : mg "set" = none
  sorted : mg "sorted" = none
  repr : mg "repr" = none
  enumerate : mg "enumerate" = none
  zip : mg "zip" = none
  range : mg "range" = none
section
variable {X : Cx} {W : WX} {e : Expr} {es : List Expr} {f : M (List Op)} {pos p : Pos} {k : Nat}
theorem v_len (b : Bi X.mg) (gl : Gl X "len") (ha : VA X W (e :: es) f) (he : starEach (e :: es) X.env = (false, eval e X.env) :: starEach es X.env := by rfl) (hpl : (backTo pos (starEach es X.env)).any (·.1) = false := by rfl) : VE X W (.Call (.Name "len" p) (e :: es) [] pos) (mcb gLen f) :=
  ve_callB call_lenA ca_len gl b.len PySem.boot_len ha (by decide) (by decide) he hpl
theorem v_tuple (b : Bi X.mg) (gl : Gl X "tuple") (ha : VA X W (e :: es) f) (he : starEach (e :: es) X.env = (false, eval e X.env) :: starEach es X.env := by rfl) (hpl : (backTo pos (starEach es X.env)).any (·.1) = false := by rfl) : VE X W (.Call (.Name "tuple" p) (e :: es) [] pos) (mcb gTup f) :=
  ve_callTy call_tuple_of ca_tup gl b.tuple (by decide +kernel) ha (by decide) (by decide) he hpl
theorem f_list (c : C1 X W k) (b : Bi X.mg) (gl : Gl X "list") (ha : VA X W (e :: es) f) (he : starEach (e :: es) X.env = (false, eval e X.env) :: starEach es X.env := by rfl) (hpl : (backTo pos (starEach es X.env)).any (·.1) = false := by rfl) : FE X W (.Call (.Name "list" p) (e :: es) [] pos) (mcb gListA f) :=
  fe_callTy (call_listA c.calm) cf_list gl b.list (by decide +kernel) ha (by decide) (by decide) he hpl
theorem v_any (c : C1 X W k) (b : Bi X.mg) (gl : Gl X "any") (ha : VA X W (e :: es) f) (he : starEach (e :: es) X.env = (false, eval e X.env) :: starEach es X.env := by rfl) (hpl : (backTo pos (starEach es X.env)).any (·.1) = false := by rfl) : VE X W (.Call (.Name "any" p) (e :: es) [] pos) (mcb gAny f) :=
  ve_callB (cr_any c.calm) ca_any gl b.any (by decide +kernel) ha (by decide) (by decide) he hpl
theorem v_all (c : C1 X W k) (b : Bi X.mg) (gl : Gl X "all") (ha : VA X W (e :: es) f) (he : starEach (e :: es) X.env = (false, eval e X.env) :: starEach es X.env := by rfl) (hpl : (backTo pos (starEach es X.env)).any (·.1) = false := by rfl) : VE X W (.Call (.Name "all" p) (e :: es) [] pos) (mcb gAll f) :=
  ve_callB (cr_all c.calm) ca_all gl b.all (by decide +kernel) ha (by decide) (by decide) he hpl
theorem v_sum (c : C1 X W k) (b : Bi X.mg) (gl : Gl X "sum") (ha : VA X W (e :: es) f) (he : starEach (e :: es) X.env = (false, eval e X.env) :: starEach es X.env := by rfl) (hpl : (backTo pos (starEach es X.env)).any (·.1) = false := by rfl) : VE X W (.Call (.Name "sum" p) (e :: es) [] pos) (mcb gSum f) :=
  ve_callB (cr_sum c.calm) ca_sum gl b.sum (by decide +kernel) ha (by decide) (by decide) he hpl
theorem v_abs (b : Bi X.mg) (gl : Gl X "abs") (ha : VA X W (e :: es) f) (he : starEach (e :: es) X.env = (false, eval e X.env) :: starEach es X.env := by rfl) (hpl : (backTo pos (starEach es X.env)).any (·.1) = false := by rfl) : VE X W (.Call (.Name "abs" p) (e :: es) [] pos) (mcb gAbs f) :=
  ve_callB call_abs ca_abs gl b.abs (by decide +kernel) ha (by decide) (by decide) he hpl
theorem v_int (b : Bi X.mg) (gl : Gl X "int") (ha : VA X W (e :: es) f) (he : starEach (e :: es) X.env = (false, eval e X.env) :: starEach es X.env := by rfl) (hpl : (backTo pos (starEach es X.env)).any (·.1) = false := by rfl) : VE X W (.Call (.Name "int" p) (e :: es) [] pos) (mcb gInt f) :=
  ve_callTy call_int1 ca_int gl b.int (by decide +kernel) ha (by decide) (by decide) he hpl
theorem v_repr (c : C1 X W k) (b : Bi X.mg) (gl : Gl X "repr") (ha : VA X W (e :: es) f) (he : starEach (e :: es) X.env = (false, eval e X.env) :: starEach es X.env := by rfl) (hpl : (backTo pos (starEach es X.env)).any (·.1) = false := by rfl) : VE X W (.Call (.Name "repr" p) (e :: es) [] pos) (mcb gRepr f) :=
  ve_callB (call_reprA c.gd (c.u 60) c.sys) ca_repr gl b.repr (by decide +kernel) ha (by decide) (by decide) he hpl
end
section
variable {X : Cx} {W : WX} {k : Nat} {a b : Expr} {fa fb : M Op} {pos : Pos}
theorem v_eq (c : C1 X W k) (ha : BE X W a fa) (hb : BE X W b fb) : VE X W (.Compare a [.Eq] [b] pos) (mbin dEq fa fb) := ve_cmp (op_eqA (c.u 64)) opd_eqA ha hb (nomark _)
theorem t_eq (c : C1 X W k) (ha : BE X W a fa) (hb : BE X W b fb) : VT X W (.Compare a [.Eq] [b] pos) (mtest (mbin dEq fa fb)) := vt_cmp (op_eqA (c.u 64)) opd_eqA ha hb (nomark _)
theorem v_ne (c : C1 X W k) (ha : BE X W a fa) (hb : BE X W b fb) : VE X W (.Compare a [.NotEq] [b] pos) (mbin dNe fa fb) := ve_cmp (op_neA (c.u 64)) opd_neA ha hb (nomark _)
theorem t_ne (c : C1 X W k) (ha : BE X W a fa) (hb : BE X W b fb) : VT X W (.Compare a [.NotEq] [b] pos) (mtest (mbin dNe fa fb)) := vt_cmp (op_neA (c.u 64)) opd_neA ha hb (nomark _)
theorem v_lt (ha : BE X W a fa) (hb : BE X W b fb) : VE X W (.Compare a [.Lt] [b] pos) (mbin dLt fa fb) := ve_cmp op_lt opd_lt ha hb (nomark _)
theorem t_lt (ha : BE X W a fa) (hb : BE X W b fb) : VT X W (.Compare a [.Lt] [b] pos) (mtest (mbin dLt fa fb)) := vt_cmp op_lt opd_lt ha hb (nomark _)
theorem v_le (ha : BE X W a fa) (hb : BE X W b fb) : VE X W (.Compare a [.LtE] [b] pos) (mbin dLe fa fb) := ve_cmp op_le opd_le ha hb (nomark _)
theorem t_le (ha : BE X W a fa) (hb : BE X W b fb) : VT X W (.Compare a [.LtE] [b] pos) (mtest (mbin dLe fa fb)) := vt_cmp op_le opd_le ha hb (nomark _)
theorem v_gt (ha : BE X W a fa) (hb : BE X W b fb) : VE X W (.Compare a [.Gt] [b] pos) (mbin dGt fa fb) := ve_cmp op_gt opd_gt ha hb (nomark _)
theorem t_gt (ha : BE X W a fa) (hb : BE X W b fb) : VT X W (.Compare a [.Gt] [b] pos) (mtest (mbin dGt fa fb)) := vt_cmp op_gt opd_gt ha hb (nomark _)
theorem v_ge (ha : BE X W a fa) (hb : BE X W b fb) : VE X W (.Compare a [.GtE] [b] pos) (mbin dGe fa fb) := ve_cmp op_ge opd_ge ha hb (nomark _)
theorem t_ge (ha : BE X W a fa) (hb : BE X W b fb) : VT X W (.Compare a [.GtE] [b] pos) (mtest (mbin dGe fa fb)) := vt_cmp op_ge opd_ge ha hb (nomark _)
theorem v_in (c : C1 X W k) (ha : BE X W a fa) (hb : BE X W b fb) (hm : behindInMarks .In b = false := by rfl) : VE X W (.Compare a [.In] [b] pos) (mbin dIn fa fb) := ve_cmp (op_inA (c.u 65)) opd_in ha hb hm
theorem t_in (c : C1 X W k) (ha : BE X W a fa) (hb : BE X W b fb) (hm : behindInMarks .In b = false := by rfl) : VT X W (.Compare a [.In] [b] pos) (mtest (mbin dIn fa fb)) := vt_cmp (op_inA (c.u 65)) opd_in ha hb hm
theorem v_nin (c : C1 X W k) (ha : BE X W a fa) (hb : BE X W b fb) (hm : behindInMarks .NotIn b = false := by rfl) : VE X W (.Compare a [.NotIn] [b] pos) (mbin dNotIn fa fb) := ve_cmp (op_notInA (c.u 65)) opd_notIn ha hb hm
theorem t_nin (c : C1 X W k) (ha : BE X W a fa) (hb : BE X W b fb) (hm : behindInMarks .NotIn b = false := by rfl) : VT X W (.Compare a [.NotIn] [b] pos) (mtest (mbin dNotIn fa fb)) := vt_cmp (op_notInA (c.u 65)) opd_notIn ha hb hm
theorem v_is (ha : BE X W a fa) (hb : BE X W b fb) : VE X W (.Compare a [.Is] [b] pos) (mbin gIsN fa fb) := ve_cmp op_isN opd_isN ha hb (nomark _)
theorem t_is (ha : BE X W a fa) (hb : BE X W b fb) : VT X W (.Compare a [.Is] [b] pos) (mtest (mbin gIsN fa fb)) := vt_cmp op_isN opd_isN ha hb (nomark _)
theorem v_isnot (ha : BE X W a fa) (hb : BE X W b fb) : VE X W (.Compare a [.IsNot] [b] pos) (mbin gNotN fa fb) := ve_cmp op_notN opd_notN ha hb (nomark _)
theorem t_isnot (ha : BE X W a fa) (hb : BE X W b fb) : VT X W (.Compare a [.IsNot] [b] pos) (mtest (mbin gNotN fa fb)) := vt_cmp op_notN opd_notN ha hb (nomark _)
theorem v_add (ha : BE X W a fa) (hb : BE X W b fb) : VE X W (.BinOp a .Add b pos) (mbin dAdd fa fb) := ve_op (op_add.or (op_add_str.or (op_cat.or op_catA))) opd_add ha hb
theorem v_sub (ha : BE X W a fa) (hb : BE X W b fb) : VE X W (.BinOp a .Sub b pos) (mbin dSub fa fb) := ve_op op_sub opd_sub ha hb
theorem v_mul (ha : BE X W a fa) (hb : BE X W b fb) : VE X W (.BinOp a .Mult b pos) (mbin dMul fa fb) := ve_op op_mulA opd_mul ha hb
theorem v_mod (ha : BE X W a fa) (hb : BE X W b fb) : VE X W (.BinOp a .Mod b pos) (mbin dMod fa fb) := ve_op op_mod opd_mod ha hb
theorem v_fdiv (ha : BE X W a fa) (hb : BE X W b fb) : VE X W (.BinOp a .FloorDiv b pos) (mbin dFdiv fa fb) := ve_op op_fdiv opd_fdiv ha hb
theorem v_pow (ha : BE X W a fa) (hb : BE X W b fb) : VE X W (.BinOp a .Pow b pos) (mbin dPow fa fb) := ve_op op_pow opd_pow ha hb
end
/-- a statement that is not reached -/
def sno : SM := fun _ => .no
theorem ds_no {X : Cx} {W : WX} {P : List Nat} {st : Stmt} : DS X W P st sno := ⟨⟨fun pins s σ H D I ⟨B, Z, ρ, G, p⟩ => p.elim⟩⟩
/-- any target -/
def sasg (f : M D) (m : Tg) : SM := sbind f fun d ρ => match m d ρ with
  | some ρ' => .next ρ'
  | none => .no
theorem ds_asg {X : Cx} {W : WX} {P ts : List Nat} {tg e : Expr} {f : M D} {m : Tg} {pos : Pos} (hP : ∀ i ∈ ts, i ∉ P) (he : VE X W e f) (hg : GE X ts tg m) (hs : swapsWithSole [tg] e pos.line X.env = pure false := by rfl) (hw : swappedStores [tg] e X.env = pure none := by rfl)
    (h1 : (assignEach [tg] X.env).map (·.2) = [assign tg X.env] := by rfl) : DS X W P (.Assign [tg] e pos) (sasg f m) := by
  refine ⟨PS.imp (ps_asg he.pe hg.pg hs hw h1) fun E σ H ⟨B, Z, ρ, G, p⟩ => ?_⟩
  refine SPost.bind (R := RV X) he.tp G p fun v H1 Z1 ρ1 d s1 G1 t1 r1 p1 => ?_
  cases em : m d ρ1 with
  | none => rw [em] at p1; exact p1.elim
  | some ρ2 =>
    rw [em] at p1
    refine ⟨B, Z1, ρ1, d, ρ2, G1, r1, em, fun σ' G2 sub hl fr => ?_⟩
    exact p1 σ' H1 Z1 ((s1.s t1).trans (Ext.ss .refl sub.loc fun j hj => (fr j fun z => hP j z hj).1)) G2
/-- script[lo:hi] -/
def mscr (i : Nat) (fl fh : M (Option Int)) : M D := fun ρ => match ρ[i]? with
  | some (.scr ns) => (mbind fl fun l => mbind fh fun h => mret (.list (cutD (ns.map PyData.int) l h))) ρ
  | _ => .no
theorem rep_ints {K : PySem.W.Frag} {Z : Addr → Prop} {H : Hp} : ∀ (ys : List Int), RepL K Z H (ys.map V.int) (ys.map PyData.int)
  | [] => .nil
  | y :: ys => .cons (.int y) (rep_ints ys)
theorem ve_scr {X : Cx} {W : WX} {i : Nat} {x : Str} {p p2 pos : Pos} {lo hi : Option Expr} {fl fh : M (Option Int)} (hv : PE X (.Name x p) (tVar i)) (hl : OE X W lo fl) (hh : OE X W hi fh) : VE X W (.Subscript (.Name x p) (.Slice lo hi none p2) pos) (mscr i fl fh) := by
  refine ⟨PE.imp (pe_slice sl_list hv hl.po hh.po) fun σ H Q ⟨B, Z, ρ, G, p⟩ => ?_, ⟨fun ρ a ρ' e => ?_, fun ρ c f ρ' e => ?_⟩⟩
  · unfold mscr at p
    split at p
    · rename_i ns q
      obtain ⟨a, es, sc⟩ := G.scr q
      refine ⟨.ref a, es, ?_⟩
      refine Post.bind (R := RI) hl.tp G p fun l H2 Z2 ρ2 l' s2 G2 t2 r2 p2 => ?_
      refine Post.bind (R := RI) hh.tp G2 p2 fun u H3 Z3 ρ3 u' s3 G3 t3 r3 p3 => ?_
      have r2 : l = l' := r2
      have r3 : u = u' := r3
      subst r2 r3
      have sc3 := (sc.step s2 G.nz).step s3 G2.nz
      refine ⟨a, _, rfl, sc3.sq, fun q hq => ?_⟩
      have x : Ext Z3 H3 (fun a => Z3 a ∨ a = q) (upd H3 q (.lst (cutV (ns.map V.int) l u))) := ext_new hq
      exact p3.lay G3 x (trk_upd G3.zt) (.lst (.inr rfl) upd_same (((rep_ints ns).cut l u).ext x))
    · exact p.elim
  · unfold mscr at e
    split at e
    · exact (hl.tp.bind fun _ => hh.tp.bind fun _ => .ret _).ok _ _ _ e
    · cases e
  · unfold mscr at e
    split at e
    · exact (hl.tp.bind fun _ => hh.tp.bind fun _ => .ret _).ex _ _ _ _ e
    · cases e

/-! ### the law -/
def frTrue : FR → Prop
  | .ret (.val (.bool true)) _ => True
  | _ => False
theorem prom_V {K : PySem.W.Frag} {mg : Str → Option Value} {F : Fn} {H : Hp} {a : Addr} {ns : List Int} (only : Only H) (sq : SqL K H a (ns.map V.int)) (h : frTrue (F [.s ns])) : spV K mg F [.ref a] H (fun v _ => v = .bl true) (fun _ _ _ => False) := by
  refine ⟨fun b => ∃ o, H b = some o, [.s ns], fun _ h => h, .cons ⟨a, rfl, ?_⟩ .nil, fun i j d e b h1 => ?_, ?_⟩
  · rcases sq with q | q
    · refine .inl ⟨?_, q⟩
      rcases q with q | ⟨o, q⟩ <;> exact ⟨_, q⟩
    · exact .inr q
  · cases i <;> simp at h1
  · cases e : F [.s ns] with
    | ret r outs =>
      rw [e] at h
      cases r with
      | own d => exact h.elim
      | val d =>
        cases d with
        | bool b =>
          cases b with
          | true =>
            intro v H' Z' s t o rr
            cases rr
            rfl
          | false => exact h.elim
        | _ => exact h.elim
    | exc c f o => rw [e] at h; exact h.elim
    | no => rw [e] at h; exact h.elim
theorem walk_V {l : PySem.W.OpenLaw} {n k : Nat} {q : Program} {loose : List Str} {XP : (Str → Option Value) → Heap → Prop} {YP : World → Heap → Prop} {d : DefRec} {K : Params → PySem.W.Frag} {x : Str} {F : Fn}
    (hn : l.most = some n) (hn2 : n ≤ sizeLine) (hdf : d.params.defaults = []) (hr : Room k callerA) (hi : PyProof.Rows.importsNone q = true) (hY : ∀ (w : World) (h : Heap), YP w h → (K w.params).In h)
    (hF : ∀ (w : World) (mg : Str → Option Value) (fa : Addr) (h : Heap), (K w.params).In h → h.Ns mainGlobals mg → mg d.name = some (.ref fa) →
      ∃ fd : FuncData, (∀ (s : Shared) (u : Value), BindsTo s fd ⟨[u], []⟩ [(x, u)]) ∧
        ∀ base : Heap, (K w.params).In base → base.Ns mainGlobals mg → (∃ o, base.get? sysModules = some o) → FnG l.prog w (K w.params) mg base k fa fd [x] (spV (K w.params) mg F))
    (law : ∀ ns : List Int, ns.length ≤ n → (∀ z ∈ ns, Builtin.Int.intBits z ≤ 1048576) → frTrue (F [.s ns])) : PySem.W.WalkO q loose XP YP l.row.toRowW d [] (fun f vs => PySem.call f vs) := by
  refine Att.attach_callB hn hdf fun w _ s1 mg mb fa _ _ _ _ a vs ns G Y _ _ _ hmg hobj hints hlen hbits hg => ?_
  obtain ⟨fd, hb, hFn⟩ := hF w mg fa _ (hY w _ Y) G.T.g hmg
  exact law_G (hY w _ Y) G.T.g G.T.b G.T.builtins G.T.nolimit (G.T.seer hi) hg hobj hints (Nat.le_trans hlen hn2) hr hFn hb fun H hO hS => prom_V hO hS (law ns hlen hbits)
end VS

set_option Elab.async false
set_option linter.all false
set_option maxRecDepth 100000
namespace VS
open PySem PySem.Spec PyProof.Rows L2

/-! ### set(xs), xs a list of texts -/
/-- the texts met, the last first -/
def stS (acc : List Str) (x : Str) : List Str := if x ∈ acc then acc else x :: acc
def ddS (xs : List Str) : List Str := xs.foldl stS []
theorem ddS_snoc (xs : List Str) (x : Str) : ddS (xs ++ [x]) = stS (ddS xs) x := by unfold ddS; rw [List.foldl_append]; rfl
theorem stS_len (acc : List Str) (x : Str) : (stS acc x).length ≤ acc.length + 1 := by unfold stS; split <;> simp
theorem ddS_len (xs : List Str) : (ddS xs).length ≤ xs.length := by
  have : ∀ (xs acc : List Str), (xs.foldl stS acc).length ≤ acc.length + xs.length := by
    intro xs
    induction xs with
    | nil => intro acc; simp
    | cons x xs ih =>
      intro acc
      have h1 := ih (stS acc x)
      have h2 := stS_len acc x
      simp only [List.foldl_cons, List.length_cons]
      omega
  have := this xs []
  unfold ddS
  simpa using this
theorem ddS_mem (xs : List Str) (k : Str) : k ∈ ddS xs ↔ k ∈ xs := by
  have : ∀ (xs acc : List Str), k ∈ xs.foldl stS acc ↔ k ∈ acc ∨ k ∈ xs := by
    intro xs
    induction xs with
    | nil => intro acc; simp
    | cons x xs ih =>
      intro acc
      rw [List.foldl_cons, ih]
      unfold stS
      split
      · rename_i h
        constructor
        · rintro (a | a)
          · exact .inl a
          · exact .inr (List.mem_cons_of_mem _ a)
        · rintro (a | a)
          · exact .inl a
          · rcases List.mem_cons.mp a with rfl | a
            · exact .inl h
            · exact .inr a
      · simp only [List.mem_cons]
        constructor
        · rintro ((a | a) | a)
          · exact .inr (.inl a)
          · exact .inl a
          · exact .inr (.inr a)
        · rintro (a | a | a)
          · exact .inl (.inr a)
          · exact .inl (.inl a)
          · exact .inr a
  unfold ddS
  simpa using this xs []
theorem ddS_nodup (xs : List Str) : (ddS xs).Nodup := by
  have : ∀ (xs acc : List Str), acc.Nodup → (xs.foldl stS acc).Nodup := by
    intro xs
    induction xs with
    | nil => intro acc h; exact h
    | cons x xs ih =>
      intro acc h
      refine ih _ ?_
      unfold stS
      split
      · exact h
      · rename_i n; exact List.nodup_cons.mpr ⟨n, h⟩
  exact this xs [] List.nodup_nil
abbrev SD := PySem.Froz.SD
/-- the payload of a set of texts that can be walked -/
structure TxR (P : Program) (w : World) (D : SD) (l : List Str) : Prop where
  ok : PySem.Froz.TxOk P w D l
  ris : Ris D.2.2.place.toList
  led : w.params.followText "set-order" = true ∨ D.2.2.led = true
section
variable {P : Program} {w : World} {A : Around} {E : Value → Shared → Prop} {s : Shared}
theorem tail_ris {ep : Nat} {es : Array (Int × Value)} {t : SetTable} {wd : Bool} (h : Ris t.place.toList) : Ris (PySem.Froz.tailTx ep es t wd).2.2.place.toList := by
  unfold PySem.Froz.tailTx
  split
  · exact relayAll_ris t es _
  · exact h
theorem tail_led {ep : Nat} {es : Array (Int × Value)} {t : SetTable} {wd : Bool} : (PySem.Froz.tailTx ep es t wd).2.2.led = t.led := by
  unfold PySem.Froz.tailTx
  split
  · exact relayAll_led t es _
  · rfl
theorem TxR.add {D : SD} {l : List Str} {k : Str} (u : Tok) (R : TxR P w D l) : TxR P w (PySem.Froz.addTx (hashStr w k) (.str k u) D) (k :: l) := by
  obtain ⟨es, ep, t⟩ := D
  refine ⟨PySem.Froz.add_ok u R.ok, ?_, ?_⟩
  · unfold PySem.Froz.addTx
    refine tail_ris ?_
    have q := layNew_ris t es (hashStr w k) (.str k u) R.ris
    dsimp only
    split <;> exact q
  · refine R.led.imp id fun z => ?_
    unfold PySem.Froz.addTx
    rw [tail_led]
    have q := (layNew_led t es (hashStr w k) (.str k u)).trans z
    dsimp only
    split <;> exact q
/-- a text that is there already -/
theorem dup_x {a : Addr} {T : String} {D : SD} {l : List Str} {k : Str} {u : Tok} {Q : Bool → Shared → Prop} (ho : s.heap.get? a = some (PySem.Froz.sObj T D)) (F : PySem.Froz.TxOk P w D l) (hk : k ∈ l) (hb : l.length < scanBound)
    (h : Q false s) : wpAny (model P w) A (setAddHashed a (.str k u) (hashStr w k)) Q E s := by
  obtain ⟨es, ep, t⟩ := D
  have hd : (PySem.Froz.sObj T (es, ep, t)).data = .set es ep t := rfl
  have size : es.size < scanBound := by have : es.size = l.length := F.sz; omega
  have key : (strKind P w).is k (.str k u) = true := PySem.Froz.is_str k u
  unfold setAddHashed setAddHashedIn
  refine wpAny_holding (wpAny_bind (wpAny_setState_of ho hd F.fit ?_))
  dsimp only
  rw [byScan_of rfl size F.el]
  simp only [↓reduceIte]
  unfold setAddByScan
  refine wpAny_bind (wpAny_bind (wpAny_rule (wpAny_bind (wpAny_setScan_of (knd := strKind P w) (k := k) key ho hd F.fit F.el ?_))))
  cases hf : List.findIdx? (fun e => (strKind P w).is k e.2) es.toList with
  | none =>
    obtain ⟨e, he, q⟩ := (F.mem k).mp hk
    have c := List.findIdx?_eq_none_iff.mp hf e he
    rw [q] at c
    cases c
  | some j =>
    dsimp only
    exact wpAny_pure (wpAny_pure h)
/-- what stands in the set's place -/
def TxAt (P : Program) (w : World) (h : Heap) (a : Addr) (l : List Str) : Prop := ∃ D, h.get? a = some (PySem.Froz.sObj "set" D) ∧ TxR P w D l
theorem TxAt.at {h h' : Heap} {a : Addr} {l : List Str} (t : TxAt P w h a l) (k : ∀ o, h.get? a = some o → h'.get? a = some o) : TxAt P w h' a l := by
  obtain ⟨D, e, r⟩ := t
  exact ⟨D, k _ e, r⟩
/-- one text more -/
theorem add_txt {a : Addr} {l : List Str} {k : Str} {u : Tok} {Q : Bool → Shared → Prop} (t : TxAt P w s.heap a l) (hb : l.length + 1 < scanBound)
    (h : ∀ b h', (∀ c o, c ≠ a → s.heap.get? c = some o → h'.get? c = some o) → TxAt P w h' a (stS l k) → Q b { s with heap := h' }) : wpAny (model P w) A (setAddHashed a (.str k u) (hashStr w k)) Q E s := by
  obtain ⟨D, e, r⟩ := t
  by_cases hk : k ∈ l
  · refine dup_x e r.ok hk (by omega) ?_
    have q := h false s.heap (fun _ _ _ z => z) ⟨D, e, by unfold stS; rw [if_pos hk]; exact r⟩
    exact q
  · refine PySem.Froz.add_x e r.ok hk hb ?_
    refine h true _ (fun c o n z => (Heap.get?_update_other _ _ (Ne.symm n)).trans z) ⟨_, PySem.Froz.get_upd _ e rfl, ?_⟩
    unfold stS
    rw [if_neg hk]
    exact r.add u
/-- the loop of set(xs) -/
theorem loop_txt {R : Result → Shared → Prop} {I : Addr} {fp wr : List Addr} {G : Array GenState → Array GenState → Prop} {n : Nat} {Pv : Nat → Value → Prop} {St : Nat → Shared → Prop} (W : WalksS P w A.in1 I fp wr G n Pv St) (S : Addr) (out : S ∉ fp) (xs : List Str)
    (hn : xs.length = n) (hval : ∀ i v, Pv i v → ∃ x t, xs[i]? = some x ∧ v = .str x t) (hb : n + 1 < scanBound) : ∀ (j i : Nat) (s : Shared), i + j = n → St i s → TxAt P w s.heap S (ddS (xs.take i)) →
      (∀ s', Moved (S :: wr) G s s' → TxAt P w s'.heap S (ddS xs) → R (.ok (.ret .none)) s') → codeAny (model P w) A (.builtin "set.update.loop" ⟨[.ref S, .ref I], []⟩) R s := by
  have notw : S ∉ wr := fun z => out (W.sub _ z)
  have more : ∀ b ∈ wr, b ∈ S :: wr := fun _ z => List.mem_cons_of_mem _ z
  intro j
  induction j with
  | zero =>
    intro i s ij hs ht hR
    obtain rfl : i = n := by omega
    refine codeAny_builtin F.entry_set_update_loop ?_
    rw [Around.under_plainId F.plain_set_update_loop _]
    show wpAny _ A.in1 (pyNext (.ref I) >>= _) _ _ s
    refine wpAny_bind (W.done s _ _ hs fun s' mv => ?_)
    show wpAny _ A.in1 (ret Value.none) _ _ s'
    have full : xs.take i = xs := by rw [← hn]; exact List.take_length
    rw [full] at ht
    exact wpAny_pure (hR s' (mv.mono more) (ht.at fun o e => mv.heap S _ notw e))
  | succ j ih =>
    intro i s ij hs ht hR
    refine codeAny_builtin F.entry_set_update_loop ?_
    rw [Around.under_plainId F.plain_set_update_loop _]
    show wpAny _ A.in1 (pyNext (.ref I) >>= _) _ _ s
    refine wpAny_bind (W.item i s _ _ (by omega) hs fun v s' pv hs' mv => ?_)
    obtain ⟨x, t, ex, rfl⟩ := hval i v pv
    have ht' : TxAt P w s'.heap S (ddS (xs.take i)) := ht.at fun o e => mv.heap S _ notw e
    have room : (ddS (xs.take i)).length + 1 < scanBound := by
      have h1 := ddS_len (xs.take i)
      rw [List.length_take] at h1
      omega
    have nxt : ddS (xs.take (i + 1)) = stS (ddS (xs.take i)) x := by
      rw [← ddS_snoc]
      congr 1
      rw [List.take_succ, ex]
      rfl
    show wpAny _ A.in1 (holding [Value.str x t] (setAdd S (.str x t)) >>= _) _ _ s'
    refine wpAny_bind (wpAny_holding ?_)
    unfold setAdd
    refine wpAny_holding (wpAny_bind ((strKind P w).pyHash (k := x) (PySem.Froz.is_str x t) ?_))
    refine add_txt (s := { s' with toks := s'.toks + 1 }) ht' room fun b h' keep t2 => ?_
    refine wpAny_pure ⟨plainId_quiet F.plain_set_update_loop _, ih (i + 1) _ (by omega) (W.frame _ s' _ _ hs' (Nat.le_succ _) fun b hb o e => keep b o (fun z => out (z ▸ hb)) e) (by rw [nxt]; exact t2) fun s'' mv2 t3 => ?_⟩
    exact hR s'' (Moved.trans W.gtrans ((mv.mono more).then_heap (Nat.le_succ _) fun b o nb e => keep b o (fun z => nb (z ▸ List.mem_cons_self)) e) mv2) t3
abbrev newS (w : World) : Obj := { cls := .type "set", dict := none, data := .set #[] 0 (.fresh 0 0 (!w.params.followText "set-order")) }
theorem new_txt {h : Heap} {a : Addr} (e : h.get? a = some (newS w)) : TxAt P w h a [] := by
  refine ⟨(#[], 0, .fresh 0 0 (!w.params.followText "set-order")), e, .nil (by rfl), List.Pairwise.nil, ?_⟩
  show _ ∨ (!w.params.followText "set-order") = true
  cases w.params.followText "set-order"
  · exact .inr rfl
  · exact .inl rfl
set_option maxHeartbeats 3200000 in
/-- set(xs), a list of texts -/
theorem call_set_txt {l : Addr} {items : Array Value} (xs : List Str) {Q : Value → Shared → Prop} (noh : A.handled = none) (isl : s.heap.IsList l items) (len : items.size = xs.length) (at_ : ∀ (i : Nat) (v : Value), items[i]? = some v → ∃ x t, xs[i]? = some x ∧ v = .str x t) (few : items.size + 1 < scanBound)
    (h : ∀ (g : Heap) (tk : Nat), TxAt P w g s.heap.objs.size (ddS xs) → (∀ b o, s.heap.get? b = some o → g.get? b = some o) → Q (.ref s.heap.objs.size) { s with heap := g, toks := tk }) : wpAny (model P w) A (call (.type "set") [.ref l]) Q E s := by
  obtain ⟨cc, tl, mro⟩ := F.called_set.mro
  have made := F.called_set.made
  have subs := F.called_set.sub
  refine wpAny_call (codeAny_of_tree ?_)
  show wpAny _ _ (callAny (.type "set") _) _ _ _
  refine wpAny_pure ⟨Code.quiet_builtin _ (by decide +kernel), codeAny_builtin F.entry_type_call ?_⟩
  rw [Around.under_plain (weight_type_call_type "set" [.ref l] []) rfl]
  have k1 := F.called_set.notType
  have k2 := F.called_set.canCreate
  have k3 := F.typeCall_set_1 (.ref l)
  repeat (any_goals (first | assumption | wp_step))
  refine codeAny_mono (code_set_led1 (.ref l) (E := E) (Q₁ := fun ob s1 => ob = .ref s.heap.objs.size ∧ s1 = { s with heap := s.heap.push (newS w) }) ⟨rfl, rfl⟩) fun res s1 hres => ?_
  cases res with
  | error e => exact hres
  | ok fl =>
    cases fl with
    | ret ob =>
      obtain ⟨rfl, rfl⟩ := hres
      have get0 : (s.heap.push (newS w)).get? s.heap.objs.size = some (newS w) := Heap.get?_push_size _ rfl
      have ty0 : Shared.TypeIs { s with heap := s.heap.push (newS w) } (.ref s.heap.objs.size) "set" := ⟨_, get0, rfl⟩
      have i1 := F.called_set.init.lookup
      have i2 := F.called_set.init.bind (.ref s.heap.objs.size)
      repeat (any_goals (first | assumption | wp_step))
      refine codeAny_mono (codeAny_call_builtin (R := wants (fun r s2 => r = .none ∧ ∃ g tk, s2 = { s with heap := g, toks := tk } ∧ TxAt P w g s.heap.objs.size (ddS xs) ∧ (∀ b o, s.heap.get? b = some o → g.get? b = some o)) E)
        F.called_set.init.plain F.entry_set_init (check_set_init_1 ty0 ?_)) fun res2 s2 hres2 => ?_
      · obtain ⟨⟨oc, od, odt, osl⟩, ol, oe, nn, oe2⟩ := isl
        simp only at oe oe2
        subst oe oe2
        have ol1 : (s.heap.push (newS w)).get? l = some { cls := .type "list", dict := od, data := .seq items nn, slots := osl } := Heap.get?_push_of_some _ ol
        have n1 := F.sub_list_set
        have n2 := F.sub_list_frozenset
        have n3 : (Value.type "list" == Value.type "dict") = false := by decide
        have isl1 : (s.heap.push (newS w)).IsList l items := ⟨_, ol1, rfl, nn, rfl⟩
        unfold Builtin.«set.__init__» noKeywords Builtin.Frozenset.updateFrom
        generalize gen : pyIter = PI
        wp_walk
        subst gen
        refine wpAny_pyIter_list isl1 (wpAny_bind (wpAny_runValue ?_))
        have below : l < s.heap.objs.size := Heap.lt_size ol
        have noh3 : A.in1.in1.in1.handled = none := by simp [noh]
        have apart : l ≠ (s.heap.push (newS w)).objs.size := by
          rw [Heap.size_push]; exact Nat.ne_of_lt (Nat.lt_succ_of_lt below)
        have free : s.heap.objs.size ∉ [(s.heap.push (newS w)).objs.size, l] := by
          rw [Heap.size_push]
          simp only [List.mem_cons, List.not_mem_nil, or_false, not_or]
          exact ⟨Nat.ne_of_lt (Nat.lt_succ_self _), Nat.ne_of_gt below⟩
        refine loop_txt ((Walks.list noh3 _ l apart items).toS) s.heap.objs.size free xs len.symm at_ few items.size 0 _ (Nat.zero_add _) ⟨⟨_, Heap.get?_push_size _ rfl, rfl, rfl⟩, (isl1.push _)⟩ ?start ?fin
        case start => exact new_txt (Heap.get?_push_of_some _ get0)
        case fin =>
          intro s' mv ht
          obtain ⟨g, gs, dr, tk, os⟩ := s'
          have e1 : gs = s.gens := mv.gens
          have e2 : dr = s.drawn := mv.drawn
          have e3 : os = s.os := mv.os
          subst e1 e2 e3
          show wpAny _ _ _ _ _ _
          refine wpAny_pure ?_
          show wpAny _ _ (ret Value.none) _ _ _
          refine wpAny_pure ⟨rfl, g, tk, rfl, ht, fun b o e => ?_⟩
          have bl : b < s.heap.objs.size := Heap.lt_size e
          refine mv.heap b o ?_ (Heap.get?_push_of_some _ (Heap.get?_push_of_some _ e))
          rw [Heap.size_push]
          simp only [List.mem_cons, List.not_mem_nil, or_false, not_or]
          exact ⟨Nat.ne_of_lt bl, Nat.ne_of_lt (Nat.lt_succ_of_lt bl)⟩
      · cases res2 with
        | error e => exact hres2
        | ok fl2 =>
          cases fl2 with
          | ret r =>
            obtain ⟨rfl, g, tk, rfl, ht, kp⟩ := hres2
            repeat (any_goals (first | assumption | wp_step))
            exact h _ _ ht kp
          | _ => exact hres2.elim
    | _ => exact hres.elim
/-! ### sorted(s), s a set of texts -/
def leS (a b : Str) : Bool := decide (a.cps.toList ≤ b.cps.toList)
theorem leS_trans (a b c : Str) (h : leS a b = true) (k : leS b c = true) : leS a c = true := by
  unfold leS at *
  simp only [decide_eq_true_eq] at *
  exact List.le_trans h k
theorem leS_total (a b : Str) : (leS a b || leS b a) = true := by
  unfold leS
  simp only [Bool.or_eq_true, decide_eq_true_eq]
  exact List.le_total _ _
theorem leS_antisymm (a b : Str) (h : leS a b = true) (k : leS b a = true) : a = b := by
  unfold leS at *
  simp only [decide_eq_true_eq] at *
  have e := List.le_antisymm h k
  obtain ⟨⟨x⟩⟩ := a
  obtain ⟨⟨y⟩⟩ := b
  simp only at e
  rw [e]
def sortS (xs : List Str) : List Str := (ddS xs).mergeSort leS
theorem perm_of : ∀ {l bs : List Str}, l.Nodup → bs.length = l.length → (∀ x ∈ l, x ∈ bs) → bs.Perm l
  | [], bs, _, hl, _ => by
    cases bs with
    | nil => exact .nil
    | cons b bs => simp at hl
  | x :: l, bs, nd, hl, h => by
    obtain ⟨n1, n2⟩ := List.nodup_cons.mp nd
    have hx := h x List.mem_cons_self
    refine (List.perm_cons_erase hx).trans (.cons x (perm_of n2 ?_ fun y hy => ?_))
    · rw [List.length_erase_of_mem hx, hl]; simp
    · exact (List.mem_erase_of_ne (by rintro rfl; exact n1 hy)).mpr (h y (List.mem_cons_of_mem _ hy))
def strOf : Value → Str
  | .str x _ => x
  | _ => ⟨#[]⟩
theorem strKind_of {k : Str} {v : Value} (h : (strKind P w).is k v = true) : ∃ t, v = .str k t := by
  have h : Value.isStrOf k v = true := h
  cases v <;> simp [Value.isStrOf] at h
  subst h
  exact ⟨_, rfl⟩
/-- the members, in some order -/
theorem TxR.vals {D : SD} {l : List Str} (R : TxR P w D l) (nd : l.Nodup) {vs : List Value} (p : vs.Perm (D.1.toList.map (·.2))) : (∀ v ∈ vs, ∃ t, v = .str (strOf v) t) ∧ (vs.map strOf).Perm l := by
  have each : ∀ v ∈ vs, ∃ k t, v = .str k t := fun v hv => by
    obtain ⟨e, he, rfl⟩ := List.mem_map.mp (p.mem_iff.mp hv)
    obtain ⟨⟨k, hk, _⟩, _⟩ := R.ok.el e he
    obtain ⟨t, q⟩ := strKind_of hk
    exact ⟨k, t, q⟩
  refine ⟨fun v hv => ?_, perm_of nd ?_ fun x hx => ?_⟩
  · obtain ⟨k, t, rfl⟩ := each v hv
    exact ⟨t, rfl⟩
  · rw [List.length_map, p.length_eq, List.length_map, Array.length_toList]
    exact R.ok.sz
  · obtain ⟨e, he, hk⟩ := (R.ok.mem x).mp hx
    obtain ⟨t, q⟩ := strKind_of hk
    refine List.mem_map.mpr ⟨e.2, p.mem_iff.mpr (List.mem_map.mpr ⟨e, he, rfl⟩), ?_⟩
    rw [q]; rfl
theorem each_strs : ∀ {vs : List Value}, (∀ v ∈ vs, ∃ t, v = .str (strOf v) t) → PySem.W.EachIs (fun v b => ∃ t, v = .str b t) vs (vs.map strOf)
  | [], _ => .nil
  | v :: vs, h => .cons (h v List.mem_cons_self) (each_strs fun u hu => h u (List.mem_cons_of_mem _ hu))
/-- sorted(s) -/
theorem sorted_txt {a : Addr} {xs : List Str} {Q : Value → Shared → Prop} (ht : TxAt P w s.heap a (ddS xs)) (noh : A.handled = none) (few : xs.length < 4000) (hu : A.units + 10 < cLine)
    (h : ∀ (s' : Shared) (q : Addr) (out : List Value) (c : Nat), (∀ b o, s.heap.get? b = some o → s'.heap.get? b = some o) → s'.gens = s.gens → s'.os = s.os → s.heap.objs.size ≤ q → s'.heap.get? q = some (seqObj "list" out.toArray c) →
      PySem.W.EachIs (fun v b => ∃ t, v = .str b t) out (sortS xs) → Q (.ref q) s') : wpAny (model P w) A (call (.builtin "sorted") [.ref a]) Q E s := by
  obtain ⟨D, e, R⟩ := ht
  obtain ⟨es, ep, t⟩ := D
  have nd := ddS_nodup xs
  have len := ddS_len xs
  have size : es.size = (ddS xs).length := R.ok.sz
  have sb : es.size < scanBound := by unfold scanBound; omega
  refine Calls.call_function_entry kind_sorted plain_sorted entry_sorted (args_sorted1 _) ?_
  unfold Builtin.«sorted»
  refine wpAny_bind (m := checkCount "sorted" 1 1 _) (wpAny_pure ?_)
  refine wpAny_bind (collect_set (A := A.in1) noh ⟨_, e, rfl, rfl⟩ R.ok.fit sb R.ris R.led fun s1 vs keep below g1 o1 pm => ?_)
  obtain ⟨each, perm⟩ := R.vals nd pm
  have lv : vs.length = (ddS xs).length := by rw [← perm.length_eq, List.length_map]
  refine wpAny_bind (wpAny_newList ?_ (by rw [lv, sizeLine_eq]; omega))
  have new : (s1.heap.push (seqObj "list" vs.toArray 0)).get? s1.heap.objs.size = some (seqObj "list" vs.toArray 0) := Heap.get?_push_size _ rfl
  have es1 := each_strs each
  have alk : PySem.W.AllAlike ((vs.map strOf).map PyData.str) := fun d hd d' hd' => by
    obtain ⟨x, _, rfl⟩ := List.mem_map.mp hd
    obtain ⟨y, _, rfl⟩ := List.mem_map.mp hd'
    rfl
  have srt : PySem.W.Sortable ((vs.map strOf).map PyData.str) := .inr fun d hd => by
    obtain ⟨x, _, rfl⟩ := List.mem_map.mp hd
    refine ⟨?_, ?_⟩
    · intro z; cases z
    · intro ys z; cases z
  have er : PySem.W.EachIs (fun v b => ∃ as, Reads (s1.heap.push (seqObj "list" vs.toArray 0)) v (PyData.str b) as ∧ s1.heap.objs.size ∉ as) vs (vs.map strOf) := es1.mono fun v b ⟨t, q⟩ => ⟨[], by rw [q]; exact Reads.str b t, List.not_mem_nil⟩
  refine wpAny_bind (wpAny_holding (PySem.W.list_sort_data (s := { s1 with heap := s1.heap.push (seqObj "list" vs.toArray 0) }) new es1 er alk srt (by rw [List.length_map, lv, sizeLine_eq]; omega) (fun b _ => by show A.in1.units + 1 + 0 < cLine; show A.units + 1 + 1 + 0 < cLine; omega) fun out lo eo => ?_))
  have sorted : (vs.map strOf).mergeSort (PySem.W.dataLe false PyData.str) = sortS xs := by
    have e1 : (PySem.W.dataLe false PyData.str : Str → Str → Bool) = leS := by
      rw [PySem.W.dataLe_str fun b => b]
      rfl
    rw [e1]
    exact PySem.W.Srt.the_of_perm leS leS_trans leS_total leS_antisymm ((List.mergeSort_perm _ _).trans perm) (List.pairwise_mergeSort leS_trans leS_total _)
  rw [sorted] at eo
  obtain ⟨c, hc⟩ := sortedHeap_at (vs := vs) (out := out.toArray) new
  refine wpAny_pure ⟨_, rfl, h _ s1.heap.objs.size out c (fun b o q => ?_) g1 o1 below hc eo⟩
  have q1 := keep b o q
  have lt := Heap.lt_size q1
  show (sortedHeap (s1.heap.push (seqObj "list" vs.toArray 0)) s1.heap.objs.size vs out.toArray).get? b = some o
  rw [sortedHeap_old (Nat.ne_of_lt lt) (by rw [size_push']; exact Nat.lt_succ_of_lt lt)]
  exact Heap.get?_push_of_some _ q1
end
end VS

set_option Elab.async false
set_option linter.all false
set_option maxRecDepth 100000
namespace VS
open PySem PySem.Spec PyProof.Rows L2

/-! ### sorted(set(xs)), xs a list of texts -/
def tSortSet (K : PySem.W.Frag) (te : TE) : TE := fun σ H Q => te σ H fun x H1 => ∃ l xs, x = .ref l ∧ SqL K H1 l (xs.map V.str) ∧ xs.length < 1000 ∧ ∀ q, H1 q = none → Q (.ref q) (upd H1 q (.lst ((sortS xs).map V.str)))
theorem sortS_len (xs : List Str) : (sortS xs).length ≤ xs.length := by
  unfold sortS
  rw [(List.mergeSort_perm _ _).length_eq]
  exact ddS_len xs
theorem vals_each {out : List Value} {ys : List Str} (h : PySem.W.EachIs (fun v b => ∃ t, v = .str b t) out ys) : Vals (ys.map V.str) out := by
  induction h with
  | nil => exact .nil
  | cons h t ih => exact .cons h ih
theorem strs_get : ∀ {xs : List Str} {its : List Value}, Vals (xs.map V.str) its → ∀ (i : Nat) (v : Value), its[i]? = some v → ∃ x t, xs[i]? = some x ∧ v = .str x t
  | x :: xs, v :: its, .cons r t, 0, u, e => by
    simp at e
    subst e
    obtain ⟨t, rfl⟩ := r
    exact ⟨x, t, rfl, rfl⟩
  | x :: xs, v :: its, .cons r t, i + 1, u, e => by
    obtain ⟨y, t, e1, e2⟩ := strs_get t i u (by simpa using e)
    exact ⟨y, t, by simpa using e1, e2⟩
  | [], _, .nil, i, u, e => by simp at e
theorem pe_sortSet {X : Cx} {e : Expr} {te : TE} {p p2 q pos : Pos} (hc : X.calm = true) (hu : X.A.units + 20 < cLine) (g1 : Gl X "sorted") (m1 : X.mg "sorted" = none) (g2 : Gl X "set") (m2 : X.mg "set" = none) (he : PE X e te) (ne : starEach [e] X.env = (false, eval e X.env) :: starEach [] X.env := by rfl) :
    PE X (.Call (.Name "sorted" p) [.Call (.Name "set" p2) [e] [] q] [] pos) (tSortSet X.K te) := by
  refine ⟨fun pins s σ H Q I h => ?_⟩
  have b1 : bootBuiltins "sorted" = some (.builtin "sorted") := by decide +kernel
  refine Call_ (ld_blt I g1 m1 b1 (callWith_builtin1 (args_cons ?_ rfl) rfl rfl))
  refine Call_ (ld_blt I g2 m2 boot_set (callWith_type1 (args_cons (thn (he.run pins s σ H _ I h) fun v s1 ⟨x, H1, I1, r1, l, xs, ex, sq, few, k⟩ => args_nil ?_) ne) ne rfl))
  subst ex
  cases r1
  obtain ⟨its, r, pl, _⟩ := I1.list sq
  have len := r.length
  rw [List.length_map] at len
  refine call_set_txt xs (I1.ok.hd hc) pl.isList (by rw [List.size_toArray, len]) (fun i v ev => strs_get r i v (by simpa using ev)) (by rw [List.size_toArray, ← len]; unfold scanBound; omega) fun g tk ht kp => args_nil ?_
  have I2 : Inv X pins σ H1 { s1 with heap := g, toks := tk } := I1.kept kp
  refine sorted_txt (s := { s1 with heap := g, toks := tk }) ht (I1.ok.hd hc) (by omega) (by omega) fun s' a out c keep eg eo below at_ each => ?_
  have vv := vals_each each
  have l1 := sortS_len xs
  obtain ⟨h3, gs, dr, tk3, os⟩ := s'
  have eg : gs = s1.gens := eg
  have eo : os = s1.os := eo
  subst eg eo
  have free : H1 a = none := I2.hok.fresh below
  have keep' : ∀ b o, g.get? b = some o → h3.get? b = some o := keep
  have J := I2.call (h' := h3) (g' := s1.gens) (d' := dr) (t' := tk3) (ch := []) (Un.laid keep' below free) (I2.hok.laid (o := .lst ((sortS xs).map V.str)) keep' below ⟨by rw [List.length_map, sizeLine_eq]; omega, out, c, vv, at_⟩) I2.bare (fun _ z => nomatch z)
  exact ⟨.ref a, _, J, rfl, k a free⟩
/-- by value -/
def strsOf : List D → Option (List Str)
  | [] => some []
  | .str x :: r => (strsOf r).map (x :: ·)
  | _ => none
theorem strsOf_rep {K : PySem.W.Frag} {Z : Addr → Prop} {H : Hp} : ∀ {ds : List D} {xs : List Str} {vs : List V}, strsOf ds = some xs → RepL K Z H vs ds → vs = xs.map V.str
  | [], _, _, e, .nil => by cases e; rfl
  | .str x :: r, xs, _, e, .cons h t => by
    obtain ⟨ys, e1, rfl⟩ := Option.map_eq_some_iff.mp (show (strsOf r).map (x :: ·) = some xs from e)
    cases h
    rw [strsOf_rep e1 t]
    rfl
  | .none :: r, _, _, e, _ => by cases e
  | .bool _ :: r, _, _, e, _ => by cases e
  | .int _ :: r, _, _, e, _ => by cases e
  | .list _ :: r, _, _, e, _ => by cases e
  | .tuple _ :: r, _, _, e, _ => by cases e
  | .dict _ :: r, _, _, e, _ => by cases e
def msortset (f : M Op) : M D := mbind f fun o => mbind (mder o) fun d => match d with
  | .list ds => match strsOf ds with
    | some xs => if xs.length < 1000 then mret (.list ((sortS xs).map .str)) else mno
    | none => mno
  | _ => mno
theorem tp_sortset {f : M Op} (h : TP f) : TP (msortset f) := h.bind fun o => (TP.der o).bind fun d => by
  cases d <;> first
    | exact .no
    | (dsimp only; split <;> first
        | exact .no
        | exact tp_ite (.ret _) .no)
theorem fe_sortset {X : Cx} {W : WX} {k : Nat} {e : Expr} {f : M Op} {p p2 q pos : Pos} (c : C1 X W k) (b : Bi X.mg) (g1 : Gl X "sorted") (g2 : Gl X "set") (he : BE X W e f) (ne : starEach [e] X.env = (false, eval e X.env) :: starEach [] X.env := by rfl) :
    FE X W (.Call (.Name "sorted" p) [.Call (.Name "set" p2) [e] [] q] [] pos) (msortset f) := by
  refine ⟨PE.imp (pe_sortSet c.calm (c.u 20) g1 b.sorted g2 b.set he.pe ne) fun σ H Q ⟨B, Z, ρ, G, p⟩ => ?_, tp_sortset he.tp⟩
  refine Post.bind he.tp G p fun v H1 Z1 ρ1 o s1 G1 t1 r1 p1 => ?_
  obtain ⟨d, rb, p2⟩ := p1.der G1 r1
  cases d with
  | list ds =>
    dsimp only at p2
    cases ex : strsOf ds with
    | none => rw [ex] at p2; exact p2.elim
    | some xs =>
      rw [ex] at p2
      dsimp only at p2
      by_cases few : xs.length < 1000
      · rw [if_pos few] at p2
        obtain ⟨a, us, rfl, h1, r2⟩ := rb.lst
        have eu := strsOf_rep ex r2
        subst eu
        refine ⟨a, xs, rfl, .inl (.inl h1), few, fun q hq => ?_⟩
        have fr := G1.free hq
        exact p2.lay G1 (ext_out hq) (Trk.ext G1.zt (ext_out hq)) ⟨q, rfl, fr.1, ⟨_, upd_same, rep_strs _⟩, fr.2, hq⟩
      · rw [if_neg few] at p2; exact p2.elim
  | _ => exact p2.elim
end VS

set_option Elab.async false
set_option linter.all false
set_option maxRecDepth 100000
namespace VS
open PySem PySem.Spec PyProof.Rows L2

/-! ### s == t, sets of texts -/
section
variable {P : Program} {w : World} {A : Around} {E : Value → Shared → Prop} {s : Shared}
theorem TxR.setOf {D : SD} {l : List Str} (R : TxR P w D l) {h : Heap} {a : Addr} (e : h.get? a = some (PySem.Froz.sObj "set" D)) (few : l.length < scanBound) : h.SetOf (strKind P w) a (fun k => decide (k ∈ l)) l.length := by
  obtain ⟨es, ep, t⟩ := D
  exact ⟨_, es, ep, t, e, ⟨rfl, rfl, rfl⟩, rfl, R.ok.el, fun k => by rw [decide_eq_true_eq]; exact R.ok.mem k, by have : es.size = l.length := R.ok.sz; omega, R.ok.fit, R.ok.sz⟩
theorem entry_set_eq : entryFor table "set.__eq__" = some Builtin.«frozenset.__eq__» := entryFor_alias (id' := "frozenset.__eq__") (by kernel_rfl) rfl (by decide +kernel) (by kernel_rfl)
theorem quiet_strs {M : Model} {Q : Bool → Shared → Prop} {v : Value} {k : Str} (h : (strKind P w).is k v = true) (q : Q true s) : wpAny M A (Builtin.Frozenset.quietEq v) Q E s := by
  obtain ⟨t, rfl⟩ := strKind_of h
  exact wpAny_pure q
/-- no item of them decides for itself -/
theorem unseen_loop {M : Model} {a : Addr} : ∀ (l : List (Int × Value)), (∀ e ∈ l, ∃ k, (strKind P w).is k e.2 = true) →
    wpAny M A (forIn l ((none, ()) : Option (List (Int × Value)) × Unit) fun (x : Int × Value) (_ : Option (List (Int × Value)) × Unit) => match x with
      | (_, v) => do
        let b ← Builtin.Frozenset.quietEq v
        if (!b) = true then do
          let y ← Builtin.Frozenset.walk a
          pure (ForInStep.done (some y, ()))
        else pure (ForInStep.yield (none, ()))) (fun r s' => r.1 = none ∧ s' = s) E s
  | [], _ => by
    rw [List.forIn_nil]
    exact wpAny_pure ⟨rfl, rfl⟩
  | x :: l, h => by
    obtain ⟨k, hk⟩ := h x List.mem_cons_self
    rw [List.forIn_cons]
    refine wpAny_bind (wpAny_bind (quiet_strs hk ?_))
    exact wpAny_pure (unseen_loop l fun e he => h e (List.mem_cons_of_mem _ he))
theorem walk_unseen {a b : Addr} {D D' : SD} {l m : List Str} {Q : List (Int × Value) → Shared → Prop} (e : s.heap.get? a = some (PySem.Froz.sObj "set" D)) (R : TxR P w D l) (e' : s.heap.get? b = some (PySem.Froz.sObj "set" D')) (R' : TxR P w D' m) (q : Q D.1.toList s) :
    wpAny (model P w) A (Builtin.Frozenset.walkUnseen a b) Q E s := by
  obtain ⟨es, ep, t⟩ := D
  obtain ⟨fs, fp, u⟩ := D'
  unfold Builtin.Frozenset.walkUnseen
  refine wpAny_bind (wpAny_setEntries_of e rfl R.ok.fit ?_)
  refine wpAny_bind (wpAny_setEntries_of e' rfl R'.ok.fit ?_)
  have all : ∀ x ∈ es.toList ++ fs.toList, ∃ k, (strKind P w).is k x.2 = true := fun x hx => by
    rcases List.mem_append.mp hx with hx | hx
    · exact let ⟨⟨k, h, _⟩, _⟩ := R.ok.el x hx; ⟨k, h⟩
    · exact let ⟨⟨k, h, _⟩, _⟩ := R'.ok.el x hx; ⟨k, h⟩
  refine wpAny_bind (wpAny_mono (unseen_loop (a := a) (es.toList ++ fs.toList) all) (fun r s' h => ?_) fun _ _ z => z)
  obtain ⟨h1, rfl⟩ := h
  obtain ⟨r1, r2⟩ := r
  dsimp only at h1
  subst h1
  exact wpAny_pure q
/-- each of the one is in the other? -/
def subB (l m : List Str) : Bool := l.all fun x => decide (x ∈ m)
theorem sub_loop {id : String} {a b : Addr} {es : Array (Int × Value)} {ep : Nat} {t : SetTable} {l m : List Str} (e : s.heap.get? a = some (PySem.Froz.sObj "set" (es, ep, t))) (R : TxR P w (es, ep, t) l) (S : s.heap.SetOf (strKind P w) b (fun k => decide (k ∈ m)) m.length) :
    ∀ (xs : List (Int × Value)), (∀ x ∈ xs, x ∈ es.toList) →
    wpAny (model P w) A (forIn xs ((none, ()) : Option Bool × Unit) fun (x : Int × Value) (_ : Option Bool × Unit) => match x with
      | (h, v) => do
        let y ← holding [v] (setFind b v h)
        if y.isNone = true then pure (ForInStep.done (some false, ()))
        else do
          Builtin.Frozenset.unchanged id a ep
          pure (ForInStep.yield (none, ()))) (fun r s' => (r.1 = if (xs.all fun x => decide (strOf x.2 ∈ m)) = true then none else some false) ∧ s' = s) E s
  | [], _ => by
    rw [List.forIn_nil]
    exact wpAny_pure ⟨rfl, rfl⟩
  | (h0, v) :: xs, h => by
    obtain ⟨⟨k, hk, hh⟩, hsc⟩ := R.ok.el (h0, v) (h _ List.mem_cons_self)
    dsimp only at hk hh hsc
    have ek : strOf v = k := by
      obtain ⟨t, rfl⟩ := strKind_of hk
      rfl
    subst hh
    rw [List.forIn_cons]
    refine wpAny_bind (wpAny_bind (wpAny_holding (wpAny_setFind_of hk hsc S fun r hr => ?_)))
    by_cases hm : k ∈ m
    · have r1 : r.isNone = false := by
        cases r with
        | none => rw [decide_eq_true hm] at hr; cases hr
        | some j => rfl
      rw [r1]
      rw [if_neg Bool.false_ne_true]
      unfold Builtin.Frozenset.unchanged
      refine wpAny_bind (wpAny_bind (wpAny_setEpoch_of e rfl R.ok.fit ?_))
      rw [if_neg (by simp)]
      refine wpAny_pure (wpAny_pure ?_)
      refine wpAny_mono (sub_loop e R S xs fun y hy => h y (List.mem_cons_of_mem _ hy)) (fun r s' ⟨q1, q2⟩ => ⟨?_, q2⟩) fun _ _ z => z
      rw [q1]
      simp only [List.all_cons, ek, decide_eq_true hm, Bool.true_and]
    · have r1 : r.isNone = true := by
        cases r with
        | none => rfl
        | some j => rw [decide_eq_false hm] at hr; cases hr
      rw [r1]
      rw [if_pos rfl]
      refine wpAny_pure (wpAny_pure ⟨?_, rfl⟩)
      simp only [List.all_cons, ek, decide_eq_false hm, Bool.false_and]
      rfl
theorem all_sub {es : Array (Int × Value)} {ep : Nat} {t : SetTable} {l m : List Str} (R : TxR P w (es, ep, t) l) : (es.toList.all fun x => decide (strOf x.2 ∈ m)) = subB l m := by
  rw [Bool.eq_iff_iff]
  unfold subB
  rw [List.all_eq_true, List.all_eq_true]
  constructor
  · intro h x hx
    obtain ⟨e, he, hk⟩ := (R.ok.mem x).mp hx
    have q := h e he
    obtain ⟨t, ht⟩ := strKind_of hk
    rw [ht] at q
    exact q
  · intro h e he
    obtain ⟨⟨k, hk, _⟩, _⟩ := R.ok.el e he
    obtain ⟨t, ht⟩ := strKind_of hk
    have q := h k ((R.ok.mem k).mpr ⟨e, he, hk⟩)
    rw [ht]
    exact q
/-- the one within the other, of the same size -/
theorem sub_of {id : String} {a b : Addr} {l m : List Str} {Q : Bool → Shared → Prop} (ta : TxAt P w s.heap a l) (tb : TxAt P w s.heap b m) (few : m.length < scanBound) (same : l.length = m.length) (q : Q (subB l m) s) : wpAny (model P w) A (Builtin.Frozenset.subsetOf id a b) Q E s := by
  obtain ⟨⟨es, ep, t⟩, e, R⟩ := ta
  obtain ⟨D', e', R'⟩ := tb
  have S := R'.setOf e' few
  have z1 : es.size = l.length := R.ok.sz
  obtain ⟨fs, fp, u⟩ := D'
  have z2 : fs.size = m.length := R'.ok.sz
  unfold Builtin.Frozenset.subsetOf Builtin.Frozenset.sizeOf
  refine wpAny_bind (wpAny_bind (wpAny_setEntries_of e rfl R.ok.fit (wpAny_pure ?_)))
  refine wpAny_bind (wpAny_bind (wpAny_setEntries_of e' rfl R'.ok.fit (wpAny_pure ?_)))
  rw [if_neg (by simp only [decide_eq_true_eq]; omega)]
  refine wpAny_bind (wpAny_setEpoch_of e rfl R.ok.fit ?_)
  refine wpAny_bind (walk_unseen e R e' R' ?_)
  refine wpAny_bind (wpAny_mono (sub_loop (id := id) e R S es.toList fun _ h => h) (fun r s' ⟨q1, q2⟩ => ?_) fun _ _ z => z)
  subst q2
  rw [all_sub R] at q1
  obtain ⟨r1, r2⟩ := r
  dsimp only at q1
  subst q1
  cases h : subB l m with
  | true => rw [h] at q; exact wpAny_pure q
  | false => rw [h] at q; exact wpAny_pure q
/-- s == t -/
def eqS (l m : List Str) : Bool := decide (l.length = m.length) && subB l m
theorem eq_txt {a b : Addr} {l m : List Str} {Q : Value → Shared → Prop} (ta : TxAt P w s.heap a l) (tb : TxAt P w s.heap b m) (few : m.length < scanBound) (hu : A.units < cLine) (q : Q (.bool (eqS l m)) s) : wpAny (model P w) A (compareOp .Eq (.ref a) (.ref b)) Q E s := by
  obtain ⟨⟨es, ep, t⟩, e, R⟩ := id ta
  obtain ⟨⟨fs, fp, u⟩, e', R'⟩ := id tb
  have z1 : es.size = l.length := R.ok.sz
  have z2 : fs.size = m.length := R'.ok.sz
  have T1 : s.TypeIs (.ref a) "set" := ⟨_, e, rfl⟩
  have T2 : s.TypeIs (.ref b) "set" := ⟨_, e', rfl⟩
  show wpAny _ _ (richCompare .Eq (.ref a) (.ref b)) _ _ _
  refine wpAny_richCompare_same_room T1 T2 F.slot_set_eq (wpAny_call_entry F.slot_set_eq T1 entry_set_eq ?_ (F.args_set_eq_2 _ _)) hu
  have s1 : ∀ {A : Around} {E : Value → Shared → Prop} {Q : Value × Value → Shared → Prop}, Q (.ref a, .ref b) s → wpAny (model P w) A (Builtin.Frozenset.slot1 "__eq__" ⟨[.ref a, .ref b], []⟩) Q E s := fun q => by
    exact wpAny_of_eq (by kernel_rfl) q
  have i1 : ∀ {A : Around} {E : Value → Shared → Prop} {Q : Bool → Shared → Prop}, Q true s → wpAny (model P w) A (Builtin.Frozenset.isAnySet (.ref b)) Q E s := fun q => by
    unfold Builtin.Frozenset.isAnySet
    exact wpAny_bind (wpAny_isInstance T2 (b := true) (by kernel_rfl) (wpAny_pure q))
  have n1 : ∀ {A : Around} {E : Value → Shared → Prop} {Q : Nat → Shared → Prop}, Q l.length s → wpAny (model P w) A (Builtin.Frozenset.sizeOf a) Q E s := fun q => by
    unfold Builtin.Frozenset.sizeOf
    exact wpAny_bind (wpAny_setEntries_of e rfl R.ok.fit (wpAny_pure (by rw [z1]; exact q)))
  have n2 : ∀ {A : Around} {E : Value → Shared → Prop} {Q : Nat → Shared → Prop}, Q m.length s → wpAny (model P w) A (Builtin.Frozenset.sizeOf b) Q E s := fun q => by
    unfold Builtin.Frozenset.sizeOf
    exact wpAny_bind (wpAny_setEntries_of e' rfl R'.ok.fit (wpAny_pure (by rw [z2]; exact q)))
  refine wpAny_bind (s1 ?_)
  refine wpAny_bind (i1 ?_)
  refine wpAny_bind (wpAny_pure ?_)
  refine wpAny_bind (wpAny_pure ?_)
  refine wpAny_bind (n1 ?_)
  refine wpAny_bind (n2 ?_)
  refine wpAny_bind ?_
  by_cases h : l.length = m.length
  · rw [if_neg (by simp [h])]
    refine wpAny_bind (wpAny_bind (wpAny_isInstance T1 (b := false) (by kernel_rfl) (wpAny_pure ?_)))
    rw [if_neg Bool.false_ne_true]
    refine sub_of ta tb few h ?_
    refine wpAny_pure ⟨_, rfl, (fun z => by cases z), ?_⟩
    have : eqS l m = subB l m := by unfold eqS; rw [decide_eq_true h, Bool.true_and]
    rw [← this]
    exact q
  · rw [if_pos (by simp [h])]
    refine wpAny_pure (wpAny_pure ⟨_, rfl, (fun z => by cases z), ?_⟩)
    have : eqS l m = false := by unfold eqS; rw [decide_eq_false h, Bool.false_and]
    rw [← this]
    exact q
end
end VS

set_option Elab.async false
set_option linter.all false
set_option maxRecDepth 100000
namespace VS
open PySem PySem.Spec PyProof.Rows L2

/-! ### set(xs) == set(ys), lists of texts -/
/-- set(e): a set of texts of its own, in a cell that no law speaks of -/
theorem run_set {X : Cx} {e : Expr} {te : TE} {p2 q : Pos} (hc : X.calm = true) (g2 : Gl X "set") (m2 : X.mg "set" = none) (he : PE X e te) (ne : starEach [e] X.env = (false, eval e X.env) :: starEach [] X.env)
    {pins : List (Addr × Obj)} {s : Shared} {σ : L2.St} {H : Hp} {R : List Str → Hp → Prop} (I : Inv X pins σ H s) (h : te σ H fun x H1 => ∃ l xs, x = .ref l ∧ SqL X.K H1 l (xs.map V.str) ∧ xs.length < 1000 ∧ R xs H1) {Q : Value → Shared → Prop}
    (k : ∀ a s' xs H1, Inv X pins σ H1 s' → TxAt X.prog X.w s'.heap a (ddS xs) → xs.length < 1000 → (∀ D, s'.heap.get? a = some (PySem.Froz.sObj "set" D) → Inv X ((a, PySem.Froz.sObj "set" D) :: pins) σ H1 s') → R xs H1 → Q (.ref a) s') :
    wpAny (model X.prog X.w) X.A (eval (.Call (.Name "set" p2) [e] [] q) X.env) Q X.xe s := by
  refine Call_ (ld_blt I g2 m2 boot_set (callWith_type1 (args_cons (thn (he.run pins s σ H _ I h) fun v s1 ⟨x, H1, I1, r1, l, xs, ex, sq, few, k1⟩ => args_nil ?_) ne) ne rfl))
  subst ex
  cases r1
  obtain ⟨its, r, pl, _⟩ := I1.list sq
  have len := r.length
  rw [List.length_map] at len
  refine call_set_txt xs (I1.ok.hd hc) pl.isList (by rw [List.size_toArray, len]) (fun i v ev => strs_get r i v (by simpa using ev)) (by rw [List.size_toArray, ← len]; unfold scanBound; omega) fun g tk ht kp => ?_
  have I2 : Inv X pins σ H1 { s1 with heap := g, toks := tk } := I1.kept kp
  have lt := I1.lt
  refine k _ _ xs H1 I2 ht few (fun D eD => ?_) k1
  refine I2.pins_of fun p hp => ?_
  rcases List.mem_cons.mp hp with rfl | hp
  · exact ⟨eD, I1.hok.fresh (Nat.le_refl _), fun z => Nat.ne_of_gt lt z, I1.nofs (Nat.le_refl _), fun v z => by obtain ⟨es, ep, t⟩ := D; cases z⟩
  · exact I2.pin p (List.mem_append_right _ hp)
def tSetEq (K : PySem.W.Frag) (ta tb : TE) : TE := fun σ H Q => ta σ H fun x H1 => ∃ l xs, x = .ref l ∧ SqL K H1 l (xs.map V.str) ∧ xs.length < 1000 ∧
  tb σ H1 fun y H2 => ∃ m ys, y = .ref m ∧ SqL K H2 m (ys.map V.str) ∧ ys.length < 1000 ∧ Q (.bl (eqS (ddS xs) (ddS ys))) H2
section
variable {X : Cx} {a b : Expr} {ta tb : TE} {p1 p2 q1 q2 pos : Pos}
theorem run_setEq (hc : X.calm = true) (hu : X.A.units + 64 < cLine) (g2 : Gl X "set") (m2 : X.mg "set" = none) (ha : PE X a ta) (hb : PE X b tb) (na : starEach [a] X.env = (false, eval a X.env) :: starEach [] X.env) (nb : starEach [b] X.env = (false, eval b X.env) :: starEach [] X.env)
    {pins : List (Addr × Obj)} {s : Shared} {σ : L2.St} {H : Hp} {Q : VK} (I : Inv X pins σ H s) (h : tSetEq X.K ta tb σ H Q) {Q' : Value → Shared → Prop} (k : ∀ c s' H', Inv X pins σ H' s' → Q (.bl c) H' → Q' (.bool c) s') :
    wpAny (model X.prog X.w) X.A (eval (.Call (.Name "set" p1) [a] [] q1) X.env) (fun v s1 => wpAny (model X.prog X.w) X.A (eval (.Call (.Name "set" p2) [b] [] q2) X.env) (fun u s2 => wpAny (model X.prog X.w) X.A (compareOp .Eq v u) Q' X.xe s2) X.xe s1) X.xe s := by
  refine run_set hc g2 m2 ha na I h fun a1 s1 xs H1 I1 t1 few1 pin1 h1 => ?_
  obtain ⟨D, eD, RD⟩ := id t1
  refine run_set hc g2 m2 hb nb (pin1 D eD) h1 fun a2 s2 ys H2 I2 t2 few2 _ h2 => ?_
  have eD2 := (I2.pin _ (List.mem_append_right _ List.mem_cons_self)).1
  have t1' : TxAt X.prog X.w s2.heap a1 (ddS xs) := ⟨D, eD2, RD⟩
  have l2 := ddS_len ys
  have I3 : Inv X pins σ H2 s2 := I2.pins_of fun p hp => I2.pin p (List.mem_append_right _ (List.mem_cons_of_mem _ hp))
  exact eq_txt t1' t2 (by unfold scanBound; omega) (by omega) (k _ s2 H2 I3 h2)
theorem pe_setEq (hc : X.calm = true) (hu : X.A.units + 64 < cLine) (g2 : Gl X "set") (m2 : X.mg "set" = none) (ha : PE X a ta) (hb : PE X b tb) (na : starEach [a] X.env = (false, eval a X.env) :: starEach [] X.env) (nb : starEach [b] X.env = (false, eval b X.env) :: starEach [] X.env) :
    PE X (.Compare (.Call (.Name "set" p1) [a] [] q1) [.Eq] [.Call (.Name "set" p2) [b] [] q2] pos) (tSetEq X.K ta tb) :=
  ⟨fun pins s σ H Q I h => wpAny_Compare1 (run_setEq hc hu g2 m2 ha hb na nb I h fun c s' H' I' q => ⟨.bl c, H', I', rfl, q⟩) rfl⟩
theorem pt_setEq (hc : X.calm = true) (hu : X.A.units + 64 < cLine) (g2 : Gl X "set") (m2 : X.mg "set" = none) (ha : PE X a ta) (hb : PE X b tb) (na : starEach [a] X.env = (false, eval a X.env) :: starEach [] X.env) (nb : starEach [b] X.env = (false, eval b X.env) :: starEach [] X.env) :
    PT X (.Compare (.Call (.Name "set" p1) [a] [] q1) [.Eq] [.Call (.Name "set" p2) [b] [] q2] pos) (tTest (tSetEq X.K ta tb)) := by
  refine ⟨fun pins s σ H Q I h => wpAny_isTrue_Compare1 (run_setEq hc hu g2 m2 ha hb na nb I h fun c s' H' I' q => ?_) rfl⟩
  obtain ⟨k, e, q⟩ := q
  cases e
  exact wpAny_truthy_bool ⟨H', I', q⟩
end
/-- by value: the texts of a list, at once -/
def mtxs {α : Type} (f : M Op) (k : List Str → M α) : M α := mbind f fun o => mbind (mder o) fun d => match d with
  | .list ds => match strsOf ds with
    | some xs => if xs.length < 1000 then k xs else mno
    | none => mno
  | _ => mno
theorem tp_txs {α : Type} {f : M Op} {k : List Str → M α} (h : TP f) (hk : ∀ xs, TP (k xs)) : TP (mtxs f k) := h.bind fun o => (TP.der o).bind fun d => by
  cases d <;> first
    | exact .no
    | (dsimp only; split <;> first
        | exact .no
        | exact tp_ite (hk _) .no)
def msetEq (f g : M Op) : M D := mtxs f fun xs => mtxs g fun ys => mret (.bool (eqS (ddS xs) (ddS ys)))
theorem tp_setEq {f g : M Op} (hf : TP f) (hg : TP g) : TP (msetEq f g) := tp_txs hf fun _ => tp_txs hg fun _ => .ret _
section
variable {X : Cx} {W : WX} {k : Nat}
theorem txs_core {γ δ : Type} {R' : Rl δ γ} {B Z : Addr → Prop} {H : Hp} {σ : L2.St} {ρ : Rho} {f : M Op} {k : List Str → M γ} {Q : δ → Hp → Prop} {R : List Str → Hp → Prop} (tp : TP f) (G : Good X.K B Z H σ ρ) (p : Post X W R' B Z H σ ρ (mtxs f k ρ) Q)
    (c : ∀ xs H1 Z1 ρ1, Good X.K B Z1 H1 σ ρ1 → Post X W R' B Z1 H1 σ ρ1 (k xs ρ1) Q → R xs H1) : Lf X W (RO X) f σ H fun x H1 => ∃ l xs, x = .ref l ∧ SqL X.K H1 l (xs.map V.str) ∧ xs.length < 1000 ∧ R xs H1 := by
  refine Post.bind tp G p fun v H1 Z1 ρ1 o s1 G1 t1 r1 p1 => ?_
  obtain ⟨d, rb, p2⟩ := p1.der G1 r1
  cases d with
  | list ds =>
    dsimp only at p2
    cases ex : strsOf ds with
    | none => rw [ex] at p2; exact p2.elim
    | some xs =>
      rw [ex] at p2
      dsimp only at p2
      by_cases few : xs.length < 1000
      · rw [if_pos few] at p2
        obtain ⟨a, us, rfl, h1, r2⟩ := rb.lst
        have eu := strsOf_rep ex r2
        subst eu
        exact ⟨a, xs, rfl, .inl (.inl h1), few, c xs H1 Z1 ρ1 G1 p2⟩
      · rw [if_neg few] at p2; exact p2.elim
  | _ => exact p2.elim
variable {a b : Expr} {fa fb : M Op} {p1 p2 q1 q2 pos : Pos}
theorem setEq_imp {σ : L2.St} {H : Hp} {Q : VK} (ta : TP fa) (tb : TP fb) (h : Lf X W (RV X) (msetEq fa fb) σ H Q) : tSetEq X.K (Lf X W (RO X) fa) (Lf X W (RO X) fb) σ H Q := by
  obtain ⟨B, Z, ρ, G, p⟩ := h
  refine txs_core ta G p fun xs H1 Z1 ρ1 G1 p1 => ?_
  exact txs_core tb G1 p1 fun ys H2 Z2 ρ2 G2 p2 => p2.at G2 (.bl _)
theorem v_seteq (c : C1 X W k) (bi : Bi X.mg) (g2 : Gl X "set") (ha : BE X W a fa) (hb : BE X W b fb) (na : starEach [a] X.env = (false, eval a X.env) :: starEach [] X.env := by rfl) (nb : starEach [b] X.env = (false, eval b X.env) :: starEach [] X.env := by rfl) :
    VE X W (.Compare (.Call (.Name "set" p1) [a] [] q1) [.Eq] [.Call (.Name "set" p2) [b] [] q2] pos) (msetEq fa fb) :=
  ⟨PE.imp (pe_setEq c.calm (c.u 64) g2 bi.set ha.pe hb.pe na nb) fun σ H Q h => setEq_imp ha.tp hb.tp h, tp_setEq ha.tp hb.tp⟩
theorem t_seteq (c : C1 X W k) (bi : Bi X.mg) (g2 : Gl X "set") (ha : BE X W a fa) (hb : BE X W b fb) (na : starEach [a] X.env = (false, eval a X.env) :: starEach [] X.env := by rfl) (nb : starEach [b] X.env = (false, eval b X.env) :: starEach [] X.env := by rfl) :
    VT X W (.Compare (.Call (.Name "set" p1) [a] [] q1) [.Eq] [.Call (.Name "set" p2) [b] [] q2] pos) (mtest (msetEq fa fb)) :=
  ⟨PT.imp (pt_setEq c.calm (c.u 64) g2 bi.set ha.pe hb.pe na nb) fun σ H Q h => setEq_imp ha.tp hb.tp (test_imp (tp_setEq ha.tp hb.tp) h), tp_test (tp_setEq ha.tp hb.tp)⟩
end
end VS

set_option Elab.async false
set_option linter.all false
set_option maxRecDepth 100000
namespace VS
open PySem L2

/-! ### a law's own def: its contract at the address and the function data that the head knows -/
section
variable {P : Program} {w : World} {K : PySem.W.Frag} {mg : Str → Option Value} {base : Heap}
theorem fn_g {x qual : Str} {st : Stmt} {f : Addr} {fd : FuncData} {N ps : List Str} {k : Nat} {t : SM} (F : Fun K x qual st f fd) (S : FnScope N ps (defScope st)) (pn : List Nat) (sys : ∃ o, base.get? sysModules = some o)
    (hb : ∀ (cdv : Value) (A : Around) (out : List Env) (s : Shared) (H : Hp) (E : XK), C2 (cxOf (L2.CX P w) P w K mg base N qual (defScope st) f cdv A out s H E) (fun cls d _ H' => E cls d H') k →
      DSs (cxOf (L2.CX P w) P w K mg base N qual (defScope st) f cdv A out s H E) (fun cls d _ H' => E cls d H') pn (defBody st) t) :
    FnG P w K mg base (k + 1) f fd ps (spV K mg (mkF pn ps.length N.length t)) := by
  refine fn_ok F S pn ?_ fun cdv A outer s H E hg hr => hb _ _ _ _ _ _ ⟨⟨hr, hg, takes_of rfl rfl rfl rfl, rfl, sys, S.nd⟩, passes_of rfl⟩
  have := congrArg List.length S.pre
  rw [List.length_take] at this
  omega
end
end VS

set_option Elab.async false
set_option linter.all false
set_option maxRecDepth 100000
namespace VS
open PySem PySem.Spec PyProof.Rows L2

/-! ### enumerate(t), t a tuple -/
def ItEt (K : PySem.W.Frag) (t : Addr) : It :=
  ⟨fun i H => ∃ (ts : List V) (x : V), SqT K H t ts ∧ ts[i]? = some x, fun i H v H' => ∃ Tp x, v = .ref Tp ∧ H Tp = none ∧ H' = upd H Tp (.tup [.int (i : Nat), x]) ∧ ∀ ts, SqT K H t ts → ts[i]? = some x, fun i H => ∃ ts : List V, SqT K H t ts ∧ ts.length = i⟩
theorem drawT {X : Cx} (hc : X.calm = true) {pins : List (Addr × Obj)} {σ : L2.St} {H : Hp} {s : Shared} (I : Inv X pins σ H s) {it t : Addr} (n : t ≠ it) (its : Array Value) :
    Draws X.prog X.w X.A.in1 it [it, t] its.size (fun i v => its[i]? = some v) (fun i h => h.IsTupleIter it t i ∧ h.IsTuple t its) := .tuple (show X.A.in1.handled = none from I.ok.hd hc) it t n its
theorem turnEt {P : Program} {w : World} {K : PySem.W.Frag} {elts : List Expr} {kk : Nat} {tpos : Pos} (t e it : Addr) (d1 : e ≠ it) (d2 : e ≠ t) (d3 : t ≠ it) :
    Turn P w K (.Tuple elts kk tpos) (ItEt K t) [e, it] e (fun i h => (∃ old, IsEnum h e it ((i : Nat) : Int) old) ∧ h.IsTupleIter it t i) := by
  have two : ∀ {b}, b ∈ [e, it] → b = e ∨ b = it := fun hb => by simpa using hb
  have em : e ∈ [e, it] := by simp
  have im : it ∈ [e, it] := by simp
  refine ⟨em, fun i h ⟨⟨old, he⟩, ⟨o, ho, hc, hd⟩⟩ b hb => ?_, fun i h h' ⟨⟨old, he⟩, hi⟩ k => ⟨⟨old, k e em _ he⟩, hi.at fun o q => k it im o q⟩, ?_, ?_, fun A i s Q E ⟨⟨_, he⟩, _⟩ h => wpAny_pyIter_enum he h⟩
  · rcases two hb with rfl | rfl
    · exact ⟨_, he, fun v q => nomatch q⟩
    · exact ⟨o, ho, fun v q => by rw [hd] at q; cases q⟩
  · intro X hP hw hK hc i pins s σ H E I hf st hg; subst hP hw hK
    obtain ⟨⟨old, he⟩, hit⟩ := st; obtain ⟨ts, x, hq, hx⟩ := hg
    obtain ⟨its, rv, p, hz⟩ := I.tuple hq; obtain ⟨u, hu, ru⟩ := rv.get hx
    have li : i < its.toArray.size := by
      have := (List.getElem?_eq_some_iff.mp hu).1
      rw [List.size_toArray]; exact this
    have hel : e < s.heap.objs.size := Heap.lt_size he
    have hil : it < s.heap.objs.size := by obtain ⟨_, q, _⟩ := hit; exact Heap.lt_size q
    refine wpAny_pyNext_enum_itemD (drawT hc I d3 its.toArray) he ⟨hit, p⟩ li d1 (by simp [d1, d2]) fun y h' tk hy ho st' hT hsz hk => ?_
    have ey : y = u := by
      have q : its.toArray[i]? = some y := hy
      rw [List.getElem?_toArray, hu] at q; exact (Option.some.inj q).symm
    subst ey
    refine ⟨_, rfl, wpAny_letOwnedTupleGo_enum (s := { s with heap := h', toks := tk + 1 }) ho fun h2 he2 sb => ?_⟩
    have hT2 : h2.get? s.heap.objs.size = some { cls := .type "tuple", data := .seq #[.int i tk, y] } := (sb.2 _ (Nat.ne_of_gt hel)).trans hT
    have nw : ObjOk X.prog X.w (upd H s.heap.objs.size (.tup [.int (i : Nat), x])) h2 s.heap.objs.size (.tup [.int (i : Nat), x]) := ⟨by show 2 ≤ sizeLine; decide, [.int i tk, y], .cons ⟨_, rfl⟩ (.cons ru .nil), ⟨_, hT2, rfl, _, rfl⟩⟩
    have J : Inv X pins σ (upd H s.heap.objs.size (.tup [.int (i : Nat), x])) { s with heap := h2, toks := tk + 1 } := I.turnedNew (ch := [e, it]) (fun b ob hb q => (sb.2 b fun z => hb (z ▸ em)).trans (hk b ob (fun z => hb (z ▸ em)) (fun z => hb (z ▸ im)) q)) hf (Nat.le_refl _) nw
    refine ⟨.ref s.heap.objs.size, _, J, rfl, ⟨_, x, rfl, I.hok.fresh (Nat.le_refl _), rfl, fun ys hy => by rw [I.tuple_inj hy hq]; exact hx⟩, ⟨⟨y, ?_⟩, st'.1.at fun o q => (sb.2 it (Ne.symm d1)).trans q⟩, fun b hb => ?_⟩
    · rw [show ((i + 1 : Nat) : Int) = (i : Int) + 1 by omega]; exact he2
    · have lb : b < s.heap.objs.size := (two hb).elim (fun z => z ▸ hel) fun z => z ▸ hil
      rw [upd_ne (Nat.ne_of_lt lb)]; exact (hf b hb).1
  · intro X hP hw hK hc i pins s σ H E I hf st hg; subst hP hw hK
    obtain ⟨⟨old, he⟩, hit⟩ := st; obtain ⟨ts, hq, hx⟩ := hg
    obtain ⟨its, rv, p, hz⟩ := I.tuple hq; obtain ⟨f0, f1, f2, f3, f4, f5⟩ := hf it im
    have hl := rv.length
    have sz : its.toArray.size = i := by rw [List.size_toArray]; omega
    subst sz
    refine wpAny_pyNext_enum_endD (drawT hc I d3 its.toArray) he ⟨hit, p⟩ fun h' eb => ⟨rfl, I.turned (t' := s.toks) (fun b o hb q => eb b o hb q) f0 f1 f3 f4 f5⟩
set_option maxHeartbeats 1000000 in
theorem enumT_new (t : Addr) (its : Array Value) :
    Meets (Builtin.«enumerate.__new__» ⟨[.type "enumerate", .ref t], []⟩) (fun _ R s => s.heap.IsTuple t its ∧
      R (.ok (.ret (.ref (s.heap.push { cls := .type "tuple_iterator", data := .fields #[.ref t, .int 0 0] }).objs.size)))
        { s with heap := (s.heap.push { cls := .type "tuple_iterator", data := .fields #[.ref t, .int 0 0] }).push { cls := .type "enumerate", data := .fields #[.none, .bool false, .ref s.heap.objs.size, rawInt 0, .none, .none] } }) :=
  .of_wp fun prog w A R s h => by
    obtain ⟨hp, g, d, tk, os⟩ := s; obtain ⟨h1, h⟩ := h; have hsub := sub_enumerate
    have q1 : ∀ {A' : Around} {E : Value → Shared → Prop} {Q : Value → Shared → Prop}, Q (.ref hp.objs.size) ⟨hp.push { cls := .type "tuple_iterator", data := .fields #[.ref t, .int 0 0] }, g, d, tk, os⟩ → wpAny (model prog w) A' (pyIter (.ref t)) Q E ⟨hp, g, d, tk, os⟩ := fun q => wpAny_pyIter_tuple h1 q
    wp_walk using q1
    refine wpAny_stack_any fun st => wpAny_pure ?_
    split
    · rename_i c _ _ _ _ _
      cases (c == Value.type "enumerate") <;> (wp_walk using q1; exact ⟨_, rfl, h⟩)
    · wp_walk using q1; exact ⟨_, rfl, h⟩
section
variable {prog : Program} {w : World} {A : Around} {E : Value → Shared → Prop} {s : Shared}
theorem call_enumT {t : Addr} {its : Array Value} {Q : Value → Shared → Prop} (hT : s.heap.IsTuple t its)
    (h : ∀ h', IsEnum h' (s.heap.objs.size + 1) s.heap.objs.size 0 .none → h'.IsTupleIter s.heap.objs.size t 0 → (∀ b o, s.heap.get? b = some o → h'.get? b = some o) → Q (.ref (s.heap.objs.size + 1)) { s with heap := h' }) :
    wpAny (model prog w) A (call (.type "enumerate") [.ref t]) Q E s := by
  let o1 : Obj := { cls := .type "tuple_iterator", data := .fields #[.ref t, .int 0 0] }
  let o2 : Obj := { cls := .type "enumerate", data := .fields #[.none, .bool false, .ref s.heap.objs.size, rawInt 0, .none, .none] }
  refine callType_new F.called_enumerate (by decide) (F.typeCall_enumerate_1 _) (F.newCall_enumerate_1 _) (fun obj => F.args_object_init_2 obj _) F.entry_enumerate_new (enumT_new t its) ⟨hT, ?_⟩
  have hz : (s.heap.push o1).objs.size = s.heap.objs.size + 1 := Heap.size_push ..
  show _ ∧ _
  rw [hz]
  have he : IsEnum ((s.heap.push o1).push o2) (s.heap.objs.size + 1) s.heap.objs.size 0 .none := by
    have q := Heap.get?_push_size (s.heap.push o1) (o := o2) rfl
    rw [hz] at q; exact q
  exact ⟨⟨_, he, rfl⟩, h _ he ⟨_, Heap.get?_push_of_some _ (Heap.get?_push_size _ rfl), rfl, rfl⟩ fun b o x => Heap.get?_push_of_some _ (Heap.get?_push_of_some _ x)⟩
end
def iEnumT (K : PySem.W.Frag) (ta : TA) : TI := fun σ H R => ta σ H fun vs H1 => ∃ t ts, vs = [.ref t] ∧ SqT K H1 t ts ∧ R (ItEt K t) H1
theorem pi_enumT {X : Cx} {e : Expr} {ta : TA} {p pos tpos : Pos} {elts : List Expr} {kk : Nat} (hg : Gl X "enumerate") (hm : X.mg "enumerate" = none) (ha : PA X [e] ta) (hs : starEach [e] X.env = [(false, eval e X.env)] := by rfl) :
    PI X (.Tuple elts kk tpos) (.Call (.Name "enumerate" p) [e] [] pos) (iEnumT X.K ta) := by
  refine ⟨fun pins s σ H R I h => Call_ (ld_blt I hg hm boot_enumerate (PyProof.Rows.callWith_type1 (thn (ha.run pos pins s σ H _ I h) fun us s1 ⟨vs, H1, I1, r1, t, ts, ex, hq, q⟩ => ?_) hs rfl))⟩
  subst ex
  cases r1 with
  | cons r rr =>
    cases rr; cases r
    obtain ⟨its, rv, p', hz⟩ := I1.tuple hq
    have lt : t < s1.heap.objs.size := p'.lt
    refine call_enumT p' fun h' he hit hk => wpAny_pyIter_enum he ?_
    have I2 : Inv X pins σ H1 { s1 with heap := h' } := I1.kept (t' := s1.toks) hk
    refine ⟨s1.heap.objs.size + 1, [s1.heap.objs.size + 1, s1.heap.objs.size], _, _, H1, rfl, I2, turnEt t (s1.heap.objs.size + 1) s1.heap.objs.size (Nat.succ_ne_self _) (Nat.ne_of_gt (Nat.lt_succ_of_lt lt)) (Nat.ne_of_lt lt), ⟨⟨.none, he⟩, hit⟩, fun b hb => ?_, q⟩
    have hle : s1.heap.objs.size ≤ b := by
      have z : b = s1.heap.objs.size + 1 ∨ b = s1.heap.objs.size := by simpa using hb
      rcases z with rfl | rfl
      · exact Nat.le_add_right _ _
      · exact Nat.le_refl _
    exact I1.fpOk hle (I1.hok.fresh hle)
/-- by value -/
def mitEt (f : M (List Op)) : M (List D) := mbind f fun os => match os with
  | [.v (.tuple xs)] => mret (enumD 0 xs)
  | _ => mno
section
variable {X : Cx} {W : WX} {e : Expr} {elts : List Expr} {kk : Nat} {tpos p pos : Pos} {g : M (List Op)}
theorem ie_enumT (gl : Gl X "enumerate") (hm : X.mg "enumerate" = none) (ha : VA X W [e] g) (hs : starEach [e] X.env = [(false, eval e X.env)] := by rfl) : IE X W (.Tuple elts kk tpos) (.Call (.Name "enumerate" p) [e] [] pos) (mitEt g) := by
  refine ⟨PI.imp (pi_enumT gl hm ha.pa hs) fun σ H Q ⟨B, Z, ρ, G, q⟩ => ?_, ha.tp.bind fun os => by split <;> first | exact .ret _ | exact .no⟩
  refine Post.bind ha.tp G q fun vs H1 Z1 ρ1 os s1 G1 t1 r1 p1 => ?_
  split at p1
  · rename_i xs
    cases r1 with
    | cons h1 t =>
      cases t
      obtain ⟨a, us, rfl, h1, r⟩ := Rep.asT (show Rep X.K Z1 H1 _ (.tuple xs) from h1)
      have el : (enumD 0 xs).length = us.length := by rw [enumD_length, r.length]
      refine ⟨a, us, rfl, h1, p1.at G1 ⟨fun i Z' H' l hi => ⟨us, us[i]'(by omega), l.sqT h1, by simp⟩, fun i Z' H' x H2 l t hi y => ?_, fun Z' H' l => ⟨us, l.sqT h1, el.symm⟩⟩⟩
      obtain ⟨T, y1, rfl, hT, rfl, e2⟩ := y
      obtain ⟨d, e3, r2⟩ := r.get' (e2 us (l.sqT h1))
      obtain ⟨Z2, x2, t2, r3⟩ := pair_new (K := X.K) hT t (.int (i : Nat)) (r2.later l)
      exact ⟨.tuple [.int (i : Nat), d], Z2, by rw [enumD_get, e3, Nat.zero_add]; rfl, x2, t2, r3⟩
  · exact p1.elim
end
end VS

set_option Elab.async false
set_option linter.all false
set_option maxRecDepth 100000
namespace VS
open PySem PySem.Spec PyProof.Rows L2

/-! ### x == [], x == (), with anything in x -/
def rEqNil (K : PySem.W.Frag) : R2 := fun x y H Q => ∃ a b xs, x = .ref a ∧ y = .ref b ∧ ((SqL K H a xs ∧ SqL K H b []) ∨ (SqT K H a xs ∧ SqT K H b [])) ∧ Q (.bl xs.isEmpty) H
def rNeNil (K : PySem.W.Frag) : R2 := fun x y H Q => ∃ a b xs, x = .ref a ∧ y = .ref b ∧ ((SqL K H a xs ∧ SqL K H b []) ∨ (SqT K H a xs ∧ SqT K H b [])) ∧ Q (.bl (!xs.isEmpty)) H
theorem vals_nil {its : List Value} (r : Vals [] its) : its = [] := by cases r; rfl
theorem vals_empty {xs : List V} {its : List Value} (r : Vals xs its) : xs.isEmpty = its.isEmpty := by cases r <;> rfl
section
variable {X : Cx}
theorem op_eqNil (hu : X.A.units + 64 < cLine) : OpR X (compareOp .Eq) (rEqNil X.K) := by
  intro pins s σ H x y v u Q I rx ry h
  obtain ⟨a, b, xs, rfl, rfl, hh, q⟩ := h
  cases rx; cases ry
  have hu' : X.A.units < cLine := by omega
  rcases hh with ⟨h1, h2⟩ | ⟨h1, h2⟩
  · obtain ⟨its, r, p, _⟩ := I.list h1
    obtain ⟨its2, r2, p2, _⟩ := I.list h2
    cases vals_nil r2
    rw [vals_empty r] at q
    cases its with
    | nil => exact SeqAt.RcAt.lists (e := fun _ => true) p.isList p2.isList rfl hu' (fun j j1 _ => absurd j1 (Nat.not_lt_zero _)) X.prog X.w X.xe _ ⟨.bl _, H, I, rfl, q⟩
    | cons z zs => exact SeqAt.RcAt.lists_lengths p.isList p2.isList (by simp) hu' X.prog X.w X.xe _ ⟨.bl _, H, I, rfl, q⟩
  · obtain ⟨its, r, p, _⟩ := I.tuple h1
    obtain ⟨its2, r2, p2, _⟩ := I.tuple h2
    cases vals_nil r2
    rw [vals_empty r] at q
    have c := SeqAt.RcAt.tuples (A := X.A) (e := fun _ => true) p p2 hu' (fun j _ j2 => absurd j2 (Nat.not_lt_zero _)) X.prog X.w X.xe
    refine c _ ⟨.bl _, H, I, rfl, ?_⟩
    cases its with
    | nil => exact q
    | cons z zs => simpa using q
theorem op_neNil (hu : X.A.units + 64 < cLine) : OpR X (compareOp .NotEq) (rNeNil X.K) := by
  intro pins s σ H x y v u Q I rx ry h
  obtain ⟨a, b, xs, rfl, rfl, hh, q⟩ := h
  cases rx; cases ry
  have hu' : X.A.units < cLine := by omega
  rcases hh with ⟨h1, h2⟩ | ⟨h1, h2⟩
  · obtain ⟨its, r, p, _⟩ := I.list h1
    obtain ⟨its2, r2, p2, _⟩ := I.list h2
    cases vals_nil r2
    rw [vals_empty r] at q
    cases its with
    | nil => exact SeqAt.RcNeAt.lists (e := fun _ => true) p.isList p2.isList rfl hu' (fun j j1 _ => absurd j1 (Nat.not_lt_zero _)) X.prog X.w X.xe _ ⟨.bl _, H, I, rfl, q⟩
    | cons z zs => exact SeqAt.RcNeAt.lists_lengths p.isList p2.isList (by simp) hu' X.prog X.w X.xe _ ⟨.bl _, H, I, rfl, q⟩
  · obtain ⟨its, r, p, _⟩ := I.tuple h1
    obtain ⟨its2, r2, p2, _⟩ := I.tuple h2
    cases vals_nil r2
    rw [vals_empty r] at q
    have c := SeqAt.RcNeAt.tuples (A := X.A) (e := fun _ => true) p p2 hu' (fun j _ j2 => absurd j2 (Nat.not_lt_zero _)) X.prog X.w X.xe
    refine c _ ⟨.bl _, H, I, rfl, ?_⟩
    cases its with
    | nil => exact q
    | cons z zs => simpa using q
end
def dEqNil : D → D → Option D
  | .list xs, .list [] => some (.bool xs.isEmpty)
  | .tuple xs, .tuple [] => some (.bool xs.isEmpty)
  | _, _ => none
def dNeNil : D → D → Option D
  | .list xs, .list [] => some (.bool (!xs.isEmpty))
  | .tuple xs, .tuple [] => some (.bool (!xs.isEmpty))
  | _, _ => none
theorem repL_empty {K : PySem.W.Frag} {Z : Addr → Prop} {H : Hp} {vs : List V} {ds : List D} (r : RepL K Z H vs ds) : vs.isEmpty = ds.isEmpty := by cases r <;> rfl
theorem repL_nil {K : PySem.W.Frag} {Z : Addr → Prop} {H : Hp} {vs : List V} (r : RepL K Z H vs []) : vs = [] := by cases r; rfl
section
variable {K : PySem.W.Frag}
theorem opd_eqNil : OpD K (rEqNil K) dEqNil := by
  intro Z H x y a b d Q ra rb t e k
  unfold dEqNil at e
  split at e
  · cases e
    obtain ⟨p, vs, rfl, h1, r1⟩ := ra.lst
    obtain ⟨q, us, rfl, h2, r2⟩ := rb.lst
    cases repL_nil r2
    refine ⟨p, q, vs, rfl, rfl, .inl ⟨.inl (.inl h1), .inl (.inl h2)⟩, ?_⟩
    rw [repL_empty r1]; exact k _ H Z .refl t (.bl _)
  · cases e
    obtain ⟨p, vs, rfl, h1, r1⟩ := ra.tup
    obtain ⟨q, us, rfl, h2, r2⟩ := rb.tup
    cases repL_nil r2
    refine ⟨p, q, vs, rfl, rfl, .inr ⟨h1, h2⟩, ?_⟩
    rw [repL_empty r1]; exact k _ H Z .refl t (.bl _)
  · cases e
theorem opd_neNil : OpD K (rNeNil K) dNeNil := by
  intro Z H x y a b d Q ra rb t e k
  unfold dNeNil at e
  split at e
  · cases e
    obtain ⟨p, vs, rfl, h1, r1⟩ := ra.lst
    obtain ⟨q, us, rfl, h2, r2⟩ := rb.lst
    cases repL_nil r2
    refine ⟨p, q, vs, rfl, rfl, .inl ⟨.inl (.inl h1), .inl (.inl h2)⟩, ?_⟩
    rw [repL_empty r1]; exact k _ H Z .refl t (.bl _)
  · cases e
    obtain ⟨p, vs, rfl, h1, r1⟩ := ra.tup
    obtain ⟨q, us, rfl, h2, r2⟩ := rb.tup
    cases repL_nil r2
    refine ⟨p, q, vs, rfl, rfl, .inr ⟨h1, h2⟩, ?_⟩
    rw [repL_empty r1]; exact k _ H Z .refl t (.bl _)
  · cases e
end
section
variable {X : Cx} {W : WX} {k : Nat} {a b : Expr} {fa fb : M Op} {pos : Pos}
theorem v_eqN (c : C1 X W k) (ha : BE X W a fa) (hb : BE X W b fb) (hm : behindInMarks .Eq b = false := by rfl) : VE X W (.Compare a [.Eq] [b] pos) (mbin dEqNil fa fb) := ve_cmp (op_eqNil (c.u 64)) opd_eqNil ha hb hm
theorem v_neN (c : C1 X W k) (ha : BE X W a fa) (hb : BE X W b fb) (hm : behindInMarks .NotEq b = false := by rfl) : VE X W (.Compare a [.NotEq] [b] pos) (mbin dNeNil fa fb) := ve_cmp (op_neNil (c.u 64)) opd_neNil ha hb hm
theorem t_eqN (c : C1 X W k) (ha : BE X W a fa) (hb : BE X W b fb) (hm : behindInMarks .Eq b = false := by rfl) : VT X W (.Compare a [.Eq] [b] pos) (mtest (mbin dEqNil fa fb)) := vt_cmp (op_eqNil (c.u 64)) opd_eqNil ha hb hm
theorem t_neN (c : C1 X W k) (ha : BE X W a fa) (hb : BE X W b fb) (hm : behindInMarks .NotEq b = false := by rfl) : VT X W (.Compare a [.NotEq] [b] pos) (mtest (mbin dNeNil fa fb)) := vt_cmp (op_neNil (c.u 64)) opd_neNil ha hb hm
/-! ### a + b, lists: a list of its own -/
theorem fe_cat (ha : BE X W a fa) (hb : BE X W b fb) : FE X W (.BinOp a .Add b pos) (mbin gCat fa fb) := by
  refine ⟨PE.imp (pe_op op_cat ha.pe hb.pe) fun σ H Q h => ?_, tp_bin ha.tp hb.tp⟩
  refine bin_core ha.tp hb.tp h fun B Z H ρ x y d e G r1 r2 p => ?_
  obtain ⟨z, e1, p⟩ := p.opt
  unfold gCat at e1
  split at e1
  · split at e1
    · rename_i s u h
      cases e1
      obtain ⟨l, vs, rfl, h1, w1⟩ := r1.lst
      obtain ⟨m, us, rfl, h2, w2⟩ := r2.lst
      refine ⟨_, _, _, _, rfl, rfl, h1, h2, by rw [← lineN_eq, w1.length, w2.length]; exact h, fun q hq => ?_⟩
      have fr := G.free hq
      exact p.lay G (ext_out hq) (Trk.ext G.zt (ext_out hq)) ⟨q, rfl, fr.1, ⟨_, upd_same, (w1.append w2).ext (ext_out hq)⟩, fr.2, hq⟩
    · cases e1
  · cases e1
end
/-! ### a def that calls itself: its ground -/
def noF : Fn := fun _ => .no
section
variable {P : Program} {w : World} {K : PySem.W.Frag} {mg : Str → Option Value} {base : Heap}
theorem fnd_no {x : Str} {f : Addr} {fd : FuncData} {ps : List Str} {k : Nat} (hm : mg x = some (.ref f)) (hk : PySem.W.keepIn K (.ref f) = true) (hb : Binds K fd ps []) : FnD P w K mg base k x ps noF :=
  ⟨f, fd, ⟨fun vs H Q E ⟨_, _, _, _, _, h⟩ => h.elim, fun A out s H args us vs Q E _ _ _ _ _ ⟨_, _, _, _, _, h⟩ => h.elim⟩, hm, hk, hb⟩
end
end VS

set_option Elab.async false
set_option linter.all false
set_option maxRecDepth 100000
namespace VS
open PySem PySem.Spec PyProof.Rows L2
/-! ### len(set(t)), t a tuple of texts -/
section
variable {P : Program} {w : World} {A : Around} {E : Value → Shared → Prop} {s : Shared}
set_option maxHeartbeats 3200000 in
/-- set(xs), a tuple of texts -/
theorem call_set_ttx {l : Addr} {items : Array Value} (xs : List Str) {Q : Value → Shared → Prop} (noh : A.handled = none) (isl : s.heap.IsTuple l items) (len : items.size = xs.length) (at_ : ∀ (i : Nat) (v : Value), items[i]? = some v → ∃ x t, xs[i]? = some x ∧ v = .str x t) (few : items.size + 1 < scanBound)
    (h : ∀ (g : Heap) (tk : Nat), TxAt P w g s.heap.objs.size (ddS xs) → (∀ b o, s.heap.get? b = some o → g.get? b = some o) → Q (.ref s.heap.objs.size) { s with heap := g, toks := tk }) : wpAny (model P w) A (call (.type "set") [.ref l]) Q E s := by
  obtain ⟨cc, tl, mro⟩ := F.called_set.mro
  have made := F.called_set.made
  have subs := F.called_set.sub
  refine wpAny_call (codeAny_of_tree ?_)
  show wpAny _ _ (callAny (.type "set") _) _ _ _
  refine wpAny_pure ⟨Code.quiet_builtin _ (by decide +kernel), codeAny_builtin F.entry_type_call ?_⟩
  rw [Around.under_plain (weight_type_call_type "set" [.ref l] []) rfl]
  have k1 := F.called_set.notType
  have k2 := F.called_set.canCreate
  have k3 := F.typeCall_set_1 (.ref l)
  repeat (any_goals (first | assumption | wp_step))
  refine codeAny_mono (code_set_led1 (.ref l) (E := E) (Q₁ := fun ob s1 => ob = .ref s.heap.objs.size ∧ s1 = { s with heap := s.heap.push (newS w) }) ⟨rfl, rfl⟩) fun res s1 hres => ?_
  cases res with
  | error e => exact hres
  | ok fl =>
    cases fl with
    | ret ob =>
      obtain ⟨rfl, rfl⟩ := hres
      have get0 : (s.heap.push (newS w)).get? s.heap.objs.size = some (newS w) := Heap.get?_push_size _ rfl
      have ty0 : Shared.TypeIs { s with heap := s.heap.push (newS w) } (.ref s.heap.objs.size) "set" := ⟨_, get0, rfl⟩
      have i1 := F.called_set.init.lookup
      have i2 := F.called_set.init.bind (.ref s.heap.objs.size)
      repeat (any_goals (first | assumption | wp_step))
      refine codeAny_mono (codeAny_call_builtin (R := wants (fun r s2 => r = .none ∧ ∃ g tk, s2 = { s with heap := g, toks := tk } ∧ TxAt P w g s.heap.objs.size (ddS xs) ∧ (∀ b o, s.heap.get? b = some o → g.get? b = some o)) E)
        F.called_set.init.plain F.entry_set_init (check_set_init_1 ty0 ?_)) fun res2 s2 hres2 => ?_
      · obtain ⟨⟨oc, od, odt, osl⟩, ol, oe, nn, oe2⟩ := id isl
        simp only at oe oe2
        subst oe oe2
        have ol1 : (s.heap.push (newS w)).get? l = some { cls := .type "tuple", dict := od, data := .seq items nn, slots := osl } := Heap.get?_push_of_some _ ol
        have n1 := F.sub_tuple_set
        have n2 := F.sub_tuple_frozenset
        have n3 : (Value.type "tuple" == Value.type "dict") = false := by decide
        have isl1 : (s.heap.push (newS w)).IsTuple l items := ⟨_, ol1, rfl, nn, rfl⟩
        unfold Builtin.«set.__init__» noKeywords Builtin.Frozenset.updateFrom
        generalize gen : pyIter = PI
        wp_walk
        subst gen
        refine wpAny_pyIter_tuple isl1 (wpAny_bind (wpAny_runValue ?_))
        have below : l < s.heap.objs.size := Heap.lt_size ol
        have noh3 : A.in1.in1.in1.handled = none := by simp [noh]
        have apart : l ≠ (s.heap.push (newS w)).objs.size := by
          rw [Heap.size_push]; exact Nat.ne_of_lt (Nat.lt_succ_of_lt below)
        have free : s.heap.objs.size ∉ [(s.heap.push (newS w)).objs.size, l] := by
          rw [Heap.size_push]
          simp only [List.mem_cons, List.not_mem_nil, or_false, not_or]
          exact ⟨Nat.ne_of_lt (Nat.lt_succ_self _), Nat.ne_of_gt below⟩
        refine loop_txt ((Walks.tuple noh3 _ l apart items).toS) s.heap.objs.size free xs len.symm at_ few items.size 0 _ (Nat.zero_add _) ⟨⟨_, Heap.get?_push_size _ rfl, rfl, rfl⟩, (isl1.push _)⟩ ?start ?fin
        case start => exact new_txt (Heap.get?_push_of_some _ get0)
        case fin =>
          intro s' mv ht
          obtain ⟨g, gs, dr, tk, os⟩ := s'
          have e1 : gs = s.gens := mv.gens
          have e2 : dr = s.drawn := mv.drawn
          have e3 : os = s.os := mv.os
          subst e1 e2 e3
          show wpAny _ _ _ _ _ _
          refine wpAny_pure ?_
          show wpAny _ _ (ret Value.none) _ _ _
          refine wpAny_pure ⟨rfl, g, tk, rfl, ht, fun b o e => ?_⟩
          have bl : b < s.heap.objs.size := Heap.lt_size e
          refine mv.heap b o ?_ (Heap.get?_push_of_some _ (Heap.get?_push_of_some _ e))
          rw [Heap.size_push]
          simp only [List.mem_cons, List.not_mem_nil, or_false, not_or]
          exact ⟨Nat.ne_of_lt bl, Nat.ne_of_lt (Nat.lt_succ_of_lt bl)⟩
      · cases res2 with
        | error e => exact hres2
        | ok fl2 =>
          cases fl2 with
          | ret r =>
            obtain ⟨rfl, g, tk, rfl, ht, kp⟩ := hres2
            repeat (any_goals (first | assumption | wp_step))
            exact h _ _ ht kp
          | _ => exact hres2.elim
    | _ => exact hres.elim
end
def tLenTx (K : PySem.W.Frag) (ta : TE) : TE := fun σ H Q => ta σ H fun x H1 => ∃ l, ∃ xs : List Str, x = .ref l ∧ SqT K H1 l (xs.map V.str) ∧ xs.length < 1000 ∧ Q (.int (ddS xs).length) H1
theorem pe_lenTx {X : Cx} {a : Expr} {ta : TE} {p p2 q pos : Pos} (hc : X.calm = true) (g1 : Gl X "len") (m1 : X.mg "len" = none) (g2 : Gl X "set") (m2 : X.mg "set" = none) (ha : PE X a ta) (na : starEach [a] X.env = (false, eval a X.env) :: starEach [] X.env) :
    PE X (.Call (.Name "len" p) [.Call (.Name "set" p2) [a] [] q] [] pos) (tLenTx X.K ta) := by
  refine ⟨fun pins s σ H Q I h => Call_ (ld_blt I g1 m1 boot_len (callWith_builtin1 (args_cons ?_ rfl) rfl rfl))⟩
  refine Call_ (ld_blt I g2 m2 boot_set (callWith_type1 (args_cons (thn (ha.run pins s σ H _ I h) fun v s1 ⟨x, H1, I1, r1, l, xs, ex, sq, few, q1⟩ => args_nil ?_) na) na rfl))
  subst ex; cases r1
  obtain ⟨its, r, pl, _⟩ := I1.tuple sq
  have len := r.length
  rw [List.length_map] at len
  refine call_set_ttx xs (I1.ok.hd hc) pl (by rw [List.size_toArray, len]) (fun i v ev => strs_get r i v (by simpa using ev)) (by rw [List.size_toArray, ← len]; unfold scanBound; omega) fun g tk ht kp => args_nil ?_
  obtain ⟨⟨es, ep, t⟩, eD, R⟩ := ht
  have I2 : Inv X pins σ H1 { s1 with heap := g, toks := tk } := I1.kept kp
  have sz : es.size = (ddS xs).length := R.ok.sz
  have l1 := ddS_len xs
  refine call_len_set (s := { s1 with heap := g, toks := tk }) eD ⟨rfl, rfl, rfl⟩ rfl R.ok.fit (show ((es.size : Nat) : Int) < 2 ^ 63 by omega) ?_
  exact ⟨.int (ddS xs).length, H1, I2.tok _, ⟨_, by rw [sz]⟩, q1⟩
/-- by value -/
def mlenset (f : M Op) : M D := mbind f fun o => mbind (mder o) fun d => match d with
  | .tuple ds => match strsOf ds with
    | some xs => if xs.length < 1000 then mret (.int (ddS xs).length) else mno
    | none => mno
  | _ => mno
theorem tp_lenset {f : M Op} (h : TP f) : TP (mlenset f) := h.bind fun o => (TP.der o).bind fun d => by
  cases d <;> first
    | exact .no
    | (dsimp only; split <;> first
        | exact .no
        | exact tp_ite (.ret _) .no)
theorem v_lenset {X : Cx} {W : WX} {k : Nat} {a : Expr} {f : M Op} {p p2 q pos : Pos} (c : C1 X W k) (b : Bi X.mg) (g1 : Gl X "len") (g2 : Gl X "set") (ha : BE X W a f) (na : starEach [a] X.env = (false, eval a X.env) :: starEach [] X.env := by rfl) :
    VE X W (.Call (.Name "len" p) [.Call (.Name "set" p2) [a] [] q] [] pos) (mlenset f) := by
  refine ⟨PE.imp (pe_lenTx c.calm g1 b.len g2 b.set ha.pe na) fun σ H Q ⟨B, Z, ρ, G, p⟩ => ?_, tp_lenset ha.tp⟩
  refine Post.bind ha.tp G p fun v H1 Z1 ρ1 o s1 G1 t1 r1 p1 => ?_
  obtain ⟨d, rb, p2⟩ := p1.der G1 r1
  cases d with
  | tuple ds =>
    dsimp only at p2
    cases ex : strsOf ds with
    | none => rw [ex] at p2; exact p2.elim
    | some xs =>
      rw [ex] at p2
      dsimp only at p2
      by_cases few : xs.length < 1000
      · rw [if_pos few] at p2
        obtain ⟨a, us, rfl, h1, r2⟩ := rb.tup
        cases strsOf_rep ex r2
        exact ⟨a, xs, rfl, h1, few, p2.at G1 (.int _)⟩
      · rw [if_neg few] at p2; exact p2.elim
  | _ => exact p2.elim
end VS

set_option Elab.async false
set_option linter.all false
set_option maxRecDepth 100000
namespace VS
open PySem PySem.Spec PyProof.Rows L2
/-! ### -1, written -/
section
variable {X : Cx} {W : WX} {n : Int} {k : Nat} {p1 p2 : Pos}
theorem ve_negc : VE X W (.UnaryOp .USub (.Constant (.int n) k p1) p2) (mret (.int (-n))) := ve_c (v := .int (-n)) (PE.imp (pe_un un_neg pe_int) fun σ H Q h => ⟨n, rfl, h⟩) fun _ _ => .int _
end
end VS

set_option Elab.async false
set_option linter.all false
set_option maxRecDepth 100000
namespace VS
open PySem PySem.Spec PyProof.Rows

/-! ### an own exception's __init__: super().__init__('..'), self.f = p -/
section
variable {prog : Program} {w : World} {A : Around} {E : Value → Shared → Prop} {h : Heap} {g : Array GenState} {d : Drawn} {t : Nat} {os : OsState}
variable {nm q : Str} {C N : Addr} {bs bm : List Value} {hdct : Bool} {sn : List Str} {sub : List Value} {ab : Bool} {col : Option Bool} {dd : Option Addr} {k0 k1 k2 k3 k5 : Option Value}
theorem call_mw {u e t0 : Addr} {rest : List Value} {Q : Value → Shared → Prop}
    (hC : h.get? C = some (excClassObj nm q C N bs bm hdct sn sub ab col dd k0 k1 k2 k3 k5 "ValueError.__new__")) (he : h.get? e = some (HandSPX.excO C t0)) (hu : h.get? u = some (PySem.W.kxs_mw "ValueError.__init__" e)) (hrest : rest.length ≤ sizeLine)
    (hq : ∀ h' t1, (∀ b o, b ≠ e → h.get? b = some o → h'.get? b = some o) → h'.get? e = some (HandSPX.excO C t1) → Q .none ⟨h', g, d, t, os⟩) :
    wpAny (model prog w) A (call (.ref u) rest) Q E ⟨h, g, d, t, os⟩ := by
  refine wpAny_call (codeAny_of_tree ?_)
  show wpAny _ A.in1 (callAny (.ref u) ⟨rest, []⟩) _ _ _
  simp only [callAny]
  refine wpAny_bind (wpAny_load hu ?_)
  simp only [PySem.W.kxs_mw, show (Value.type "method-wrapper" == Value.type "method" || Value.type "method-wrapper" == Value.type "builtin_function_or_method" || Value.type "method-wrapper" == Value.type "method-wrapper") = true by decide, if_true]
  refine PySem.W.KFB.if_so (by decide) ?_
  refine wpAny_bind (ESX.check_bound F.excBase_ValueError hC he rfl ?_)
  refine wpAny_bind (wpAny_pure (wpAny_pure ?_))
  refine ⟨Code.quiet_builtin _ (by decide +kernel), codeAny_builtin F.excBase_ValueError.initEntry ?_⟩
  rw [Around.under_plainId F.excBase_ValueError.init.plain _]
  wp_walk
  refine hq _ h.objs.size (fun b o hb ho => ?_) ?_
  · rw [Heap.get?_update_other _ _ (Ne.symm hb)]
    exact Heap.get?_push_of_some _ ho
  · rw [Heap.get?_update_self _ (Heap.get?_push_of_some _ he) rfl]
    rfl
end

/-- the two statements -/
def xBody (msg fld par : Str) (j : Nat) (p0 p1 p2 p3 p4 p5 q1 q2 q3 q4 : Pos) : List Stmt :=
  [.Expr (.Call (.Attribute (.Call (.Name "super" p0) [] [] p1) "__init__" p2) [.Constant (.str msg) j p3] [] p4) p5, .Assign [.Attribute (.Name "self" q1) fld q2] (.Name par q3) q4]
/-- what the written part says of the class and its __init__ -/
structure XIni (P : Program) (K : PySem.W.Frag) (C : Addr) (msg fld par : Str) : Prop where
  oc : L2.OexC K C
  sup : PySem.W.nsIn K mainGlobals "super" = some none
  opq : PySem.W.nsIn K cStatics "thirdparty.any" = some none
  ve : PySem.W.subIn K (.ref C) (.type "ValueError") = some true
  self : PySem.W.mroIn K C (.ref C) = some true
  al : PySem.W.ks_superIn K C C "__init__" = some (some (.builtin "ValueError.__init__"))
  nof : PySem.W.findIn K (.ref C) fld = some none
  top : (P.main.scope.names.lookup ("super" : Str)).isSome = false
  ini : ∃ (fI : Addr) (oc : Value) (od : Option Addr) (osl : Array (Option Value)) (qual : Str) (params : Arguments) (scope : Scope) (dV kV doc pm ct : Value) (an : Option Addr) (cda cc : Addr) (ar : Arg)
    (ccl : Value) (cdd : Option Addr) (vs : Array Value) (ccs : Array (Option Value)) (file : Str) (tf : Tok) (cl : Value) (cld : Option Addr) (csl : Array (Option Value)) (j : Nat) (p0 p1 p2 p3 p4 p5 q1 q2 q3 q4 : Pos),
    PySem.W.findIn K (.ref C) "__init__" = some (some (.ref fI)) ∧ PySem.W.typeIn K (.ref fI) = some (.type "function") ∧
    K.lookup fI = some ⟨oc, od, .func (PySem.W.ksFn "__init__" qual params (xBody msg fld par j p0 p1 p2 p3 p4 p5 q1 q2 q3 q4) scope dV kV doc pm an (.ref cda) ct cc), osl⟩ ∧ PySem.W.codeIn K (.ref cda) qual = true ∧
    K.lookup cda = some ⟨ccl, cdd, .fields vs, ccs⟩ ∧ vs[2]? = some (.str file tf) ∧ ((P.main.file : Str) == file) = true ∧ K.lookup cc = some ⟨cl, cld, .cell (some (.ref C)), csl⟩ ∧
    (params.posonlyargs ++ params.args).head? = some ar ∧ ar.arg = "self" ∧
    (∀ (a b : Value), bindArgs (PySem.W.ksFn "__init__" qual params (xBody msg fld par j p0 p1 p2 p3 p4 p5 q1 q2 q3 q4) scope dV kV doc pm an (.ref cda) ct cc) ⟨[a, b], []⟩ = pure [(("self" : Str), a), (par, b)]) ∧
    scope.kind = .function ∧ scope.isGenerator = false ∧ scope.isCoroutine = false ∧ (∀ x ∈ scope.names, x.2 ≠ .cell) ∧ scope.names.lookup ("self" : Str) = some .local ∧ scope.names.lookup par = some .local ∧
    scope.names.lookup ("super" : Str) = some .globalImplicit ∧ scope.names.lookup ("__class__" : Str) = some .free ∧ par ≠ ("self" : Str) ∧ (par == ("__debug__" : Str)) = false ∧ (p2.endLine == p4.line) = true

/-- o.n('..') on one row -/
theorem eval_meth1 {o : Expr} {name msg : Str} {j : Nat} {apos p3 pos : Pos} {env : Env} (hp : (apos.endLine == pos.line) = true) :
    eval (.Call (.Attribute o name apos) [.Constant (.str msg) j p3] [] pos) env = (do
      let ov ← attributeBase o name env (eval o env)
      standAt apos.atName
      let (f, first) ← holding [ov] (getMethod ov name (do return (← importBound o env).getD true))
      callWith pos f first (backTo pos (starEach [.Constant (.str msg) j p3] env)) []) := by
  have e : methodCallPos true o env apos pos = pure pos := by
    unfold methodCallPos
    rw [hp]
    rfl
  show (attributeBase o name env (eval o env) >>= fun ov => standAt apos.atName >>= fun _ => methodCall o name apos pos env ov 1 (backTo pos (starEach [.Constant (.str msg) j p3] env)) []) = _
  unfold methodCall
  have e2 : methodCallForm 1 (backTo pos (starEach [.Constant (.str msg) j p3] env)) [] = true := rfl
  rw [e2, e]
  rfl

section
variable {prog : Program} {w : World} {A : Around} {R : Result → Shared → Prop} {h : Heap} {g : Array GenState} {d : Drawn} {t : Nat} {os : OsState} {K : PySem.W.Frag} {C fI e t0 : Addr} {msg fld par : Str} {u : Value} {mg mb : Str → Option Value}
theorem init_walk (T : XIni prog K C msg fld par) (X : K.In h) (hi : PySem.W.findIn K (.ref C) "__init__" = some (some (.ref fI))) (hd : A.depth < recursionLimit) (lim : h.NoLimit) (G : h.Ns mainGlobals mg) (gs : mg "super" = none) (B : h.Ns builtinsNs mb) (bs : mb "super" = some (.type "super"))
    (he : h.get? e = some (HandSPX.excO C t0)) (eK : K.lookup e = none)
    (hq : ∀ h' t' t1 dx, (∀ b o, b ≠ e → h.get? b = some o → h'.get? b = some o) → h.objs.size ≤ dx → dx ≠ e → h'.get? e = some ({ cls := .ref C, dict := some dx, data := .fields #[.ref t1, .none, .none, .none, .bool false, .none] } : Obj) →
      h'.Ns1 dx (fun y => if y = fld then some u else none) → R (.ok (.ret .none)) ⟨h', g, d, t', os⟩) :
    codeAny (model prog w) A (.call (.ref fI) ⟨[.ref e, u], []⟩) R ⟨h, g, d, t, os⟩ := by
  obtain ⟨f2, oc, od, osl, qual, params, scope, dV, kV, doc, pm, ct, an, cda, cc, ar, ccl, cdd, vs, ccs, file, tf, cl, cld, csl, j, p0, p1, p2, p3, p4, p5, q1, q2, q3, q4, i1, i2, i3, i4, i5, i6, i7, i8, i9, i10, i11, i12, i13, i14, i15, i16, i17, i18, i19, i20, i21, i22⟩ := T.ini
  rw [hi] at i1
  cases i1
  obtain ⟨nm, q, N, bs2, bm, sn, sub, ab, col, dd, k0, k1, k2, k3, k5, hC, hbm⟩ := T.oc.cls
  refine ks_codeAny_call_defAt (fd := PySem.W.ksFn "__init__" qual params (xBody msg fld par j p0 p1 p2 p3 p4 p5 q1 q2 q3 q4) scope dV kV doc pm an (.ref cda) ct cc) (binds := [(("self" : Str), .ref e), (par, u)]) hd (X _ _ i3) rfl lim (PySem.W.codeRec_of X i4) rfl (BindsTo.of_eq (i11 _ _)) i15 ?_ ?_ i14 i13 i12
  · intro x hx
    rcases List.mem_cons.mp hx with rfl | hx
    · exact i16
    · rcases List.mem_cons.mp hx with rfl | hx
      · exact i17
      · cases hx
  · intro h1 hns hk
    have X1 : K.In h1 := X.keeps hk
    have he1 := hk _ _ he
    have I1 : PySem.W.InstAt h1 e (HandSPX.excO C t0) C none := ⟨he1, rfl, rfl, trivial⟩
    have hcl : PySem.W.clsIn K C = some { name := nm, bases := bs2, mro := .ref C :: bm, ns := N, qualname := q, hasDict := true, slotNames := sn, subclasses := sub, abstract := ab, collection := col, hasDel := false } := by unfold PySem.W.clsIn; rw [hC] <;> rfl
    have ni : interactive (callEnv (PySem.W.ksFn "__init__" qual params (xBody msg fld par j p0 p1 p2 p3 p4 p5 q1 q2 q3 q4) scope dV kV doc pm an (.ref cda) ct cc) h.objs.size fI) = false := by
      show (scope.kind == .module && _) = false
      rw [i12]
      rfl
    refine ks_wpAt_execs_cons (ks_wpAt_Expr_any (hi := ni) (ks_wpAt_MethodCall (ks_wpAt_super_base (f := fI) (cc := cda) (ar := ar) i18 i19 (by decide) rfl (X1 _ _ i3) rfl i9 rfl (X1 _ _ i5) rfl i6 i7 T.top ?_) (eval_meth1 i22)))
    refine PySem.W.ks_loadName_global i12 i18 (Calls.loadGlobal_builtin (G.keeps hk) gs (B.keeps hk) bs ⟨rfl, ?_⟩)
    refine wpAny_loadName_free i12 i19 rfl ⟨_, X1 _ _ i8, rfl⟩ ?_
    rw [i10]
    refine wpAny_loadName_local i12 i16 hns (v := .ref e) ?_ ?_
    · show (List.lookup ("self" : Str) [(par, u), (("self" : Str), Value.ref e)]) = _
      have nb : ((("self" : Str) == par) : Bool) = false := by
        cases z : (("self" : Str) == par) with
        | false => rfl
        | true => exact absurd (beq_iff_eq.mp z).symm i20
      rw [List.lookup_cons, nb]
      rfl
    refine ks_wpAny_isType_cls (X1 _ _ hC) rfl ⟨rfl, ?_⟩
    refine ks_wpAny_call_super (X1 _ _ hC) rfl he1 rfl (fun c z => ?_) (PySem.W.looks_mroIn X1 T.self) (fun h2 hso k2 => ?_)
    · cases z
    have X2 : K.In h2 := X1.keeps k2
    have he2 := k2 _ _ he1
    have I2 : PySem.W.InstAt h2 e (HandSPX.excO C t0) C none := ⟨he2, rfl, rfl, trivial⟩
    refine PySem.W.kxs_getMethod PySem.W.kxs_ValueError hso (PySem.W.looks_opaque X2 T.opq) (l₀ := .ref C :: bm) (fun A Q E s k q => wpAny_bind ((PySem.W.looks_clsIn X2 hcl) A _ E s k (wpAny_pure q))) rfl X2 ?_ (I2.type.andThen (PySem.W.looks_subIn X2 T.ve)) (PySem.W.ks_ne X2 I2 hcl) (by decide) ?_
    · have z := T.al
      unfold PySem.W.ks_superIn at z
      rw [hcl] at z
      exact z
    have X3 : K.In (h2.push (PySem.W.kxs_mw "ValueError.__init__" e)) := X2.keeps fun b o z => Heap.get?_push_of_some _ z
    have he3 : (h2.push (PySem.W.kxs_mw "ValueError.__init__" e)).get? e = some (HandSPX.excO C t0) := Heap.get?_push_of_some _ he2
    have hmw : (h2.push (PySem.W.kxs_mw "ValueError.__init__" e)).get? h2.objs.size = some (PySem.W.kxs_mw "ValueError.__init__" e) := Heap.get?_push_at rfl rfl
    refine PySem.W.kxs_callWith (i := "ValueError.__init__") (x := e) rfl (Calls.evalArgs_plain (Calls.spliced_cons (wpAny_Constant_str (k := j) (pos := p3) (Calls.spliced_nil ⟨hmw, ?_⟩))))
    refine call_mw (X3 _ _ hC) he3 hmw (by show 1 ≤ sizeLine; rw [sizeLine_eq]; omega) (fun h4 t1 k4 he4 => ?_)
    have k14 : ∀ b o, b ≠ e → h1.get? b = some o → h4.get? b = some o := fun b o n z => k4 b o n (Heap.get?_push_of_some _ (k2 b o z))
    have X4 : K.In h4 := fun b o z => k14 b o (fun n => by rw [n, eK] at z; cases z) (X1 b o z)
    obtain ⟨oL, es, ep, hL, rL⟩ := hns
    have eL : h.objs.size ≠ e := Nat.ne_of_gt (Heap.lt_size he)
    have ns4 : h4.Ns h.objs.size (fun x => [(("self" : Str), Value.ref e), (par, u)].reverse.lookup x) := ⟨oL, es, ep, k14 _ _ eL hL, rL⟩
    refine wpAt_of_wpAny (wpAny_execs_cons (plainObj_wpAny_Assign_Attribute ?_))
    refine ESX.ldL ns4 (v := u) ?_ ?_ i12 i17 i21
    · show (List.lookup par [(par, u), (("self" : Str), Value.ref e)]) = _
      rw [List.lookup_cons, beq_self_eq_true]
    refine ESX.ldL ns4 (v := .ref e) ?_ ?_ i12 i16 (by decide)
    · show (List.lookup ("self" : Str) [(par, u), (("self" : Str), Value.ref e)]) = _
      have nb : ((("self" : Str) == par) : Bool) = false := by
        cases z : (("self" : Str) == par) with
        | false => rfl
        | true => exact absurd (beq_iff_eq.mp z).symm i20
      rw [List.lookup_cons, nb]
      rfl
    refine PySem.W.set_plain X4 (ox := HandSPX.excO C t1) (od := none) ⟨he4, rfl, rfl, trivial⟩ T.oc.sa ?_
    refine PySem.HandSPX.exc_osa X4 he4 hcl (show PySem.HandSPX.refsVE (.ref C :: bm) = true from hbm) rfl T.nof (fun h5 tk5 dx k5 dn dne hx hn => ?_)
    refine wpAny_execs_nil ?_
    exact hq h5 tk5 t1 dx (fun b o n z => k5 b o n (k14 b o n (hk b o z))) (Nat.le_of_lt (Nat.lt_of_lt_of_le (Heap.lt_size (k14 _ _ eL hL)) dn)) dne hx hn
end

/-! ### C(e) makes an exception with the one field -/
section
open L2
variable {X : Cx} {C : Addr} {x msg fld par : Str} {p pos : Pos} {e : Expr} {ta : TA} {k : Nat}
def tMk1 (C : Addr) (fld : Str) (ta : TA) : L2.St → Hp → XK → Prop := fun σ H Q => ta σ H fun vs H1 => ∃ y, vs = [y] ∧ ∀ d, H1 d = none → Q (.ref C) (some d) (upd H1 d (.xd [(fld, y)]))
theorem pmk_ini (T : XIni X.prog X.K C msg fld par) (kC : PySem.W.keepIn X.K (.ref C) = true) (hr : Room (k + 1) X.A) (hg : Gl X x) (hm : X.mg x = some (.ref C)) (ha : PA X [e] ta)
    (hdb : (x == ("__debug__" : Str)) = false := by decide) (he : starEach [e] X.env = (false, eval e X.env) :: starEach [] X.env := by rfl) :
    PMk X (.Call (.Name x p) [e] [] pos) (tMk1 C fld ta) := by
  intro pins s σ H Q I h
  obtain ⟨nm, q, N, bs, bm, sn, sub, ab, col, dd, k0, k1, k2, k3, k5, hC, hbm⟩ := T.oc.cls
  refine wpAny_Call_Name_kw (ld_glob I hg hm ?_ hdb)
  refine PySem.W.callWith_K (h₀ := X.base) I.ok.mod.kin kC (thn (ha.run pos pins s σ H _ I h) fun us s1 ⟨vs, H1, I1, r1, y, ev, q1⟩ => ⟨I1.kIn, ?_⟩) he rfl
  subst ev
  cases r1 with
  | @cons _ u _ us' ry rn =>
    cases rn
    show wpAny _ _ (call (.ref C) [u]) _ _ _
    obtain ⟨hp, g, dr, tk, os⟩ := s1
    have kk : ∀ b o, hp.get? b = some o → ((hp.push (PySem.W.kdv_tup [u])).push (PySem.HandSPX.excO C hp.objs.size)).get? b = some o := fun b o z => Heap.get?_push_of_some _ (Heap.get?_push_of_some _ z)
    have hget : ((hp.push (PySem.W.kdv_tup [u])).push (PySem.HandSPX.excO C hp.objs.size)).get? (hp.objs.size + 1) = some (PySem.HandSPX.excO C hp.objs.size) := by heap_get
    obtain ⟨fI, oc, od, osl, qual, params, scope, dV, kV, doc, pm, ct, an, cda, cc, ar, ccl, cdd, vs, ccs, file, tf, cl, cld, csl, j, p0, p1, p2, p3, p4, p5, q1', q2, q3, q4, i1, i2, _⟩ := id T.ini
    refine wpAny_call (PySem.HandSPX.call_own F.excBase_ValueError (fun Y => PySem.HandSPX.refsVE_contains Y bm hbm) (I1.kIn _ _ hC) (PySem.W.looks_findIn I1.kIn i1) (fun self => PySem.W.bind_fn I1.kIn self i2) (by show 1 ≤ sizeLine; rw [sizeLine_eq]; omega) ?_)
    obtain ⟨mb, b1, b2⟩ := I1.mod.blt
    have bk : ∀ b o, X.base.get? b = some o → ((hp.push (PySem.W.kdv_tup [u])).push (PySem.HandSPX.excO C hp.objs.size)).get? b = some o := fun b o z => kk b o (I1.bk b o z)
    have hsz : hp.objs.size ≤ hp.objs.size + 1 := Nat.le_succ _
    have hn : H1 (hp.objs.size + 1) = none := I1.hok.fresh hsz
    have eK : X.K.lookup (hp.objs.size + 1) = none := by
      cases z : X.K.lookup (hp.objs.size + 1) with
      | none => rfl
      | some o => exact absurd (Heap.lt_size (I1.kIn _ _ z)) (Nat.not_lt.mpr hsz)
    have gs : X.mg "super" = none := PySem.W.mg_none_of I1.ok.mod.kin I1.mod.glob T.sup
    refine init_walk T (I1.kIn.keeps kk) i1 ((hr.make C [u] []).depth) (I1.mod.nolimit.keeps bk) (I1.mod.glob.keeps bk) gs (b1.keeps bk) ((b2 _ (by decide)).trans PyProof.Rows.Boot.«super») hget eK fun h' t' t1 dx k' dn dne he' hns => ?_
    have dn' : hp.objs.size + 1 + 1 ≤ dx := by rw [Heap.size_push, Heap.size_push] at dn; exact dn
    obtain ⟨G, g1, g2⟩ := restrict h' fun b => decide (b ≠ hp.objs.size + 1)
    have gk : ∀ b, b ≠ hp.objs.size + 1 → G.get? b = h'.get? b := fun b hb => g1 b (decide_eq_true hb)
    have ge : G.get? (hp.objs.size + 1) = none := g2 _ (by simp)
    have nha : ∀ {b : Addr} {o : Obj}, hp.get? b = some o → b ≠ hp.objs.size + 1 := fun {b o} z => Nat.ne_of_lt (Nat.lt_of_lt_of_le (Heap.lt_size z) hsz)
    have hpd : hp.get? dx = none := by
      cases z : hp.get? dx with
      | none => rfl
      | some o => exact absurd (Heap.lt_size z) (by show ¬ (dx < hp.objs.size); omega)
    have hnd : H1 dx = none := I1.hok.gone hpd
    have J : Inv X pins σ (upd H1 dx (.xd [(fld, y)])) ⟨G, g, dr, t', os⟩ := by
      refine I1.laidN (t' := t') (h' := G) (a := dx) (fun b o z => (gk b (nha z)).trans (k' b o (nha z) (kk b o z))) hpd hnd ?_
      exact ⟨_, hns.at fun o z => (gk dx dne).trans z, relO_put (fs := []) ry fun g => True.intro⟩
    refine ⟨rfl, hp.objs.size + 1, _, _, ⟨G, g, dr, t', os⟩, _, .ref C, some dx, rfl, J, fun b o z => ?_, ge, he', ⟨rfl, rfl⟩, rfl, rfl, ?_, rfl, I1.bare, raises_own T.oc.exC T.oc.tyC, q1 dx hnd⟩
    · by_cases hb : b = hp.objs.size + 1
      · rw [hb, ge] at z; cases z
      · rw [← gk b hb]; exact z
    · rw [upd_ne (Ne.symm dne)]; exact hn
end
end VS

set_option Elab.async false
set_option linter.all false
set_option maxRecDepth 100000
set_option maxHeartbeats 2000000
namespace VS
open PySem PySem.Spec L2

/-! ### raise -/
/-- raise C(e), C's own __init__ keeping e as its field -/
def sraise1 (c fld : Str) (f : M D) : SM := sbind f fun d ρ => .exc c [(fld, d)] ρ
/-- raise C('..') -/
def sraise0 (c : Str) : SM := fun ρ => .exc c [] ρ
section
variable {X : Cx} {W : WX} {P : List Nat} {C : Addr} {x msg fld par m : Str} {p p2 pos pos' : Pos} {e : Expr} {f : M D} {k j : Nat}
theorem ds_raise1 (T : XIni X.prog X.K C msg fld par) (kC : PySem.W.keepIn X.K (.ref C) = true) (c : C1 X W (k + 1)) (hg : Gl X x) (hm : X.mg x = some (.ref C)) (he : VE X W e f)
    (hdb : (x == ("__debug__" : Str)) = false := by decide) (hs : starEach [e] X.env = (false, eval e X.env) :: starEach [] X.env := by rfl) : DS X W P (.Raise (some (.Call (.Name x p) [e] [] pos)) none pos') (sraise1 x fld f) :=
  ⟨PS.imp (ps_raise c.calm c.tk (pmk_ini T kC c.room hg hm (pa_cons he.pe pa_nil hs) hdb hs)) fun E σ H ⟨B, Z, ρ, G, p⟩ => SPost.bind (R := RV X) he.tp G p fun b H1 Z1 ρ1 a s1 G1 t1 r1 p1 =>
    show ∃ y, [b] = [y] ∧ ∀ d, H1 d = none → W (.ref C) (some d) σ (upd H1 d (.xd [(fld, y)])) from
    ⟨b, rfl, fun d hd => by
      have s2 : Ext Z1 H1 Z1 (upd H1 d (.xd [(fld, b)])) := Ext.upd hd Z1 (fun _ h => h) fun _ h => .inl h
      have G2 := G1.ext s2 fun a z => by
        obtain ⟨o, q⟩ := G1.zt a z
        exact s2.there a o q
      have st : Step (Owns σ ρ) Z H Z1 (upd H1 d (.xd [(fld, b)])) := s1.trans (s2.weak fun _ h => h.elim) fun a o => .inl o
      exact p1 σ _ Z1 C (some d) (st.s t1) G2 hm ⟨d, [(fld, b)], rfl, upd_same, .cons (r1.ext s2) .nil, rfl⟩⟩⟩
theorem ds_raise0 {bmB : List Value} {B newId initId : String} (F : ExcBaseFacts B newId initId bmB) (q : PySem.W.excIn X.K C bmB newId = true) (kC : PySem.W.keepIn X.K (.ref C) = true) (hx : PySem.W.subIn X.K (.ref C) (.type "BaseException") = some true) (ht : PySem.W.typeIn X.K (.ref C) = some (.type "type"))
    (c : C1 X W k) (hg : Gl X x) (hm : X.mg x = some (.ref C)) (hdb : (x == ("__debug__" : Str)) = false := by decide) : DS X W P (.Raise (some (.Call (.Name x p) [.Constant (.str m) j p2] [] pos)) none pos') (sraise0 x) :=
  ⟨PS.imp (ps_raise c.calm c.tk (pmk_own F q hm kC (raises_own hx ht) hg hdb)) fun E σ H ⟨B, Z, ρ, G, p⟩ => p σ H Z C none .refl G hm rfl⟩
end

/-! ### try: .. except C as n: .. -/
/-- the entry of an exception that is held -/
def ExH (a : Addr) (oe : Obj) : HO := .frz oe (.ext fun h => h.get? a = some oe)
section
variable {X : Cx} {pins : List (Addr × Obj)} {σ : St} {H : Hp} {s : Shared}
theorem _root_.L2.Inv.track {a : Addr} {oe : Obj} (I : Inv X pins σ H s) (n0 : X.s_0.heap.get? a = none) (na : H a = none) (he : s.heap.get? a = some oe) (nL : a ≠ X.env.locals) (nc : ∀ x c, X.env.cells.lookup x = some c → c ≠ a) (np : ∀ p ∈ X.pn ++ pins, p.1 ≠ a) : Inv X pins σ (upd H a (ExH a oe)) s := by
  have ne0 : ∀ b o, X.s_0.heap.get? b = some o → b ≠ a := fun b o e z => by rw [z, n0] at e; cases e
  refine ⟨I.ok, I.os, I.bare, ⟨I.base.keep, I.base.slot, fun b o e n hx => ?_, I.base.there, fun b xs e => ?_, fun b o u e => ?_, fun b ps e => ?_⟩, I.loc, I.cell, ?_, fun x c e => ?_, fun p hp => ?_, fun b u e => ?_, I.len⟩
  · rw [upd_ne (ne0 b o e)]; exact I.base.free b o e n hx
  · have q := I.base.tups b xs e
    rw [upd_ne (ne_of_none q na)]; exact q
  · have q := I.base.frzs b o u e
    rw [upd_ne (ne_of_none q na)]; exact q
  · obtain ⟨m, q⟩ := I.base.tbls b ps e
    exact ⟨m, by rw [upd_ne (ne_of_none q na)]; exact q⟩
  · rw [upd_ne (Ne.symm nL)]; exact I.free
  · rw [upd_ne (nc x c e)]; exact I.freeC x c e
  · obtain ⟨e, n, ne, nf, d⟩ := I.pin p hp
    exact ⟨e, by rw [upd_ne (np p hp)]; exact n, ne, nf, d⟩
  · by_cases hb : b = a
    · subst hb
      rw [upd_same] at e
      cases e
      exact ⟨he, he, ⟨_, he⟩, fun _ _ z k => k _ z⟩
    · rw [upd_ne hb] at e
      exact (I.hok b u e).stay (fun c v _ q => q) (fun c q => by rw [upd_ne (ne_of_none q na)]; exact q) fun c xs q => by rw [upd_ne (ne_of_none q na)]; exact q
theorem _root_.L2.Inv.toSuite (I : Inv X pins σ H s) (a : Addr) : Inv (X.suite a (X.pn ++ pins)) [] σ H s :=
  ⟨I.ok.suite _ _, I.os, I.bare, I.base, I.loc, I.cell, I.free, I.freeC, fun p hp => I.pin p (by rw [List.append_nil] at hp; exact hp), I.hok, I.len⟩
theorem _root_.L2.Inv.ofSuite {a : Addr} {pn' : List (Addr × Obj)} (I : Inv (X.suite a (X.pn ++ pins)) pn' σ H s) (ok : X.Ok) : Inv X pins σ H s :=
  ⟨ok, I.os, I.bare, I.base, I.loc, I.cell, I.free, I.freeC, fun p hp => I.pin p (List.mem_append_left _ hp), I.hok, I.len⟩
end
/-- what 'except c as n' wishes of an exception of the body -/
def wTry (K : PySem.W.Frag) (c : Value) (i : Nat) (ts : TS) (Wout : WX) (D : Ends) : WX := fun cls d σ H =>
  ∃ b, PySem.W.exmOne K cls c = some b ∧ (b = true → ∀ a oe vs, H a = none → Zc cls d oe → oe.data = .fields vs →
    ts { nx := fun σ' H' => D.nx (σ'.set i none) H', rt := D.rt, bk := fun σ' H' => D.bk (σ'.set i none) H', ct := fun σ' H' => D.ct (σ'.set i none) H' } (σ.set i (some (.ref a))) (upd H a (ExH a oe))) ∧ (b = false → Wout cls d σ H)
section
variable {X : Cx} {x n : Str} {c : Value} {i : Nat} {body suite : List Stmt} {b₀ : Stmt} {np pos pos' : Pos} {tb : WX → TS} {ts : TS} {Wout : WX}
theorem ps_try_x (hs : X.stack = X.env :: X.outer) (hf : X.env.frame = some X.env.locals) (hN : X.N.Nodup) (hi : X.N[i]? = some n) (hln : X.env.kindOf n = some .local) (hc : Names X x c) (tk : Takes X Wout) (hex : X.ex = [])
    (hb : ∀ (W : WX) (pn : List (Addr × Obj)) (xe : Value → Shared → Prop), Takes (X.tr pn xe) W → PassesOwn (model X.prog X.w) X.A X.env xe → PSs (X.tr pn xe) body (tb W))
    (hsu : ∀ (a : Addr) (pn : List (Addr × Obj)), PSs (X.suite a pn) (b₀ :: suite) ts) :
    PS X (.Try body [.ExceptHandler (some (.Name x np)) (some n) (b₀ :: suite) pos'] [] [] pos) (fun D σ H => tb (wTry X.K c i ts Wout D) D σ H) := by
  refine ⟨fun pins s σ H D I h => ?_⟩
  have ok := I.ok
  have hfr : X.A.frames = some (X.env :: X.outer) := by rw [ok.frames, hs]
  have hloc : L2.Loc X.env.scope n := .inl hln
  refine wpAny_Try_except ?_
  refine wpAny_mono ((hb (wTry X.K c i ts Wout D) (X.pn ++ pins) (fun e s₁ => wpAny (model X.prog X.w) X.A (noteFrame e X.env) (fun _ s₂ => wpAny (model X.prog X.w) X.A (setFlight e none) (fun _ s₃ =>
    wpAny (model X.prog X.w) X.A (handleBy e X.env [.ExceptHandler (some (.Name x np)) (some n) (b₀ :: suite) pos']) (SP X pins D) X.xe s₃) X.xe s₂) X.xe s₁) (fun u s' xx => ?_) PassesOwn.looking).run [] s σ H D (I.toTry _) h) (fun f s1 hsp => ?_) (fun e s1 he => he)
  · obtain ⟨a, B, sI, pins', σ', H', cls, d, rfl, J', nb, up, sky, na, os, ag, b, hb1, hyes, hno⟩ := xx
    have J : Inv X pins σ' H' sI := J'.ofTry ok
    have sky' : Sky B (X.env :: X.outer) a (Zc cls d) X.env.locals s'.heap := by rw [← hs]; exact sky
    show wpAny (model X.prog X.w) X.A (noteFrame (.ref a) X.env) _ _ _
    refine Sky.land Zc.steady hfr hf sky' fun h3 fl3 up3 => ?_
    have J3 : Inv X pins σ' H' { s' with heap := h3 } := J.landed nb fl3.1 (up.trans up3) os ag
    obtain ⟨oe3, vs3, he3, hz3, hd3⟩ := fl3.there
    have notFr : ∀ {h : Heap} {o : Obj} {vs : Array Value}, h.FunFrames B (X.env :: X.outer) → h.get? a = some o → o.data = .fields vs → a ∉ frs (X.env :: X.outer) := fun {h o vs} ff e dd hm => by
      obtain ⟨_, o', e', hnf⟩ := ff.mem hm
      rw [e] at e'; cases e'
      exact hnf _ dd
    have nfr := notFr fl3.2.2.1 he3 hd3
    have nL : a ≠ X.env.locals := fun z => nfr (List.mem_filterMap.mpr ⟨X.env, List.mem_cons_self, by rw [hf, z]⟩)
    have nsI : sI.heap.get? a = none := by
      cases e : sI.heap.get? a with
      | none => rfl
      | some o =>
        have z := nb a o e (by rw [hs]; exact nfr)
        rw [fl3.2.1] at z; cases z
    have n0 : X.s_0.heap.get? a = none := by
      cases e : X.s_0.heap.get? a with
      | none => rfl
      | some o =>
        obtain ⟨o', z⟩ := J.base.there a o e (by rw [hex]; exact fun z => nomatch z)
        rw [nsI] at z; cases z
    have nc : ∀ x c, X.env.cells.lookup x = some c → c ≠ a := fun x c e z => by
      obtain ⟨v, o, ho, _⟩ := J.cell x c e
      rw [z, nsI] at ho; cases ho
    have np' : ∀ p ∈ X.pn ++ pins, p.1 ≠ a := fun p hp z => by
      obtain ⟨e, _⟩ := J.pin p hp
      rw [z, nsI] at e; cases e
    have S3 := J3.toSuite a
    refine wpAny_handleBy_cons (codeAny_handlers_test ?_) (by intro q; cases q)
    have LT : PySem.W.Looks (model X.prog X.w) h3 (typeOf (.ref a)) cls := fun A Q E s k q => wpAny_typeOf_ref (k _ _ he3) (by rw [hz3.1]; exact q)
    have LM := PySem.W.exm_one (M := model X.prog X.w) (J3.kIn) LT hb1
    have test : ∀ {Q : Value → Shared → Prop} {E : Value → Shared → Prop}, Q c { s' with heap := h3 } → wpAny (model X.prog X.w) (X.A.mark (some (.ref a))) (eval (.Name x np) X.env) Q E { s' with heap := h3 } := fun {Q E} q => by
      obtain ⟨hg, hdbg, hm | ⟨hm, hv, hnn⟩⟩ := hc
      · exact ld_glob (X := X.suite a (X.pn ++ pins)) S3 hg hm q hdbg
      · exact ld_blt (X := X.suite a (X.pn ++ pins)) S3 hg hm hv q hnn hdbg
    refine test (LM.here ?_)
    cases b with
    | true =>
      refine codeAny_handlers_suite_as ?_
      refine HandSPX.lands_againZ fl3 fun h4 fl4 up4 => ?_
      have J4 : Inv X pins σ' H' { s' with heap := h4 } := J.landed nb fl4.1 ((up.trans up3).trans up4) os ag
      obtain ⟨oe4, vs4, he4, hz4, hd4⟩ := fl4.there
      have S4 := (L2.Inv.track J4 n0 na he4 nL nc np').toSuite a
      refine store_ok (X := X.suite a (X.pn ++ pins)) (v := .ref a) S4 hN hi hloc rfl (fun s5 S5 => ?_) (.inr hln)
      refine wpAny_mono ((hsu a (X.pn ++ pins)).run [] s5 _ _ _ S5 (hyes rfl a oe4 vs4 na hz4 hd4)) (fun f s6 hsp => ?_) (fun _ _ z => False.elim z)
      have end_ : ∀ {σ6 : St} {H6 : Hp} {Q : Shared → Prop}, Inv (X.suite a (X.pn ++ pins)) [] σ6 H6 s6 → (∀ s7, Inv X pins (σ6.set i none) H6 s7 → Q s7) →
          wpAny (model X.prog X.w) X.A (do bindName X.env n .none; unbindBehindTheSuite X.env n pos') (fun _ s7 => Q s7) X.xe s6 := fun {σ6 H6 Q} S6 hq => gone_ok (S6.ofSuite ok) hN hi hln hq
      cases f with
      | next =>
        obtain ⟨σ6, H6, S6, q6⟩ := hsp
        exact end_ S6 fun s7 J7 => ⟨_, _, J7, q6⟩
      | brk =>
        obtain ⟨σ6, H6, S6, q6⟩ := hsp
        exact end_ S6 fun s7 J7 => ⟨_, _, J7, q6⟩
      | cont =>
        obtain ⟨σ6, H6, S6, q6⟩ := hsp
        exact end_ S6 fun s7 J7 => ⟨_, _, J7, q6⟩
      | ret u =>
        obtain ⟨v6, σ6, H6, S6, r6, q6⟩ := hsp
        exact end_ S6 fun s7 J7 => ⟨_, _, _, J7, r6, q6⟩
    | false =>
      show wpAny _ X.A (handleBy (.ref a) X.env []) _ _ _
      refine wpAny_handleBy_nil ?_
      obtain ⟨k1, k2, k3, oe, vs, T, oT, ts', he, hz, hd, h1, hr⟩ := id fl3
      unfold PySem.passOn
      refine wpAny_bind (wpAny_field he hd h1 ?_)
      rw [if_neg (show ¬ ((Value.ref T == Value.none) = true) from by simp)]
      have fin : wpAny (model X.prog X.w) X.A (setFlight (.ref a) X.env.frame) (fun _ s4 => wpAny (model X.prog X.w) X.A (throw (.ref a) : Sem Flow) (SP X pins D) X.xe s4) X.xe { s' with heap := h3 } := by
        rw [hf]
        refine HandSPX.setFlight_upZ fl3 fun h4 hh4 up4 => wpAny_throw (tk _ _ ?_)
        exact ⟨a, B, sI, pins, σ', H', cls, d, rfl, J, nb, (up.trans up3).trans up4, .inr (.inr (by rw [hs]; exact hh4)), na, os, ag, hno rfl⟩
      first
        | exact wpAny_bind (wpAny_pure (wpAny_bind fin))
        | exact wpAny_bind fin
  · cases f with
    | next =>
      obtain ⟨σ', H', J', q⟩ := hsp
      exact wpAny_execs_nil ⟨σ', H', J'.ofTry ok, q⟩
    | brk =>
      obtain ⟨σ', H', J', q⟩ := hsp
      exact ⟨σ', H', J'.ofTry ok, q⟩
    | cont =>
      obtain ⟨σ', H', J', q⟩ := hsp
      exact ⟨σ', H', J'.ofTry ok, q⟩
    | ret u =>
      obtain ⟨v, σ', H', J', r, q⟩ := hsp
      exact ⟨v, σ', H', J'.ofTry ok, r, q⟩
end

/-- the name of the clause goes -/
def unb (i : Nat) : SR → SR
  | .next ρ => .next (ρ.set i .emp)
  | .brk ρ => .brk (ρ.set i .emp)
  | .cont ρ => .cont (ρ.set i .emp)
  | .ret r ρ => .ret r ρ
  | _ => .no
def stry (h : Str → Option Bool) (i : Nat) (t u : SM) : SM := fun ρ => match t ρ with
  | .exc c fs ρ1 => match h c with
    | some true => unb i (u (ρ1.set i (.exc c fs)))
    | some false => .exc c fs ρ1
    | none => .no
  | r => r
section
variable {K : PySem.W.Frag} {P : List Nat} {B Z : Addr → Prop} {H : Hp} {σ : St} {ρ : Rho} {i : Nat}
theorem Good.unb (g : Good K B Z H σ ρ) : Good K B Z H (σ.set i none) (ρ.set i .emp) := g.set (r := .emp) trivial fun _ ⟨_, e⟩ _ => by cases e
theorem SStep.unb (hi : i ∉ P) : SStep P Z H σ ρ Z H (σ.set i none) (ρ.set i .emp) := .set hi fun _ ⟨_, e⟩ _ => by rcases e with e | e <;> cases e
theorem SStep.setX {x : Option V} {c : Str} {fs : List (Str × D)} (hi : i ∉ P) : SStep P Z H σ ρ Z H (σ.set i x) (ρ.set i (.exc c fs)) := .set hi fun _ ⟨_, e⟩ _ => by rcases e with e | e <;> cases e
end
section
variable {X : Cx} {W : WX} {P : List Nat} {x n : Str} {cv : Value} {i j k : Nat} {body suite : List Stmt} {b₀ : Stmt} {np pos pos' p2 p3 : Pos} {t u : SM} {hd : Str → Option Bool}
/-- what the table says of a class: its address, whether the clause takes it -/
def HdOk (X : Cx) (cv : Value) (hd : Str → Option Bool) : Prop := ∀ s b, hd s = some b → ∃ C, X.mg s = some (.ref C) ∧ PySem.W.nsIn X.K mainGlobals s = some (some (.ref C)) ∧ PySem.W.exmOne X.K (.ref C) cv = some b
theorem ds_try (c : C2 X W k) (hs : X.stack = X.env :: X.outer) (hf : X.env.frame = some X.env.locals) (hex : X.ex = []) (hi : X.N[i]? = some n) (hln : X.env.kindOf n = some .local) (hP : i ∉ P) (hc : Names X x cv) (hh : HdOk X cv hd)
    (hb : ∀ (W' : WX) (pn : List (Addr × Obj)) (xe : Value → Shared → Prop), C2 (X.tr pn xe) W' k → DSs (X.tr pn xe) W' P body t) (hsu : ∀ (a : Addr) (pn : List (Addr × Obj)), DSs (X.suite a pn) WN P (b₀ :: suite) u) :
    DS X W P (.Try body [.ExceptHandler (some (.Name x np)) (some n) (b₀ :: suite) pos'] [] [] pos) (stry hd i t u) := by
  refine ⟨PS.imp (ps_try_x (tb := fun W' => LS X W' P t) (ts := LS X WN P u) hs hf c.nd hi hln hc c.tk hex (fun W' pn xe tk po => (hb W' pn xe ⟨⟨c.room, c.gd, tk, c.calm, c.sys, c.nd⟩, po⟩).ps) fun a pn => (hsu a pn).ps) fun E σ H ⟨B, Z, ρ, G, p⟩ => ⟨B, Z, ρ, G, ?_⟩⟩
  unfold stry at p
  cases e : t ρ with
  | next ρ1 => rw [e] at p; exact p
  | brk ρ1 => rw [e] at p; exact p
  | cont ρ1 => rw [e] at p; exact p
  | ret r ρ1 => rw [e] at p; exact p
  | no => rw [e] at p; exact p
  | exc c1 fs ρ1 =>
    rw [e] at p
    dsimp only at p
    intro σ1 H1 Z1 C dx s1 G1 hm xr
    cases eh : hd c1 with
    | none => rw [eh] at p; exact p.elim
    | some b =>
      rw [eh] at p
      obtain ⟨C', m', ns, ex⟩ := hh c1 b eh
      rw [m'] at hm
      cases hm
      refine ⟨b, ex, fun eb a oe vs na hz hdt => ?_, fun eb => ?_⟩
      · subst eb
        dsimp only at p
        have s2 : Ext Z1 H1 Z1 (upd H1 a (ExH a oe)) := Ext.upd na Z1 (fun _ h => h) fun _ h => .inl h
        have zt2 : ∀ b, Z1 b → ∃ o, (upd H1 a (ExH a oe)) b = some o := fun b z => by
          obtain ⟨o, q⟩ := G1.zt b z
          exact s2.there b o q
        have G2 := G1.ext s2 zt2
        have xr2 : XRep X.K Z1 (upd H1 a (ExH a oe)) oe.dict fs := by
          rw [hz.2]
          exact xr.step s2 mutF fun _ _ h => h
        have G3 := G2.set (i := i) (r := .exc c1 fs) (x := some (.ref a)) ⟨a, C, oe, vs, _, rfl, upd_same, hz.1, hdt, ns, xr2⟩ fun _ ⟨_, e⟩ _ => by cases e
        have st : SStep P Z H σ ρ Z1 (upd H1 a (ExH a oe)) (σ1.set i (some (.ref a))) (ρ1.set i (.exc c1 fs)) := (s1.trans ((s2.weak (O' := Owns σ1 ρ1) fun _ h => h.elim).s rfl)).trans (.setX hP)
        refine ⟨B, Z1, ρ1.set i (.exc c1 fs), G3, ?_⟩
        have q := p.after st
        cases eu : u (ρ1.set i (.exc c1 fs)) with
        | next ρ2 => rw [eu] at q; exact fun σ' H' Z' s g => q _ H' Z' (s.trans (.unb hP)) g.unb
        | brk ρ2 => rw [eu] at q; exact fun σ' H' Z' s g => q _ H' Z' (s.trans (.unb hP)) g.unb
        | cont ρ2 => rw [eu] at q; exact fun σ' H' Z' s g => q _ H' Z' (s.trans (.unb hP)) g.unb
        | ret r ρ2 => rw [eu] at q; exact q
        | exc c2 f2 ρ2 => rw [eu] at q; exact q.elim
        | no => rw [eu] at q; exact q.elim
      · subst eb
        exact p σ1 H1 Z1 C dx s1 G1 m' xr
/-- y = e, e an exception that is held -/
def scpX (j i : Nat) : SM := fun ρ => match ρ[i]? with
  | some (.exc c fs) => .next (ρ.set j (.exc c fs))
  | _ => .no
theorem ds_cpX {y : Str} (hN : X.N.Nodup) (hj : X.N[j]? = some y) (hx : L2.Loc X.env.scope y) (hP : j ∉ P) (he : PE X (.Name n p2) (tVar i)) (hs : swapsWith (.Name n p2) (some (.Name y p3)) pos.line X.env = pure false := by rfl)
    (hf : X.fn y = true ∨ X.env.scope.names.lookup y = some .local := by first | exact .inl rfl | exact .inr rfl | assumption) : DS X W P (.Assign [.Name y p3] (.Name n p2) pos) (scpX j i) :=
  ⟨PS.imp (ps_set hN hj hx he hs hf) fun E σ H ⟨B, Z, ρ, G, p⟩ => by
    unfold scpX at p
    split at p
    · rename_i c fs q
      have hi : i < σ.length := by rw [← G.len]; exact (List.getElem?_eq_some_iff.mp q).1
      have e1 : σ[i]? = some σ[i] := by simp [hi]
      obtain ⟨a, C, oe, vs, u, e2, h⟩ := G.sl i _ _ e1 q
      rw [e2] at e1
      exact ⟨_, e1, p _ H Z (.setX hP) (G.set ⟨a, C, oe, vs, u, rfl, h⟩ fun _ ⟨_, e⟩ _ => by cases e)⟩
    · exact p.elim⟩
end
end VS

set_option Elab.async false
set_option linter.all false
set_option maxRecDepth 100000
set_option maxHeartbeats 2000000
namespace PySem.W
open PySem PySem.Spec PySem.Calls PyProof.Rows
section
variable {prog : Program} {w : World} {A : Around} {E : Value → Shared → Prop} {s : Shared} {K : Frag} {x D : Addr} {ox : Obj} {od : Option Obj}
theorem findObj_dataD {C : Addr} {name : Str} {a g : Value} (hc : (clsIn K C).isSome = true) (ha : findIn K (.ref C) name = some (some a)) (hg : specialIn K a "__get__" = some (some g)) (ht : takesIn K a = some true) : findObj K C od name = some (.bind g a) := by
  obtain ⟨cd, hc⟩ := Option.isSome_iff_exists.mp hc
  unfold findObj
  rw [hc, Option.bind_some, ha, Option.bind_some]
  simp [hg, ht]
theorem kin_classD {Q : Option Value → Shared → Prop} (C : L2.ExcC K D) (X : K.In s.heap) (I : InstAt s.heap x ox D od) (h : Q (some (.ref D)) { s with toks := s.toks + 1 }) : wpAny (model prog w) A (getAttr? (.ref x) "__class__") Q E s := by
  have hf : findObj K D od "__class__" = some (.bind (.builtin "getset_descriptor.__get__") (.builtin "object.__class__")) := findObj_dataD (by obtain ⟨cd, hc, _⟩ := any_some C.hd; rw [hc]; rfl) C.ha C.hn C.ht
  obtain ⟨hp, g, d, t, os⟩ := s
  have L0 := I.type (M := model prog w)
  have L1 := looks_findIn (M := model prog w) X C.hg
  have L2 := looks_findIn (M := model prog w) X C.hk
  have L3 := looks_find (M := model prog w) X I hf
  have sub : Looks (model prog w) hp (isInstance (.ref x) (.type "BaseException")) true := L0.andThen (looks_subIn X C.hs)
  have hx0 : (false && onTheHeap (Value.builtin "BaseException.__getattribute__")) = false := rfl
  have hx2 : (Value.builtin "BaseException.__getattribute__" == Value.builtin "object.__getattribute__") = false := by decide +kernel
  have hx1 : (onTheHeap (Value.ref D) && Value.builtin "BaseException.__getattribute__" == Value.builtin "object.__getattribute__") = false := by rw [hx2]; rfl
  unfold getAttr? getAttrBy? getAttrBy
  refine wpAny_bind (wpAny_mkText (wpAny_bind (wpAny_attempt (wpAny_holding (wpAny_bind (L0.at (wpAny_bind (L1.at ?_))))))))
  show wpAny _ _ (if (onTheHeap (Value.ref D) && Value.builtin "BaseException.__getattribute__" == Value.builtin "object.__getattribute__") = true then _ else _) _ _ _
  rw [hx1, if_neg Bool.false_ne_true]
  unfold getAttrByItsOwn hookBefore
  refine wpAny_bind ?_
  rw [if_pos (show onTheHeap (Value.ref D) = true from rfl)]
  refine L2.at ?_
  refine wpAny_bind (wpAny_attempt (wpAny_holding ?_))
  unfold callGetattribute
  rw [hx0, if_neg Bool.false_ne_true]
  unfold boundAndCalled
  rw [PySem.F.excAttr_ValueError.ga.bind (.ref x)]
  refine wpAny_bind (wpAny_pure ?_)
  show wpAny _ _ (call (.builtin "BaseException.__getattribute__") [.ref x, .str "__class__" t]) _ _ _
  refine wpAny_call (codeAny_call_builtin PySem.F.excAttr_ValueError.ga.plain PySem.F.entry_bexc_ga ?_)
  refine @check_slot (model prog w) _ _ ⟨hp, g, d, t + 1, os⟩ "BaseException.__getattribute__" "BaseException" "__getattribute__" (.ref x) [.str "__class__" t] [] _ (by decide +kernel) (by decide +kernel) sub (PySem.F.args_bexc_ga (.ref x) (.str "__class__" t)) ?_
  unfold Builtin.«object.__getattribute__»
  refine wpAny_bind (wpAny_of_eq (a := ((Value.ref x : Value), [Value.str "__class__" t])) (by first | rfl | (simp only [slotArgs]; rfl)) ?_)
  refine wpAny_bind (wpAny_pure (wpAny_bind (L0.at (wpAny_bind (L3.at ?_)))))
  show wpAny _ _ (holding [Value.builtin "object.__class__"] (call (.builtin "getset_descriptor.__get__") [.builtin "object.__class__", .ref x, .ref D]) >>= ret) _ _ _
  refine wpAny_bind (wpAny_holding (wpAny_call (class_get (s := ⟨hp, g, d, t + 1, os⟩) (ox := ox) (od := od) X I C.hm ?_)))
  refine wpAny_pure ?_
  show wpAny _ _ (handedOut (.ref D)) _ _ _
  rw [handedOut_of (v := .ref D) rfl]
  first
    | exact wpAny_pure (wpAny_pure h)
    | exact wpAny_pure h
    | exact wpAny_pure (wpAny_bind (wpAny_pure (wpAny_pure h)))
theorem kitx_excD (C : L2.ExcC K D) : KitX K (.ref x) (.ref D) (fun h => InstAt h x ox D od) where
  ty := fun _ _ _ I => I.type
  it := fun _ _ X _ => by
    obtain ⟨cdD, hcD, _⟩ := any_some C.hd
    unfold clsIn at hcD
    split at hcD
    · rename_i c' d' cd' sl' ho
      intro A' Q' E' s' k q
      unfold isType loadHead
      exact wpAny_bind (wpAny_loadPart (k _ _ (X _ _ ho)) (wpAny_pure q))
    · cases hcD
  ne := fun h tp dd its n sl X htp => by
    obtain ⟨cdD, hcD, _⟩ := any_some C.hd
    refine Bool.eq_false_iff.mpr fun q => ?_
    have e : D = tp := Value.ref.inj (beq_iff_eq.mp q)
    subst e
    unfold clsIn at hcD
    split at hcD
    · rename_i c' d' cd' sl' ho
      have z := (X _ _ ho).symm.trans htp
      cases z
    · cases hcD
  ca := fun X I k => kin_classD C X I k
end
end PySem.W
namespace VS
open PySem PySem.Spec L2

/-! ### a held exception looked at -/
/-! ### x is None -/
def misX (i : Nat) (neg : Bool) : M Bool := fun ρ => match ρ[i]? with
  | some (.val d) => .ok (neg != decide (d = .none)) ρ
  | some (.exc _ _) => .ok neg ρ
  | _ => .no
theorem tp_isX {i : Nat} {neg : Bool} : TP (misX i neg) := by
  constructor <;> intro ρ <;> unfold misX <;> intros <;> rename_i e <;> split at e <;> cases e <;> rfl
section
variable {X : Cx} {W : WX} {x : Str} {i j : Nat} {p2 p3 pos : Pos}
theorem is_run {σ : L2.St} {H : Hp} {Q : Bool → Hp → Prop} {neg : Bool} (h : Lf X W RT (misX i neg) σ H Q) : ∃ v, σ[i]? = some (some v) ∧ Q (neg != decide (v = .non)) H := by
  obtain ⟨B, Z, ρ, G, p⟩ := h
  unfold misX at p
  split at p
  · rename_i d q
    obtain ⟨v, e, r⟩ := G.val q
    refine ⟨v, e, p.at G ?_⟩
    show (neg != decide (v = .non)) = (neg != decide (d = .none))
    congr 1
    by_cases hd : d = .none
    · subst hd
      cases r
      rfl
    · have hv : v ≠ .non := (RepB.non_iff (.inl r) hd)
      rw [decide_eq_false hd, decide_eq_false hv]
  · rename_i c fs q
    have hi : i < σ.length := by rw [← G.len]; exact (List.getElem?_eq_some_iff.mp q).1
    have e1 : σ[i]? = some σ[i] := by simp [hi]
    obtain ⟨a, C, oe, vs, u, e2, h⟩ := G.sl i _ _ e1 q
    rw [e2] at e1
    refine ⟨_, e1, p.at G ?_⟩
    show (neg != decide (V.ref a = .non)) = neg
    rw [decide_eq_false (fun z => nomatch z)]
    cases neg <;> rfl
  · exact p.elim
theorem t_isX (h : PE X (.Name x p2) (tVar i)) : VT X W (.Compare (.Name x p2) [.Is] [.Constant .none j p3] pos) (misX i false) :=
  ⟨PT.imp (pt_cmpR op_isN h pe_non (nomark _)) fun σ H Q q => by
    obtain ⟨v, e, k⟩ := is_run q
    refine ⟨v, e, rfl, _, rfl, ?_⟩
    have z : (false != decide (v = V.non)) = decide (v = V.non) := by cases decide (v = V.non) <;> rfl
    rwa [z] at k, tp_isX⟩
theorem t_isnotX (h : PE X (.Name x p2) (tVar i)) : VT X W (.Compare (.Name x p2) [.IsNot] [.Constant .none j p3] pos) (misX i true) :=
  ⟨PT.imp (pt_cmpR op_notN h pe_non (nomark _)) fun σ H Q q => by
    obtain ⟨v, e, k⟩ := is_run q
    refine ⟨v, e, rfl, _, rfl, ?_⟩
    have z : (true != decide (v = V.non)) = !decide (v = V.non) := by cases decide (v = V.non) <;> rfl
    rwa [z] at k, tp_isX⟩
end

/-! ### isinstance(x, C), x a held exception -/
def rIsX (K : PySem.W.Frag) (c : Addr) : List V → Hp → VK → Prop := fun xs H Q => ∃ (a D : Addr) (oe : Obj) (vs : Array Value) (u : HO) (b : Bool), xs = [.ref a, .ref c] ∧ H a = some (.frz oe u) ∧ oe.cls = .ref D ∧ oe.data = .fields vs ∧
  (oe.dict = none ∨ ∃ dd us, oe.dict = some dd ∧ H dd = some (.xd us)) ∧ ExcC K D ∧ PySem.W.kitOne K (.ref D) (.ref c) = some b ∧ Q (.bl b) H
theorem call_isX {X : Cx} {c : Addr} : CallR X (.builtin "isinstance") (rIsX X.K c) := by
  intro pins s σ H xs us Q I r h
  obtain ⟨a, D, oe, vs, u, b, rfl, ha, hc, hd, hx, C, e, q⟩ := h
  cases r with
  | cons rx rr =>
    cases rr with
    | cons rt rr =>
      cases rr
      cases rx
      cases rt
      obtain ⟨ho, _⟩ := I.hok a _ ha
      have nc : PySem.W.notCls oe = true := by unfold PySem.W.notCls; rw [hd] <;> rfl
      have fin : ∀ tk, EP X pins σ Q (.bool b) { s with toks := tk } := fun tk => ⟨.bl b, H, I.kept (t' := tk) fun _ _ z => z, rfl, q⟩
      rcases hx with hx | ⟨dd, us, hx, hdd⟩
      · exact PySem.W.kia_one (PySem.W.kitx_excD (od := none) C) I.kIn ⟨ho, hc, nc, by rw [hx]; trivial⟩ e (fun z => nomatch z) fin
      · obtain ⟨mA, ⟨od, es, ep, hod, hr⟩, rel⟩ := I.hok dd _ hdd
        exact PySem.W.kia_one (PySem.W.kitx_excD (od := some od) C) I.kIn ⟨ho, hc, nc, by rw [hx]; exact hod⟩ e (fun z => nomatch z) fin
def misiX (i : Nat) (tb : Str → Option Bool) : M D := fun ρ => match ρ[i]? with
  | some (.exc c _) => match tb c with
    | some b => .ok (.bool b) ρ
    | none => .no
  | _ => .no
theorem tp_isiX {i : Nat} {tb : Str → Option Bool} : TP (misiX i tb) := by
  constructor <;> intro ρ <;> unfold misiX <;> intros <;> rename_i e <;> split at e <;> try (cases e)
  · split at e <;> cases e <;> rfl
  · split at e <;> cases e
def IsOk (X : Cx) (c : Addr) (tb : Str → Option Bool) : Prop := ∀ s b, tb s = some b → ∃ D, PySem.W.nsIn X.K mainGlobals s = some (some (.ref D)) ∧ ExcC X.K D ∧ PySem.W.kitOne X.K (.ref D) (.ref c) = some b
section
variable {X : Cx} {W : WX} {x y f : Str} {i j : Nat} {c : Addr} {p p2 p3 pos : Pos} {tb : Str → Option Bool} {ok : Str → Bool}
theorem ve_isiX (hx : IsOk X c tb) (gl : Gl X "isinstance") (hm : X.mg "isinstance" = none) (gx : Gl X y) (hmx : X.mg y = some (.ref c)) (he : PE X (.Name x p3) (tVar i))
    (hdb : (y == ("__debug__" : Str)) = false := by decide)
    (hs : starEach [.Name x p3, .Name y p2] X.env = (false, eval (.Name x p3) X.env) :: starEach [.Name y p2] X.env := by rfl) (hpl : (backTo pos (starEach [.Name y p2] X.env)).any (·.1) = false := by rfl) :
    VE X W (.Call (.Name "isinstance" p) [.Name x p3, .Name y p2] [] pos) (misiX i tb) := by
  have hT : PE X (.Name y p2) (tC (.ref c)) := pe_glob gx hmx rfl hdb
  refine ⟨PE.imp (pe_callB (call_isX (c := c)) gl hm (by decide +kernel) (pa_cons he (pa_cons hT pa_nil) hs) (by decide) (by decide) hs hpl) fun σ H Q ⟨B, Z, ρ, G, q⟩ => ?_, tp_isiX⟩
  unfold misiX at q
  split at q
  · rename_i s fs e
    cases et : tb s with
    | none => rw [et] at q; exact q.elim
    | some b =>
      rw [et] at q
      obtain ⟨D, ns, C, kt⟩ := hx s b et
      have hi : i < σ.length := by rw [← G.len]; exact (List.getElem?_eq_some_iff.mp e).1
      have e1 : σ[i]? = some σ[i] := by simp [hi]
      obtain ⟨a, C', oe, vs, u, e2, h1, h2, h3, h4, xr⟩ := G.sl i _ _ e1 e
      rw [ns] at h4
      cases h4
      rw [e2] at e1
      refine ⟨_, e1, a, D, oe, vs, u, b, rfl, h1, h2, h3, ?_, C, kt, q.at G (.bl _)⟩
      cases fs with
      | nil => exact .inl xr
      | cons g gs =>
        obtain ⟨dd, us, k1, k2, _⟩ := xr
        exact .inr ⟨dd, us, k1, k2⟩
  · exact q.elim

/-! ### x.f -/
def mattX (i : Nat) (f : Str) (ok : Str → Bool) : M D := fun ρ => match ρ[i]? with
  | some (.exc c fs) => if ok c = true then (match fs.lookup f with
    | some d => .ok d ρ
    | none => .no) else .no
  | _ => .no
theorem tp_attX : TP (mattX i f ok) := by
  constructor <;> intro ρ <;> unfold mattX <;> intros <;> rename_i e <;> split at e <;> try (cases e)
  · split at e <;> try (cases e)
    split at e <;> cases e <;> rfl
  · split at e <;> try (cases e)
    split at e <;> cases e
def AtOk (X : Cx) (f : Str) (ok : Str → Bool) : Prop := ∀ s, ok s = true → ∃ D, PySem.W.nsIn X.K mainGlobals s = some (some (.ref D)) ∧ XfC X.K D ∧ PySem.W.findIn X.K (.ref D) f = some none
theorem lookup_rep {K : PySem.W.Frag} {Z : Addr → Prop} {H : Hp} : ∀ {us : List (Str × V)} {fs : List (Str × D)} {d : D}, RepL K Z H (us.map (·.2)) (fs.map (·.2)) → us.map (·.1) = fs.map (·.1) → fs.lookup f = some d → ∃ v, us.lookup f = some v ∧ Rep K Z H v d
  | [], [], d, _, _, e => by cases e
  | [], _ :: _, d, _, k, e => by cases k
  | _ :: _, [], d, _, k, e => by cases k
  | (a, v) :: us, (b, d') :: fs, d, .cons r t, k, e => by
    simp only [List.map_cons, List.cons.injEq] at k
    obtain ⟨rfl, k⟩ := k
    rw [List.lookup_cons] at e ⊢
    cases q : (f == a) with
    | true =>
      rw [q] at e
      cases e
      exact ⟨v, rfl, r⟩
    | false =>
      rw [q] at e
      exact lookup_rep t k e
theorem ve_attX (hx : AtOk X f ok) (he : PE X (.Name x p3) (tVar i)) (hb : attributeBase (.Name x p3) f X.env (eval (.Name x p3) X.env) = eval (.Name x p3) X.env := by rfl) : VE X W (.Attribute (.Name x p3) f pos) (mattX i f ok) := by
  refine ⟨⟨fun pins s σ H Q I h => ?_⟩, tp_attX⟩
  obtain ⟨B, Z, ρ, G, q⟩ := h
  unfold mattX at q
  split at q
  · rename_i c fs e
    by_cases hk : ok c = true
    · rw [if_pos hk] at q
      cases el : fs.lookup f with
      | none => rw [el] at q; exact q.elim
      | some d =>
        rw [el] at q
        obtain ⟨D, ns, T, hno⟩ := hx c hk
        have hi : i < σ.length := by rw [← G.len]; exact (List.getElem?_eq_some_iff.mp e).1
        have e1 : σ[i]? = some σ[i] := by simp [hi]
        obtain ⟨a, C, oe, vs, u0, e2, h1, h2, h3, h4, xr⟩ := G.sl i _ _ e1 e
        rw [ns] at h4
        cases h4
        rw [e2] at e1
        cases fs with
        | nil => cases el
        | cons g gs =>
        obtain ⟨dd, us, k1, k2, r, km⟩ := xr
        obtain ⟨v, ev, rv⟩ := lookup_rep r km el
        refine attr_of hb (thn (he.run pins s σ H (fun x H1 => x = .ref a ∧ H1 = H) I ⟨_, e1, rfl, rfl⟩) fun u s1 hh => ?_)
        obtain ⟨y, H1, I1, ry, ey, eH⟩ := hh
        subst ey
        rw [eH] at I1
        obtain rfl : u = Value.ref a := ry
        obtain ⟨ho, _⟩ := I1.hok a _ h1
        obtain ⟨mA, hns, hr⟩ := I1.hok dd _ k2
        obtain ⟨od, hod, hl⟩ := lookIn_ns hns
        obtain ⟨u, hu, ru⟩ := RelO.some_of (v := v) (o := mA f) (by rw [← ev]; exact hr f)
        have J : PySem.W.InstAt s1.heap a oe D (some od) := ⟨ho, h2, by unfold PySem.W.notCls; rw [h3] <;> rfl, by rw [k1]; exact hod⟩
        exact HandSPX.exc_get I1.kIn J T.ga T.gg T.exC (PySem.W.findObj_own T.hdC hno rfl (by rw [hl, hu])) (handed_of ru) ⟨v, H, I1.tok _, ru, q.at G rv⟩
    · rw [if_neg hk] at q
      exact q.elim
  · exact q.elim
end
end VS

set_option Elab.async false
set_option linter.all false
set_option maxRecDepth 100000
set_option maxHeartbeats 2000000
namespace VS
open PySem PySem.Spec L2

/-! ### what a law's head says of an own exception class -/
def hdT (l : List (Str × Bool)) : Str → Option Bool := fun s => l.lookup s
def inT (l : List Str) : Str → Bool := fun s => l.contains s
/-- a class by its name -/
structure XN (K : PySem.W.Frag) (mg : Str → Option Value) (C : Addr) (x : Str) : Prop where
  mg : mg x = some (.ref C)
  ns : PySem.W.nsIn K mainGlobals x = some (some (.ref C))
theorem xn_mk {K : PySem.W.Frag} {h : Heap} {mg : Str → Option Value} {C : Addr} {x : Str} (X : K.In h) (G : h.Ns mainGlobals mg) (a : PySem.W.nsIn K mainGlobals x = some (some (.ref C))) : XN K mg C x := ⟨PySem.W.mg_of X G a, a⟩
def excB (K : PySem.W.Frag) (D : Addr) : Bool :=
  decide (PySem.W.findIn K (.ref D) "__getattribute__" = some (some (.builtin "BaseException.__getattribute__"))) && (decide (PySem.W.findIn K (.ref D) "__getattr__" = some none) && (decide (PySem.W.subIn K (.ref D) (.type "BaseException") = some true) && (PySem.W.hasDictIn K D &&
  (decide (PySem.W.findIn K (.ref D) "__class__" = some (some (.builtin "object.__class__"))) && (decide (PySem.W.specialIn K (.builtin "object.__class__") "__get__" = some (some (.builtin "getset_descriptor.__get__"))) && (decide (PySem.W.takesIn K (.builtin "object.__class__") = some true) && decide (PySem.W.mroIn K D (.type "object") = some true)))))))
theorem excB_ok {K : PySem.W.Frag} {D : Addr} (h : excB K D = true) : ExcC K D := by
  obtain ⟨h1, h⟩ := Bool.and_eq_true_iff.mp h
  obtain ⟨h2, h⟩ := Bool.and_eq_true_iff.mp h
  obtain ⟨h3, h⟩ := Bool.and_eq_true_iff.mp h
  obtain ⟨h4, h⟩ := Bool.and_eq_true_iff.mp h
  obtain ⟨h5, h⟩ := Bool.and_eq_true_iff.mp h
  obtain ⟨h6, h⟩ := Bool.and_eq_true_iff.mp h
  obtain ⟨h7, h8⟩ := Bool.and_eq_true_iff.mp h
  exact ⟨of_decide_eq_true h1, of_decide_eq_true h2, of_decide_eq_true h3, h4, of_decide_eq_true h5, of_decide_eq_true h6, of_decide_eq_true h7, of_decide_eq_true h8⟩
/-- a class whose instances are held -/
structure XH (K : PySem.W.Frag) (mg : Str → Option Value) (C : Addr) (x : Str) : Prop extends XN K mg C x where
  ex : ExcC K C
  kp : PySem.W.keepIn K (.ref C) = true
theorem XH.xf {K : PySem.W.Frag} {mg : Str → Option Value} {C : Addr} {x : Str} (h : XH K mg C x) : XfC K C := ⟨h.ex.hg, h.ex.hk, h.ex.hs, h.ex.hd⟩
/-- .. with an own __init__ -/
structure XI (P : Program) (K : PySem.W.Frag) (mg : Str → Option Value) (C : Addr) (x msg fld par : Str) : Prop extends XH K mg C x where
  ini : XIni P K C msg fld par
/-- .. without one -/
structure X0 (K : PySem.W.Frag) (mg : Str → Option Value) (C : Addr) (x : Str) : Prop extends XH K mg C x where
  q : PySem.W.excIn K C HandSPX.veTail "ValueError.__new__" = true
  ty : PySem.W.typeIn K (.ref C) = some (.type "type")
def xiB (P : Program) (K : PySem.W.Frag) (C fI : Addr) (fld : Str) : Bool :=
  decide (PySem.W.findIn K (.ref C) "__setattr__" = some (some (.builtin "object.__setattr__"))) && (decide (PySem.W.typeIn K (.ref C) = some (.type "type")) && (decide (PySem.W.nsIn K mainGlobals "super" = some none) &&
  (decide (PySem.W.nsIn K cStatics "thirdparty.any" = some none) && (decide (PySem.W.subIn K (.ref C) (.type "ValueError") = some true) && (decide (PySem.W.mroIn K C (.ref C) = some true) && (decide (PySem.W.ks_superIn K C C "__init__" = some (some (.builtin "ValueError.__init__"))) &&
  (decide (PySem.W.findIn K (.ref C) fld = some none) && (!(P.main.scope.names.lookup ("super" : Str)).isSome && (decide (PySem.W.typeIn K (.ref fI) = some (.type "function")) && excB K C)))))))))
theorem xi_mk {P : Program} {K : PySem.W.Frag} {h : Heap} {mg : Str → Option Value} {C fI cda cc N : Addr} {x msg fld par qual nm q file : Str} {st : Stmt} {kV doc pm ct oc ccl cl : Value} {an od cdd cld dd : Option Addr} {vs : Array Value} {tf : Tok} {ccs csl osl : Array (Option Value)}
    {bs bm sub : List Value} {sn : List Str} {ab : Bool} {col : Option Bool} {k0 k1 k2 k3 k5 : Option Value} {j : Nat} {p0 p1 p2 p3 p4 p5 q1 q2 q3 q4 : Pos} {ar : Arg} (X : K.In h) (G : h.Ns mainGlobals mg)
    (a : PySem.W.nsIn K mainGlobals x = some (some (.ref C))) (k : PySem.W.keepIn K (.ref C) = true) (l : K.lookup C = some (excClassObj nm q C N bs bm true sn sub ab col dd k0 k1 k2 k3 k5 "ValueError.__new__")) (r : PySem.HandSPX.refsVE bm = true)
    (i : PySem.W.findIn K (.ref C) "__init__" = some (some (.ref fI))) (b : xiB P K C fI fld = true)
    (f : K.lookup fI = some ⟨oc, od, .func (PySem.W.ksFn "__init__" qual (defArgs st) (defBody st) (defScope st) .none kV doc pm an (.ref cda) ct cc), osl⟩) (c : PySem.W.codeIn K (.ref cda) qual = true) (d : K.lookup cda = some ⟨ccl, cdd, .fields vs, ccs⟩)
    (v : vs[2]? = some (.str file tf)) (w : ((P.main.file : Str) == file) = true) (e : K.lookup cc = some ⟨cl, cld, .cell (some (.ref C)), csl⟩)
    (hb : defBody st = xBody msg fld par j p0 p1 p2 p3 p4 p5 q1 q2 q3 q4) (hh : ((defArgs st).posonlyargs ++ (defArgs st).args).head? = some ar) (hs : ar.arg = "self")
    (hbi : ∀ (a b : Value), bindArgs (PySem.W.ksFn "__init__" qual (defArgs st) (defBody st) (defScope st) .none kV doc pm an (.ref cda) ct cc) ⟨[a, b], []⟩ = pure [(("self" : Str), a), (par, b)])
    (hsc : (defScope st).kind = .function ∧ (defScope st).isGenerator = false ∧ (defScope st).isCoroutine = false ∧ (∀ x ∈ (defScope st).names, x.2 ≠ .cell) ∧ (defScope st).names.lookup ("self" : Str) = some .local ∧ (defScope st).names.lookup par = some .local ∧
      (defScope st).names.lookup ("super" : Str) = some .globalImplicit ∧ (defScope st).names.lookup ("__class__" : Str) = some .free ∧ par ≠ ("self" : Str) ∧ (par == ("__debug__" : Str)) = false ∧ (p2.endLine == p4.line) = true) :
    XI P K mg C x msg fld par := by
  obtain ⟨b1, b⟩ := Bool.and_eq_true_iff.mp b
  obtain ⟨b2, b⟩ := Bool.and_eq_true_iff.mp b
  obtain ⟨b3, b⟩ := Bool.and_eq_true_iff.mp b
  obtain ⟨b4, b⟩ := Bool.and_eq_true_iff.mp b
  obtain ⟨b5, b⟩ := Bool.and_eq_true_iff.mp b
  obtain ⟨b6, b⟩ := Bool.and_eq_true_iff.mp b
  obtain ⟨b7, b⟩ := Bool.and_eq_true_iff.mp b
  obtain ⟨b8, b⟩ := Bool.and_eq_true_iff.mp b
  obtain ⟨b9, b⟩ := Bool.and_eq_true_iff.mp b
  obtain ⟨b10, b11⟩ := Bool.and_eq_true_iff.mp b
  have E := excB_ok b11
  rw [hb] at f hbi
  exact ⟨⟨xn_mk X G a, E, k⟩, ⟨⟨⟨nm, q, N, bs, bm, sn, sub, ab, col, dd, k0, k1, k2, k3, k5, l, r⟩, of_decide_eq_true b1, E.hs, of_decide_eq_true b2, k⟩, of_decide_eq_true b3, of_decide_eq_true b4, of_decide_eq_true b5, of_decide_eq_true b6, of_decide_eq_true b7, of_decide_eq_true b8, by simpa using b9,
    ⟨fI, oc, od, osl, qual, defArgs st, defScope st, .none, kV, doc, pm, ct, an, cda, cc, ar, ccl, cdd, vs, ccs, file, tf, cl, cld, csl, j, p0, p1, p2, p3, p4, p5, q1, q2, q3, q4, i, of_decide_eq_true b10, f, c, d, v, w, e, hh, hs, hbi, hsc⟩⟩⟩
theorem x0_mk {K : PySem.W.Frag} {h : Heap} {mg : Str → Option Value} {C : Addr} {x : Str} (X : K.In h) (G : h.Ns mainGlobals mg) (a : PySem.W.nsIn K mainGlobals x = some (some (.ref C))) (k : PySem.W.keepIn K (.ref C) = true) (b : excB K C = true)
    (q : PySem.W.excIn K C HandSPX.veTail "ValueError.__new__" = true) (t : PySem.W.typeIn K (.ref C) = some (.type "type")) : X0 K mg C x := ⟨⟨xn_mk X G a, excB_ok b, k⟩, q, t⟩

/-! ### tables of classes -/
section
variable {X : Cx} {cv : Value} {c C : Addr} {s f : Str} {b : Bool} {l : List (Str × Bool)} {l' : List Str}
theorem hd_nil : HdOk X cv (hdT []) := fun s b e => by cases e
theorem hd_cons (n : XN X.K X.mg C s) (e : PySem.W.exmOne X.K (.ref C) cv = some b) (h : HdOk X cv (hdT l)) : HdOk X cv (hdT ((s, b) :: l)) := fun s' b' e' => by
  unfold hdT at e'
  rw [List.lookup_cons] at e'
  cases q : (s' == s) with
  | true =>
    rw [q] at e'
    cases e'
    rw [beq_iff_eq.mp q]
    exact ⟨C, n.mg, n.ns, e⟩
  | false =>
    rw [q] at e'
    exact h s' b' e'
theorem is_nil : IsOk X c (hdT []) := fun s b e => by cases e
theorem is_cons (n : XH X.K X.mg C s) (e : PySem.W.kitOne X.K (.ref C) (.ref c) = some b) (h : IsOk X c (hdT l)) : IsOk X c (hdT ((s, b) :: l)) := fun s' b' e' => by
  unfold hdT at e'
  rw [List.lookup_cons] at e'
  cases q : (s' == s) with
  | true =>
    rw [q] at e'
    cases e'
    rw [beq_iff_eq.mp q]
    exact ⟨C, n.ns, n.ex, e⟩
  | false =>
    rw [q] at e'
    exact h s' b' e'
theorem at_nil : AtOk X f (inT []) := fun s e => by cases e
theorem at_cons (n : XH X.K X.mg C s) (e : PySem.W.findIn X.K (.ref C) f = some none) (h : AtOk X f (inT l')) : AtOk X f (inT (s :: l')) := fun s' e' => by
  unfold inT at e'
  rw [List.contains_cons, Bool.or_eq_true] at e'
  rcases e' with q | q
  · rw [beq_iff_eq.mp q]
    exact ⟨C, n.ns, n.xf, e⟩
  · exact h s' q
end
end VS

set_option Elab.async false
set_option linter.all false
set_option maxRecDepth 100000
set_option maxHeartbeats 1000000
/-! zip of a tuple and a list -/
namespace ZTL
open PySem
variable {prog : Program} {w : World} {A : Around} {E : Value → Shared → Prop} {s : Shared}
/-- how a zip over a tuple (by p) and a list (by q) stands -/
structure Stands (z tin tout p q a b i : Addr) (h : Heap) : Prop where
  zip : IsZip h z tin tout .none
  tin : IsPair h tin (.ref p) (.ref q)
  tout : ∃ u v, IsPair h tout u v
  one : h.IsTupleIter p a i
  two : h.IsListIter q b i
/-- one turn of it: a pair, or the end -/
theorem turn {z tin tout p q a b i : Addr} {us vs : Array Value} {Q : Fin → Shared → Prop} (hh : A.handled = none) (D : ZipApart z tin tout p q a b) (st : Stands z tin tout p q a b i s.heap) (la : s.heap.IsTuple a us) (lb : s.heap.IsList b vs)
    (yes : ∀ u v h', us[i]? = some u → vs[i]? = some v → IsZip h' z tin tout (rawInt s.heap.objs.size) → IsPair h' tout u v → h'.IsTupleIter p a (i + 1) → h'.IsListIter q b (i + 1) → IsPair h' s.heap.objs.size u v →
      (∀ c o, c ≠ z → c ≠ tout → c ≠ p → c ≠ q → s.heap.get? c = some o → h'.get? c = some o) → Q (.done (.ret (.ref s.heap.objs.size))) { s with heap := h' })
    (no : us[i]? = none ∨ vs[i]? = none → ∀ h' e, (∀ c o, c ≠ z → c ≠ tout → c ≠ p → c ≠ q → s.heap.get? c = some o → h'.get? c = some o) → (∃ o, h'.get? e = some o ∧ o.cls = .type "StopIteration") → E (.ref e) { s with heap := h' }) :
    wpAny (model prog w) A (Builtin.«zip.__next__» ⟨[.ref z], []⟩) Q E s := by
  obtain ⟨zz, zi, ⟨u0, v0, zo⟩, it1, it2⟩ := st
  show wpAny _ _ (field (.ref z) 2 >>= _) Q E s
  refine wpAny_bind (wpAny_field zz rfl (x := .bool false) rfl (show wpAny _ _ (field (.ref z) 3 >>= _) Q E s from wpAny_bind (wpAny_field zz rfl (x := .ref tin) rfl (wpAny_bind (wpAny_seqItems zi rfl (show wpAny _ _ (Builtin.SmallTypes.ownedTupleIsFree (.ref z) >>= _) Q E s from wpAny_bind ?_))))))
  unfold Builtin.SmallTypes.ownedTupleIsFree
  refine wpAny_bind (wpAny_field zz rfl (x := .none) rfl (wpAny_pure ?_))
  simp only [if_true]
  refine wpAny_bind (wpAny_rule (wpAny_bind (wpAny_field zz rfl (x := .ref tout) rfl (wpAny_bind (wpAny_setField_rec zz (by simp) fun g1 zz1 b1 => ?_)))))
  have zz1 : IsZip g1 z tin tout .ellipsis := zz1
  refine wpAny_bind ?_
  simp only [List.zipIdx_cons, List.zipIdx_nil, List.forIn_cons, List.forIn_nil]
  refine wpAny_bind (wpAny_bind (wpAny_onRaise (show wpAny _ _ (Builtin.SmallTypes.nextOf (.ref p) >>= _) _ _ _ from wpAny_bind ?_)))
  cases hu : us[i]? with
  | none =>
    refine RZ.nextOf_tuple_end hh (it1.extBut b1.extBut D.i1z) (la.extBut b1.extBut D.l1z) hu fun g2 e b2 ⟨oe, eo, ec⟩ => ?_
    have zz2 : IsZip g2 z tin tout .ellipsis := b2 _ _ D.i1z.symm zz1
    have ez : e ≠ z := fun x => by
      rw [x, zz2] at eo
      cases eo
      simp at ec
    exact wpAny_setField_rec zz2 (by simp) fun g3 _ b3 => no (.inl hu) g3 e (fun c o c1 _ c3 _ x => b3.extBut _ _ c1 (b2 _ _ c3 (b1.extBut _ _ c1 x))) ⟨oe, b3.extBut _ _ ez eo, ec⟩
  | some u =>
    refine RZ.nextOf_tuple_item (it1.extBut b1.extBut D.i1z) (la.extBut b1.extBut D.l1z) hu fun g2 n1 b2 => wpAny_pure ?_
    have zo2 : IsPair g2 tout u0 v0 := b2.extBut _ _ D.TOi1 (b1.extBut _ _ D.TOz zo)
    refine wpAny_bind (wpAny_seqItems zo2 rfl (wpAny_bind (wpAny_updateSeq_pair zo2 fun g3 zo3 b3 => wpAny_bind (wpAny_letGo (wpAny_pure ?_)))))
    have zo3 : IsPair g3 tout u v0 := zo3
    have far : ∀ {c o}, c ≠ z → c ≠ tout → c ≠ p → s.heap.get? c = some o → g3.get? c = some o := fun {c o} c1 c2 c3 x => b3.extBut _ _ c2 (b2.extBut _ _ c3 (b1.extBut _ _ c1 x))
    have it3 : g3.IsListIter q b i := it2.at fun o x => far D.i2z D.TOi2.symm D.i12.symm x
    have lb3 : g3.IsList b vs := ((lb.extBut b1.extBut D.l2z).extBut b2.extBut D.l2i1).extBut b3.extBut D.l2TO
    refine wpAny_bind (wpAny_bind (wpAny_onRaise (show wpAny _ _ (Builtin.SmallTypes.nextOf (.ref q) >>= _) _ _ _ from wpAny_bind ?_)))
    cases hv : vs[i]? with
    | none =>
      refine wpAny_nextOf_list_end hh it3 lb3 hv fun g4 e b4 ⟨oe, eo, ec⟩ => ?_
      have zz4 : IsZip g4 z tin tout .ellipsis := b4 _ _ D.i2z.symm (b3.extBut _ _ D.TOz.symm (b2.extBut _ _ D.i1z.symm zz1))
      have ez : e ≠ z := fun x => by
        rw [x, zz4] at eo
        cases eo
        simp at ec
      exact wpAny_setField_rec zz4 (by simp) fun g5 _ b5 => no (.inr hv) g5 e (fun c o c1 c2 c3 c4 x => b5.extBut _ _ c1 (b4 _ _ c4 (far c1 c2 c3 x))) ⟨oe, b5.extBut _ _ ez eo, ec⟩
    | some v =>
      refine wpAny_nextOf_list_item it3 lb3 hv fun g4 n2 b4 => wpAny_pure ?_
      have zo4 : IsPair g4 tout u v0 := b4.extBut _ _ D.TOi2 zo3
      refine wpAny_bind (wpAny_seqItems zo4 rfl (wpAny_bind (wpAny_updateSeq_pair zo4 fun g5 zo5 b5 => wpAny_bind (wpAny_letGo (wpAny_pure (wpAny_pure ?_))))))
      have zo5 : IsPair g5 tout u v := zo5
      refine wpAny_bind (wpAny_seqItems zo5 rfl (wpAny_bind (wpAny_newTuple ?_)))
      have sz : g5.objs.size = s.heap.objs.size := (((b5.1.trans b4.1).trans b3.1).trans b2.1).trans b1.1
      have far5 : ∀ c o, c ≠ z → c ≠ tout → c ≠ p → c ≠ q → s.heap.get? c = some o → g5.get? c = some o := fun c o c1 c2 c3 c4 x => b5.extBut _ _ c2 (b4.extBut _ _ c4 (far c1 c2 c3 x))
      have zz5 : IsZip g5 z tin tout .ellipsis := b5.extBut _ _ D.TOz.symm (b4.extBut _ _ D.i2z.symm (b3.extBut _ _ D.TOz.symm (b2.extBut _ _ D.i1z.symm zz1)))
      have m1 : g5.IsTupleIter p a (i + 1) := ((n1.extBut b3.extBut D.TOi1.symm).extBut b4.extBut D.i12).extBut b5.extBut D.TOi1.symm
      have m2 : g5.IsListIter q b (i + 1) := n2.extBut b5.extBut D.TOi2.symm
      have zl : z < g5.objs.size := Heap.lt_size zz5
      show wpAny _ _ (Builtin.SmallTypes.ownedTupleHandOut (.ref z) (.ref g5.objs.size) >>= _) _ _ _
      refine wpAny_bind ?_
      unfold Builtin.SmallTypes.ownedTupleHandOut
      have zz6 : IsZip (g5.push { cls := .type "tuple", data := .seq #[u, v] }) z tin tout .ellipsis := Heap.get?_push_of_some _ zz5
      refine wpAny_bind (wpAny_setField_rec zz6 (by simp) fun g7 zz7 b7 => ?_)
      have zz7 : IsZip g7 z tin tout (rawInt g5.objs.size) := zz7
      refine wpAny_setField_rec zz7 (by simp) fun g8 zz8 b8 => wpAny_pure ?_
      have zz8 : IsZip g8 z tin tout (rawInt g5.objs.size) := zz8
      have on : ∀ c o, c ≠ z → g5.get? c = some o → g8.get? c = some o := fun c o c1 x => b8.extBut _ _ c1 (b7.extBut _ _ c1 (Heap.get?_push_of_some _ x))
      have pr : IsPair g8 g5.objs.size u v := b8.extBut _ _ (Nat.ne_of_gt zl) (b7.extBut _ _ (Nat.ne_of_gt zl) (Heap.get?_push_size _ rfl))
      show Q (.done (.ret (.ref g5.objs.size))) _
      rw [sz] at zz8 pr ⊢
      exact yes u v g8 hu hv zz8 (on _ _ D.TOz zo5) (m1.at fun o x => on _ o D.i1z x) (m2.at fun o x => on _ o D.i2z x) pr fun c o c1 c2 c3 c4 x => on c o c1 (far5 c o c1 c2 c3 c4 x)
/-- pyNext of it -/
theorem next {z tin tout p q a b i : Addr} {us vs : Array Value} {Q : Option Value → Shared → Prop} (hh : A.handled = none) (D : ZipApart z tin tout p q a b) (st : Stands z tin tout p q a b i s.heap) (la : s.heap.IsTuple a us) (lb : s.heap.IsList b vs)
    (yes : ∀ u v h', us[i]? = some u → vs[i]? = some v → IsZip h' z tin tout (rawInt s.heap.objs.size) → IsPair h' tout u v → h'.IsTupleIter p a (i + 1) → h'.IsListIter q b (i + 1) → IsPair h' s.heap.objs.size u v →
      (∀ c o, c ≠ z → c ≠ tout → c ≠ p → c ≠ q → s.heap.get? c = some o → h'.get? c = some o) → Q (some (.ref s.heap.objs.size)) { s with heap := h' })
    (no : us[i]? = none ∨ vs[i]? = none → ∀ h', (∀ c o, c ≠ z → c ≠ tout → c ≠ p → c ≠ q → s.heap.get? c = some o → h'.get? c = some o) → Q none { s with heap := h' }) : wpAny (model prog w) A (pyNext (.ref z)) Q E s := by
  have ty : s.TypeIs (.ref z) "zip" := ⟨_, st.zip, rfl⟩
  unfold pyNext
  refine wpAny_bind (wpAny_attempt (wpAny_callSpecial?_slot (name := Str.ofString "__next__") ty F.slot_zip_next (wpAny_call_entry F.slot_zip_next ty F.entry_zip_next (turn hh D st la lb (fun u v h' e1 e2 a1 a2 a3 a4 a5 a6 => ?_) fun k h' e hk ⟨o, eo, ec⟩ => ?_) (F.args_zip_next_1 _))))
  · exact ⟨_, rfl, wpAny_pure (yes u v h' e1 e2 a1 a2 a3 a4 a5 a6)⟩
  · exact wpAny_bind (wpAny_isInstance (T := "StopIteration") (b := true) ⟨o, eo, ec⟩ isSubtype_stop (wpAny_pure (no k h' hk)))

abbrev m1 (h : Heap) (a : Addr) : Heap := h.push { cls := .type "tuple_iterator", data := .fields #[.ref a, .int 0 0] }
abbrev m2 (h : Heap) (a b : Addr) : Heap := (m1 h a).push { cls := .type "list_iterator", data := .fields #[.ref b, .int 0 0] }
abbrev m3 (h : Heap) (a b : Addr) : Heap := (m2 h a b).push { cls := .type "tuple", data := .seq #[.ref h.objs.size, .ref (m1 h a).objs.size] }
abbrev m4 (h : Heap) (a b : Addr) : Heap := (m3 h a b).push { cls := .type "tuple", data := .seq #[.none, .none] }
abbrev m5 (h : Heap) (a b : Addr) : Heap := (m4 h a b).push { cls := .type "zip", data := .fields #[.none, .bool false, .bool false, .ref (m2 h a b).objs.size, .ref (m3 h a b).objs.size] }
theorem made (a b : Addr) (us vs : Array Value) : Meets (Builtin.«zip.__new__» ⟨[.type "zip", .ref a, .ref b], []⟩) (fun _ R s => s.heap.IsTuple a us ∧ s.heap.IsList b vs ∧ R (.ok (.ret (.ref (m4 s.heap a b).objs.size))) { s with heap := m5 s.heap a b }) :=
  .of_wp fun prog w A R s h => by
    obtain ⟨hp, g, d, tk, os⟩ := s
    obtain ⟨ha, hb, h⟩ := h
    have sz := sub_zip
    have ta : Heap.IsTuple (Shared.heap ⟨hp, g, d, tk, os⟩) a us := ha
    have tb : Heap.IsList (Shared.heap ⟨m1 hp a, g, d, tk, os⟩) b vs := Heap.IsList.push hb _
    wp_walk using wpAny_pyIter_tuple ta, wpAny_pyIter_list tb
    exact ⟨_, rfl, h⟩
/-- zip(t, l) -/
theorem call {a b : Addr} {us vs : Array Value} {Q : Value → Shared → Prop} (la : s.heap.IsTuple a us) (lb : s.heap.IsList b vs)
    (h : ∀ h', Stands (s.heap.objs.size + 4) (s.heap.objs.size + 2) (s.heap.objs.size + 3) s.heap.objs.size (s.heap.objs.size + 1) a b 0 h' → (∀ c o, s.heap.get? c = some o → h'.get? c = some o) → Q (.ref (s.heap.objs.size + 4)) { s with heap := h' }) :
    wpAny (model prog w) A (PySem.call (.type "zip") [.ref a, .ref b]) Q E s := by
  refine callType_new F.called_zip (by decide) (F.typeCall_zip_2 _ _) (F.newCall_zip_2 _ _) (fun o => F.args_object_init_3 o _ _) F.entry_zip_new (made a b us vs) ⟨la, lb, ?_⟩
  have n1 : (m1 s.heap a).objs.size = s.heap.objs.size + 1 := Heap.size_push ..
  have n2 : (m2 s.heap a b).objs.size = s.heap.objs.size + 2 := (Heap.size_push ..).trans (by rw [n1])
  have n3 : (m3 s.heap a b).objs.size = s.heap.objs.size + 3 := (Heap.size_push ..).trans (by rw [n2])
  have n4 : (m4 s.heap a b).objs.size = s.heap.objs.size + 4 := (Heap.size_push ..).trans (by rw [n3])
  have up : ∀ {h : Heap} {o : Obj} {c : Addr} {x : Obj}, h.get? c = some x → (h.push o).get? c = some x := fun e => Heap.get?_push_of_some _ e
  have at5 : (m5 s.heap a b).get? (m4 s.heap a b).objs.size = some _ := Heap.get?_push_size _ rfl
  have at4 : (m5 s.heap a b).get? (m3 s.heap a b).objs.size = some _ := up (Heap.get?_push_size _ rfl)
  have at3 : (m5 s.heap a b).get? (m2 s.heap a b).objs.size = some _ := up (up (Heap.get?_push_size _ rfl))
  have at2 : (m5 s.heap a b).get? (m1 s.heap a).objs.size = some _ := up (up (up (Heap.get?_push_size _ rfl)))
  have at1 : (m5 s.heap a b).get? s.heap.objs.size = some _ := up (up (up (up (Heap.get?_push_size _ rfl))))
  rw [n4, n2, n3] at at5
  rw [n3] at at4
  rw [n2, n1] at at3
  rw [n1] at at2
  show _ ∧ _
  rw [n4]
  exact ⟨⟨_, at5, rfl⟩, h _ ⟨at5, at3, ⟨_, _, at4⟩, ⟨_, at1, rfl, rfl⟩, ⟨_, at2, rfl, rfl⟩⟩ fun c o x => up (up (up (up (up x))))⟩
end ZTL
namespace VS
open PySem PySem.Spec L2
/-- the pairs -/
def ItTL (K : PySem.W.Frag) (a b : Addr) : It :=
  ⟨fun i H => ∃ (us vs : List V) (x y : V), SqT K H a us ∧ SqL K H b vs ∧ us[i]? = some x ∧ vs[i]? = some y,
    fun i H v H' => ∃ T x y, v = .ref T ∧ H T = none ∧ H' = upd H T (.tup [x, y]) ∧ (∀ us, SqT K H a us → us[i]? = some x) ∧ ∀ vs, SqL K H b vs → vs[i]? = some y,
    fun i H => ∃ us vs : List V, SqT K H a us ∧ SqL K H b vs ∧ (us.length ≤ i ∨ vs.length ≤ i)⟩
theorem five {c z t1 t2 p q : Addr} (h : c ∈ [z, t1, t2, p, q]) : c = z ∨ c = t1 ∨ c = t2 ∨ c = p ∨ c = q := by simpa using h
theorem turn_TL {P : Program} {w : World} {K : PySem.W.Frag} {elts : List Expr} {kk : Nat} {tpos : Pos} {a b z t1 t2 p q : Addr} (D : ZipApart z t1 t2 p q a b) : Turn P w K (.Tuple elts kk tpos) (ItTL K a b) [z, t1, t2, p, q] z (fun i h => ZTL.Stands z t1 t2 p q a b i h) where
  mem := List.mem_cons_self ..
  obj := fun i h st c hc => by
    obtain ⟨u0, v0, zo⟩ := st.tout
    obtain ⟨o1, e1, _, d1⟩ := st.one
    obtain ⟨o2, e2, _, d2⟩ := st.two
    rcases five hc with e | e | e | e | e <;> subst e
    · exact ⟨_, st.zip, fun v k => nomatch k⟩
    · exact ⟨_, st.tin, fun v k => nomatch k⟩
    · exact ⟨_, zo, fun v k => nomatch k⟩
    · exact ⟨o1, e1, fun v k => by rw [d1] at k; cases k⟩
    · exact ⟨o2, e2, fun v k => by rw [d2] at k; cases k⟩
  keep := fun i h h' st k => by
    obtain ⟨u0, v0, zo⟩ := st.tout
    exact ⟨k _ (by simp) _ st.zip, k _ (by simp) _ st.tin, ⟨u0, v0, k _ (by simp) _ zo⟩, st.one.at fun o e => k _ (by simp) o e, st.two.at fun o e => k _ (by simp) o e⟩
  item := by
    rintro X rfl rfl rfl hc i pins s σ H E I hf st ⟨us, vs, x, y, qa, qb, ex, ey⟩
    obtain ⟨ia, ra, pa, _⟩ := I.tuple qa
    obtain ⟨ib, rb, pb, _⟩ := I.list qb
    obtain ⟨u, hu, ru⟩ := ra.get ex
    obtain ⟨v, hv, rv⟩ := rb.get ey
    have zl : z < s.heap.objs.size := Heap.lt_size st.zip
    refine ZTL.next (I.ok.hd hc) D st pa pb.isList (fun u' v' h' k1 k2 z' t' n1 n2 pr far => ?_) fun k => ?_
    · have eu : u' = u := by
        have k1 : ia[i]? = some u' := by simpa using k1
        rw [hu] at k1; exact (Option.some.inj k1).symm
      have ev : v' = v := by
        have k2 : ib[i]? = some v' := by simpa using k2
        rw [hv] at k2; exact (Option.some.inj k2).symm
      subst eu ev
      refine ⟨_, rfl, wpAny_letOwnedTupleGo_zip (s := { s with heap := h' }) z' fun g zg sb => ?_⟩
      have pg : g.get? s.heap.objs.size = some { cls := .type "tuple", data := .seq #[u', v'] } := (sb.2 _ (Nat.ne_of_gt zl)).trans pr
      have J : Inv X pins σ (upd H s.heap.objs.size (.tup [x, y])) { s with heap := g } :=
        I.turnedNew (t' := s.toks) (ch := [z, t1, t2, p, q]) (fun c o hb e => (sb.2 c fun k => hb (by simp [k])).trans (far c o (fun k => hb (by simp [k])) (fun k => hb (by simp [k])) (fun k => hb (by simp [k])) (fun k => hb (by simp [k])) e)) hf (Nat.le_refl _)
          ⟨by show 2 ≤ sizeLine; decide, [u', v'], .cons ru (.cons rv .nil), ⟨_, pg, rfl, _, rfl⟩⟩
      refine ⟨.ref s.heap.objs.size, _, J, rfl, ⟨_, x, y, rfl, I.hok.fresh (Nat.le_refl _), rfl, fun l hl => I.tuple_inj hl qa ▸ ex, fun l hl => I.list_inj hl qb ▸ ey⟩, ⟨zg, (sb.2 _ D.TIz).trans (far _ _ D.TIz D.TITO D.TIi1 D.TIi2 st.tin), ⟨u', v', (sb.2 _ D.TOz).trans t'⟩, n1.at fun o e => (sb.2 _ D.i1z).trans e, n2.at fun o e => (sb.2 _ D.i2z).trans e⟩, fun c hcm => ?_⟩
      obtain ⟨o, eo, _⟩ : ∃ o, s.heap.get? c = some o ∧ True := by
        obtain ⟨u0, v0, zo⟩ := st.tout
        obtain ⟨o1, e1, _⟩ := st.one
        obtain ⟨o2, e2, _⟩ := st.two
        rcases five hcm with e | e | e | e | e <;> subst e
        · exact ⟨_, st.zip, trivial⟩
        · exact ⟨_, st.tin, trivial⟩
        · exact ⟨_, zo, trivial⟩
        · exact ⟨o1, e1, trivial⟩
        · exact ⟨o2, e2, trivial⟩
      rw [upd_ne (Nat.ne_of_lt (Heap.lt_size eo))]
      exact (hf c hcm).1
    · exfalso
      have l1 := (List.getElem?_eq_some_iff.mp hu).1
      have l2 := (List.getElem?_eq_some_iff.mp hv).1
      rcases k with k | k
      · have k : ia[i]? = none := by simpa using k
        rw [hu] at k; cases k
      · have k : ib[i]? = none := by simpa using k
        rw [hv] at k; cases k
  done := by
    rintro X rfl rfl rfl hc i pins s σ H E I hf st ⟨us, vs, qa, qb, en⟩
    obtain ⟨ia, ra, pa, _⟩ := I.tuple qa
    obtain ⟨ib, rb, pb, _⟩ := I.list qb
    have la := ra.length
    have lb := rb.length
    refine ZTL.next (I.ok.hd hc) D st pa pb.isList (fun u' v' h' k1 k2 _ _ _ _ _ _ => ?_) fun k h' far => ⟨rfl, I.turnedL (t' := s.toks) (ch := [z, t1, t2, p, q]) (fun c o hb e => far c o (fun k => hb (by simp [k])) (fun k => hb (by simp [k])) (fun k => hb (by simp [k])) (fun k => hb (by simp [k])) e) hf⟩
    exfalso
    have k1 : ia[i]? = some u' := by simpa using k1
    have k2 : ib[i]? = some v' := by simpa using k2
    have l1 := (List.getElem?_eq_some_iff.mp k1).1
    have l2 := (List.getElem?_eq_some_iff.mp k2).1
    omega
  self := fun A i s Q E st h => wpAny_pyIter_zip st.zip h
def iTL (K : PySem.W.Frag) (ta : TA) : TI := fun σ H R => ta σ H fun ws H1 => ∃ a b us vs, ws = [.ref a, .ref b] ∧ SqT K H1 a us ∧ SqL K H1 b vs ∧ R (ItTL K a b) H1
theorem pi_TL {X : Cx} {e e2 : Expr} {ta : TA} {p pos tpos : Pos} {elts : List Expr} {kk : Nat} (gl : Gl X "zip") (hm : X.mg "zip" = none) (ha : PA X [e, e2] ta) (hs : starEach [e, e2] X.env = (false, eval e X.env) :: starEach [e2] X.env := by rfl) (hpl : (backTo pos (starEach [e2] X.env)).any (·.1) = false := by rfl) :
    PI X (.Tuple elts kk tpos) (.Call (.Name "zip" p) [e, e2] [] pos) (iTL X.K ta) :=
  ⟨fun pins s σ H R I h => PyProof.Rows.Call_ (ld_blt I gl hm PyProof.Rows.boot_zip (PyProof.Rows.callWith_type1 (thn (ha.run pos pins s σ H _ I h) fun ws s1 ⟨xs, H1, J, r, a, b, us, vs, ex, qa, qb, k⟩ => by
    subst ex
    cases r with
    | cons r r' =>
      cases r' with
      | cons r2 r' =>
        cases r'
        cases r
        cases r2
        obtain ⟨ia, ra, pa, _⟩ := J.tuple qa
        obtain ⟨ib, rb, pb, _⟩ := J.list qb
        obtain ⟨o1, ho1, _⟩ := id pa
        refine ZTL.call (show s1.heap.IsTuple a ia.toArray from pa) pb.isList fun h' st on => wpAny_pyIter_zip st.zip ?_
        refine ⟨s1.heap.objs.size + 4, [s1.heap.objs.size + 4, s1.heap.objs.size + 2, s1.heap.objs.size + 3, s1.heap.objs.size, s1.heap.objs.size + 1], _, _, H1, rfl, J.kept (t' := s1.toks) on, turn_TL (PySem.W.ktu_apart s1.heap.objs.size a b (Heap.lt_size ho1) pb.lt), st, fun c hc => ?_, k⟩
        have hle : s1.heap.objs.size ≤ c := by rcases five hc with e | e | e | e | e <;> (rw [e]; first | exact Nat.le_refl _ | exact Nat.le_add_right _ _)
        exact J.fpOk hle (J.hok.fresh hle)) hs hpl))⟩
def mitZtl (f : M (List Op)) : M (List D) := mbind f fun os => match os with
  | [.v (.tuple xs), .v (.list ys)] => mret (zipD xs ys)
  | _ => mno
theorem ie_zipTL {X : Cx} {W : WX} {e e2 : Expr} {g : M (List Op)} {p pos tpos : Pos} {elts : List Expr} {kk : Nat} (gl : Gl X "zip") (hm : X.mg "zip" = none) (ha : VA X W [e, e2] g) (hs : starEach [e, e2] X.env = (false, eval e X.env) :: starEach [e2] X.env := by rfl) (hpl : (backTo pos (starEach [e2] X.env)).any (·.1) = false := by rfl) :
    IE X W (.Tuple elts kk tpos) (.Call (.Name "zip" p) [e, e2] [] pos) (mitZtl g) := by
  refine ⟨PI.imp (pi_TL gl hm ha.pa hs hpl) fun σ H Q ⟨B, Z, ρ, G, q⟩ => ?_, ha.tp.bind fun os => by
    split <;> first | exact .ret _ | exact .no⟩
  refine Post.bind ha.tp G q fun vs H1 Z1 ρ1 os s1 G1 t1 r1 p1 => ?_
  split at p1
  · rename_i xs ys
    cases r1 with
    | cons h1 t =>
      cases t with
      | cons h2 t =>
        cases t
        obtain ⟨a, us, rfl, h1, r⟩ := Rep.asT (show Rep X.K Z1 H1 _ (.tuple xs) from h1)
        obtain ⟨b, ws, rfl, z2, h2, r2⟩ := Rep.asL (show Rep X.K Z1 H1 _ (.list ys) from h2)
        have el : (zipD xs ys).length = min us.length ws.length := by rw [zipD_length, r.length, r2.length]
        have sq : ∀ {Z' H'}, Later Z1 H1 Z' H' → SqL X.K H' b ws := fun l => .inl (.inl (l.keep _ _ z2 h2))
        refine ⟨a, b, us, ws, rfl, h1, .inl (.inl h2), p1.at G1 ⟨fun i Z' H' l hi => ?_, fun i Z' H' x H'' l t hi y => ?_, fun Z' H' l => ?_⟩⟩
        · exact ⟨us, ws, us[i]'(by omega), ws[i]'(by omega), l.sqT h1, sq l, by simp, by simp⟩
        · obtain ⟨T, x1, y1, rfl, hT, rfl, e1, e2⟩ := y
          obtain ⟨d, e3, r3⟩ := r.get' (e1 us (l.sqT h1))
          obtain ⟨d2, e4, r4⟩ := r2.get' (e2 ws (sq l))
          obtain ⟨Z2, x2, t2, r5⟩ := pair_new (K := X.K) hT t (r3.later l) (r4.later l)
          exact ⟨.tuple [d, d2], Z2, zipD_get xs ys i d d2 e3 e4, x2, t2, r5⟩
        · exact ⟨us, ws, l.sqT h1, sq l, by omega⟩
  · exact p1.elim
end VS

set_option Elab.async false
set_option linter.all false
set_option maxRecDepth 100000
namespace VS
open PySem PySem.Spec L2
/-! ### x is True, x is not True: x a truth value -/
theorem op_isB {X : Cx} : OpR X (compareOp .Is) (fun x y H Q => ∃ i j, x = .bl i ∧ y = .bl j ∧ Q (.bl (decide (i = j))) H) := by
  intro pins s σ H x y v u Q I rx ry h
  obtain ⟨i, j, rfl, rfl, q⟩ := h
  cases rx
  cases ry
  exact PyProof.Rows.is_bool (fin_bl I q (by cases i <;> cases j <;> rfl))
theorem op_notB {X : Cx} : OpR X (compareOp .IsNot) (fun x y H Q => ∃ i j, x = .bl i ∧ y = .bl j ∧ Q (.bl (!decide (i = j))) H) := by
  intro pins s σ H x y v u Q I rx ry h
  obtain ⟨i, j, rfl, rfl, q⟩ := h
  cases rx
  cases ry
  by_cases e : i = j
  · subst e
    exact wpAny_isNot_self (by cases i <;> rfl) (fin_bl I q (by rw [decide_eq_true rfl]; rfl))
  · exact wpAny_isNot_other (by cases i <;> cases j <;> rfl) (fun z => e (Value.bool.inj z)) (fin_bl I q (by rw [decide_eq_false e]; rfl))
def gIsB : D → D → Option D
  | .bool i, .bool j => some (.bool (decide (i = j)))
  | _, _ => none
def gNotB : D → D → Option D
  | .bool i, .bool j => some (.bool (!decide (i = j)))
  | _, _ => none
theorem RepB.isB {K : PySem.W.Frag} {Z : Addr → Prop} {H : Hp} {x : V} {i : Bool} (r : RepB K Z H x (.bool i)) : x = .bl i := by
  rcases r with r | ⟨a, _, c⟩
  · cases r; rfl
  · exact c.elim
theorem opd_isB {K : PySem.W.Frag} : OpD K (fun x y H Q => ∃ i j, x = .bl i ∧ y = .bl j ∧ Q (.bl (decide (i = j))) H) gIsB := by
  intro Z H x y a b d Q ra rb t e k
  unfold gIsB at e
  split at e
  · cases e; exact ⟨_, _, ra.isB, rb.isB, k _ H Z .refl t (.bl _)⟩
  · cases e
theorem opd_notB {K : PySem.W.Frag} : OpD K (fun x y H Q => ∃ i j, x = .bl i ∧ y = .bl j ∧ Q (.bl (!decide (i = j))) H) gNotB := by
  intro Z H x y a b d Q ra rb t e k
  unfold gNotB at e
  split at e
  · cases e; exact ⟨_, _, ra.isB, rb.isB, k _ H Z .refl t (.bl _)⟩
  · cases e
section
variable {X : Cx} {W : WX} {a b : Expr} {fa fb : M Op} {pos : Pos}
theorem v_isB (ha : BE X W a fa) (hb : BE X W b fb) : VE X W (.Compare a [.Is] [b] pos) (mbin gIsB fa fb) := ve_cmp op_isB opd_isB ha hb (nomark _)
theorem t_isB (ha : BE X W a fa) (hb : BE X W b fb) : VT X W (.Compare a [.Is] [b] pos) (mtest (mbin gIsB fa fb)) := vt_cmp op_isB opd_isB ha hb (nomark _)
theorem v_isnotB (ha : BE X W a fa) (hb : BE X W b fb) : VE X W (.Compare a [.IsNot] [b] pos) (mbin gNotB fa fb) := ve_cmp op_notB opd_notB ha hb (nomark _)
theorem t_isnotB (ha : BE X W a fa) (hb : BE X W b fb) : VT X W (.Compare a [.IsNot] [b] pos) (mtest (mbin gNotB fa fb)) := vt_cmp op_notB opd_notB ha hb (nomark _)
end
end VS

set_option Elab.async false
set_option linter.all false
set_option maxRecDepth 100000
namespace G
open PySem L2 VS
def si_NoLine : Stmt := match PySem.Challenge.pw_answercut_k14_whole_line_or_triad.main.body.getD 2 (.Pass ⟨0, 0, 0, 0⟩) with
  | .ClassDef (body := b) .. => b.getD 0 (.Pass ⟨0, 0, 0, 0⟩)
  | s => s
/-! ### names_by_table -/
abbrev s_names_by_table : Stmt := PySem.Challenge.pw_answercut_k14_whole_line_or_triad.main.body.getD 4 (.Pass ⟨0, 0, 0, 0⟩)
def t_names_by_table : SM := (sseq (sbind (mdc (mitT (mbin dIx (mopd 0) (mv (mret (.int 1))))) (mTup [(mName 2), (mName 3)]) (mret true) (mvar 2) (mlc (mitT (mvar 3)) (mName 1) (mtest (misi "str" (mopd 1))) (mvar 1) [1]) [2, 3]) fun d ρ => .ret (.own d) ρ)
  snext)
def F_names_by_table : Fn := mkF [] 1 4 t_names_by_table
theorem sc_names_by_table : FnScope ["question", "part", "table", "parts"] ["question"] (defScope s_names_by_table) := ⟨rfl, rfl, rfl, by decide +kernel, rfl, by decide +kernel, by decide +kernel⟩
theorem ok_names_by_table {P : Program} {w : World} {K : PySem.W.Frag} {mg : Str → Option Value} {base : Heap} {fa : Addr} {fd : FuncData} (b_ : Bi mg) (sys : ∃ o, base.get? sysModules = some o) (F : Fun K "names_by_table" "names_by_table" s_names_by_table fa fd) (hm : mg "names_by_table" = some (.ref fa)) (hb : Binds K fd ["question"] [])   :
    FnD P w K mg base 1 "names_by_table" ["question"] F_names_by_table :=
  fn_d (t := t_names_by_table) F sc_names_by_table [] hm hb sys fun cdv A out s H E c_ => by
    unfold t_names_by_table
    exact (dss_cons (ds_retF (fe_dc (ts := [2, 3]) (own := [("table", 2), ("parts", 3)]) c_.toC1.calm c_.toC1.nd ⟨(ie_tup (ve_ix (c_.toC1.u 1) (be_pv (pv 0)) (be_ve ve_int))), blkOk_by (by kernel_rfl), rfl, (by decide), fun s_ H_ C_0 cl_ fp_ => (ge_tup (c_.toC1.blk _ s_ H_ C_0 cl_ fp_).calm (ges_cons (ge_name (c_.toC1.blk _ s_ H_ C_0 cl_ fp_).nd rfl (by first | exact .inl rfl | exact .inr rfl)) (ges_cons (ge_name (c_.toC1.blk _ s_ H_ C_0 cl_ fp_).nd rfl (by first | exact .inl rfl | exact .inr rfl)) ges_nil))), fun s_ H_ C_0 cl_ fp_ => vts_nil, fun s_ H_ C_0 cl_ fp_ => (ve_pv (pv 2)), fun s_ H_ C_0 cl_ fp_ => (ve_fe (fe_lc (ts := [1]) (own := [("part", 1)]) (c_.toC1.blk _ s_ H_ C_0 cl_ fp_).calm (c_.toC1.blk _ s_ H_ C_0 cl_ fp_).nd ⟨(ie_tup (ve_pv (pv 3))), blkOk_by (by kernel_rfl), rfl, (by decide), fun s_ H_ C_0 cl_ fp_ => (ge_name ((c_.toC1.blk _ s_ H_ C_0 cl_ fp_).blk _ s_ H_ C_0 cl_ fp_).nd rfl (by first | exact .inl rfl | exact .inr rfl)), fun s_ H_ C_0 cl_ fp_ => (vts_one (vt_val (ve_isi ka_str (by rfl) b_.isinstance (by rfl) b_.str (by decide +kernel) (be_pv (pv 1))))), fun s_ H_ C_0 cl_ fp_ => (ve_pv (pv 1))⟩))⟩))
      dss_nil)
/-! ### reached -/
abbrev s_reached : Stmt := PySem.Challenge.pw_answercut_k14_whole_line_or_triad.main.body.getD 5 (.Pass ⟨0, 0, 0, 0⟩)
def t_reached : SM := (sseq (ssetF 3 (mdisp [((mvar 1), (mret .none))]))
  (sseq (ssetF 4 (mlst (mcons (mopd 1) mnil)))
  (sseq (sset 5 (mret (.int 0)))
  (sseq (swhile (mtest (mbin dLt (mopd 5) (mv (mcb gLen (mcons (mopd 4) mnil))))) (sseq (sset 6 (mlc (mitL (mbin dIx (mopd 0) (mv (mbin dIx (mopd 4) (mopd 5))))) (mName 9) (mtest (mbin dNotIn (mopd 9) (mopd 2))) (mvar 9) [9]))
  (sseq (sfor (mitI (mvar 0)) (mTup [(mName 7), (mName 8)]) (sseq (sif (mandT (mtest (mbin dNotIn (mopd 7) (mopd 3))) (mtest (mcb gAny (mcons (mv (mlc (mitL (mvar 8)) (mName 9) (mret true) (mbin dIn (mopd 9) (mopd 6)) [9])) mnil)))) (sseq (sputD 3 (mbin dIx (mopd 4) (mopd 5)) (mvar 7))
  (sseq (sbind (mmut 4 "list" gAppend (mcons (mopd 7) mnil)) fun _ => snext)
  snext)) snext)
  snext))
  (sseq (saugI 5 (· + ·) (mret (.int 1)))
  snext))) 100)
  (sseq (sretv 3)
  snext)))))
def F_reached : Fn := mkF [] 3 10 t_reached
theorem sc_reached : FnScope ["names", "start", "without", "found", "rows", "place", "own", "table", "others", "name"] ["names", "start", "without"] (defScope s_reached) := ⟨rfl, rfl, rfl, by decide +kernel, rfl, by decide +kernel, by decide +kernel⟩
theorem ok_reached {P : Program} {w : World} {K : PySem.W.Frag} {mg : Str → Option Value} {base : Heap} {fa : Addr} {fd : FuncData} (b_ : Bi mg) (sys : ∃ o, base.get? sysModules = some o) (F : Fun K "reached" "reached" s_reached fa fd) (hm : mg "reached" = some (.ref fa)) (hb : Binds K fd ["names", "start", "without"] [])   :
    FnD P w K mg base 1 "reached" ["names", "start", "without"] F_reached :=
  fn_d (t := t_reached) F sc_reached [] hm hb sys fun cdv A out s H E c_ => by
    unfold t_reached
    exact (dss_cons (ds_setF c_.toC1.nd rfl (by first | exact .inl rfl | exact .inr rfl) (by decide) (fe_disp (de_cons (ve_pv (pv 1)) ve_non de_nil) (fun q h => by cases List.mem_singleton.mp h; exact ⟨.var _, .ret _⟩)))
      (dss_cons (ds_setF c_.toC1.nd rfl (by first | exact .inl rfl | exact .inr rfl) (by decide) (fe_lst (va_cons (be_pv (pv 1)) va_nil)))
      (dss_cons (ds_set c_.toC1.nd rfl (by first | exact .inl rfl | exact .inr rfl) (by decide) ve_int)
      (dss_cons (ds_while 100 c_.po (t_lt (be_pv (pv 5)) (be_ve (v_len b_ (by rfl) (va_cons (be_pv (pv 4)) va_nil)))) (dss_cons (ds_set c_.toC1.nd rfl (by first | exact .inl rfl | exact .inr rfl) (by decide) (ve_fe (fe_lc (ts := [9]) (own := [("name", 9)]) c_.toC1.calm c_.toC1.nd ⟨(ie_list (ve_ix (c_.toC1.u 1) (be_pv (pv 0)) (be_ve (ve_ix (c_.toC1.u 1) (be_pv (pv 4)) (be_pv (pv 5)))))), blkOk_by (by kernel_rfl), rfl, (by decide), fun s_ H_ C_0 cl_ fp_ => (ge_name (c_.toC1.blk _ s_ H_ C_0 cl_ fp_).nd rfl (by first | exact .inl rfl | exact .inr rfl)), fun s_ H_ C_0 cl_ fp_ => (vts_one (t_nin (c_.toC1.blk _ s_ H_ C_0 cl_ fp_) (be_pv (pv 9)) (be_pv (pv 2)))), fun s_ H_ C_0 cl_ fp_ => (ve_pv (pv 9))⟩)))
      (dss_cons (ds_for c_.po c_.toC1.calm (by decide) (ie_items (ve_pv (pv 0))) (ge_tup c_.toC1.calm (ges_cons (ge_name c_.toC1.nd rfl (by first | exact .inl rfl | exact .inr rfl)) (ges_cons (ge_name c_.toC1.nd rfl (by first | exact .inl rfl | exact .inr rfl)) ges_nil))) (dss_cons (ds_if (vw_and (t_nin c_.toC1 (be_pv (pv 7)) (be_pv (pv 3))) (vw_and1 (vt_val (v_any c_.toC1 b_ (by rfl) (va_cons (be_ve (ve_fe (fe_lc (ts := [9]) (own := [("name", 9)]) c_.toC1.calm c_.toC1.nd ⟨(ie_list (ve_pv (pv 8))), blkOk_by (by kernel_rfl), rfl, (by decide), fun s_ H_ C_0 cl_ fp_ => (ge_name (c_.toC1.blk _ s_ H_ C_0 cl_ fp_).nd rfl (by first | exact .inl rfl | exact .inr rfl)), fun s_ H_ C_0 cl_ fp_ => vts_nil, fun s_ H_ C_0 cl_ fp_ => (v_in (c_.toC1.blk _ s_ H_ C_0 cl_ fp_) (be_pv (pv 9)) (be_pv (pv 6)))⟩))) va_nil))))).vt (dss_cons (ds_putD (c_.toC1.u 1) (ve_ix (c_.toC1.u 1) (be_pv (pv 4)) (be_pv (pv 5))) (pv 3) (ve_pv (pv 7)))
      (dss_cons (ds_expr (ve_mut PySem.F.plainAttrs_list PySem.F.slot_list_append PySem.F.type_list_append mt_append md_append (pv 4) (va_cons (be_pv (pv 7)) va_nil)))
      dss_nil)) dss_nil)
      dss_nil))
      (dss_cons (ds_augAdd c_.toC1.nd rfl (by first | exact .inl rfl | exact .inr rfl) (by decide) ve_int)
      dss_nil))))
      (dss_cons (ds_retv (pv 3) (by decide))
      dss_nil)))))
/-! ### lie_in -/
abbrev s_lie_in : Stmt := PySem.Challenge.pw_answercut_k14_whole_line_or_triad.main.body.getD 7 (.Pass ⟨0, 0, 0, 0⟩)
def t_lie_in : SM := (sseq (sbind (mcb gAll (mcons (mv (mlc (mitL (mvar 0)) (mName 2) (mret true) (mbin dIn (mopd 2) (mopd 1)) [2])) mnil)) fun d ρ => .ret (.val d) ρ)
  snext)
def F_lie_in : Fn := mkF [] 2 3 t_lie_in
theorem sc_lie_in : FnScope ["some", "others", "name"] ["some", "others"] (defScope s_lie_in) := ⟨rfl, rfl, rfl, by decide +kernel, rfl, by decide +kernel, by decide +kernel⟩
theorem ok_lie_in {P : Program} {w : World} {K : PySem.W.Frag} {mg : Str → Option Value} {base : Heap} {fa : Addr} {fd : FuncData} (b_ : Bi mg) (sys : ∃ o, base.get? sysModules = some o) (F : Fun K "lie_in" "lie_in" s_lie_in fa fd) (hm : mg "lie_in" = some (.ref fa)) (hb : Binds K fd ["some", "others"] [])   :
    FnD P w K mg base 1 "lie_in" ["some", "others"] F_lie_in :=
  fn_d (t := t_lie_in) F sc_lie_in [] hm hb sys fun cdv A out s H E c_ => by
    unfold t_lie_in
    exact (dss_cons (ds_ret (v_all c_.toC1 b_ (by rfl) (va_cons (be_ve (ve_fe (fe_lc (ts := [2]) (own := [("name", 2)]) c_.toC1.calm c_.toC1.nd ⟨(ie_list (ve_pv (pv 0))), blkOk_by (by kernel_rfl), rfl, (by decide), fun s_ H_ C_0 cl_ fp_ => (ge_name (c_.toC1.blk _ s_ H_ C_0 cl_ fp_).nd rfl (by first | exact .inl rfl | exact .inr rfl)), fun s_ H_ C_0 cl_ fp_ => vts_nil, fun s_ H_ C_0 cl_ fp_ => (v_in (c_.toC1.blk _ s_ H_ C_0 cl_ fp_) (be_pv (pv 2)) (be_pv (pv 1)))⟩))) va_nil)))
      dss_nil)
/-! ### does_part -/
abbrev s_does_part : Stmt := PySem.Challenge.pw_answercut_k14_whole_line_or_triad.main.body.getD 8 (.Pass ⟨0, 0, 0, 0⟩)
def t_does_part : SM := (sseq (sbind (mbin dNotIn (mopd 3) (mv (mcallF F_reached (mcons (mopd 0) (mcons (mopd 1) (mcons (mv (mbin dIx (mopd 0) (mopd 2))) mnil)))))) fun d ρ => .ret (.val d) ρ)
  snext)
def F_does_part : Fn := mkF [] 4 4 t_does_part
theorem sc_does_part : FnScope ["names", "one", "middle", "other"] ["names", "one", "middle", "other"] (defScope s_does_part) := ⟨rfl, rfl, rfl, by decide +kernel, rfl, by decide +kernel, by decide +kernel⟩
theorem ok_does_part {P : Program} {w : World} {K : PySem.W.Frag} {mg : Str → Option Value} {base : Heap} {fa : Addr} {fd : FuncData} (b_ : Bi mg) (sys : ∃ o, base.get? sysModules = some o) (F : Fun K "does_part" "does_part" s_does_part fa fd) (hm : mg "does_part" = some (.ref fa)) (hb : Binds K fd ["names", "one", "middle", "other"] [])  (h_reached : FnD P w K mg base 1 "reached" ["names", "start", "without"] F_reached) :
    FnD P w K mg base 2 "does_part" ["names", "one", "middle", "other"] F_does_part :=
  fn_d (t := t_does_part) F sc_does_part [] hm hb sys fun cdv A out s H E c_ => by
    unfold t_does_part
    exact (dss_cons (ds_ret (v_nin c_.toC1 (be_pv (pv 3)) (be_ve (ve_fe (fe_call (h_reached.mono (by decide)) c_.toC1 (by rfl) (va_cons (be_pv (pv 0)) (va_cons (be_pv (pv 1)) (va_cons (be_ve (ve_ix (c_.toC1.u 1) (be_pv (pv 0)) (be_pv (pv 2)))) va_nil))))))))
      dss_nil)
/-! ### loose_tables -/
abbrev s_loose_tables : Stmt := PySem.Challenge.pw_answercut_k14_whole_line_or_triad.main.body.getD 9 (.Pass ⟨0, 0, 0, 0⟩)
def t_loose_tables : SM := (sseq (sbind (mcb gTup (mcons (mv (mlc (mitT (mbin dIx (mopd 0) (mv (mret (.int 1))))) (mTup [(mName 2), (mName 3)]) (mtest (mbin gNotN (mv (mbin dIx (mopd 1) (mopd 2))) (mv (mret .none)))) (mvar 2) [2, 3])) mnil)) fun d ρ => .ret (.val d) ρ)
  snext)
def F_loose_tables : Fn := mkF [] 2 4 t_loose_tables
theorem sc_loose_tables : FnScope ["question", "prices", "table", "parts"] ["question", "prices"] (defScope s_loose_tables) := ⟨rfl, rfl, rfl, by decide +kernel, rfl, by decide +kernel, by decide +kernel⟩
theorem ok_loose_tables {P : Program} {w : World} {K : PySem.W.Frag} {mg : Str → Option Value} {base : Heap} {fa : Addr} {fd : FuncData} (b_ : Bi mg) (sys : ∃ o, base.get? sysModules = some o) (F : Fun K "loose_tables" "loose_tables" s_loose_tables fa fd) (hm : mg "loose_tables" = some (.ref fa)) (hb : Binds K fd ["question", "prices"] [])   :
    FnD P w K mg base 1 "loose_tables" ["question", "prices"] F_loose_tables :=
  fn_d (t := t_loose_tables) F sc_loose_tables [] hm hb sys fun cdv A out s H E c_ => by
    unfold t_loose_tables
    exact (dss_cons (ds_ret (v_tuple b_ (by rfl) (va_cons (be_ve (ve_fe (fe_lc (ts := [2, 3]) (own := [("table", 2), ("parts", 3)]) c_.toC1.calm c_.toC1.nd ⟨(ie_tup (ve_ix (c_.toC1.u 1) (be_pv (pv 0)) (be_ve ve_int))), blkOk_by (by kernel_rfl), rfl, (by decide), fun s_ H_ C_0 cl_ fp_ => (ge_tup (c_.toC1.blk _ s_ H_ C_0 cl_ fp_).calm (ges_cons (ge_name (c_.toC1.blk _ s_ H_ C_0 cl_ fp_).nd rfl (by first | exact .inl rfl | exact .inr rfl)) (ges_cons (ge_name (c_.toC1.blk _ s_ H_ C_0 cl_ fp_).nd rfl (by first | exact .inl rfl | exact .inr rfl)) ges_nil))), fun s_ H_ C_0 cl_ fp_ => (vts_one (t_isnot (be_ve (ve_ix ((c_.toC1.blk _ s_ H_ C_0 cl_ fp_).u 1) (be_pv (pv 1)) (be_pv (pv 2)))) (be_ve ve_non))), fun s_ H_ C_0 cl_ fp_ => (ve_pv (pv 2))⟩))) va_nil)))
      dss_nil)
/-! ### does_rule -/
abbrev s_does_rule : Stmt := PySem.Challenge.pw_answercut_k14_whole_line_or_triad.main.body.getD 10 (.Pass ⟨0, 0, 0, 0⟩)
def t_does_rule : SM := (sseq (sset 4 (mcallF F_names_by_table (mcons (mopd 0) mnil)))
  (sseq (sif (morT (mtest (mbin dEq (mopd 2) (mopd 3))) (morT (mnotT (mtest (mcallV F_lie_in (mcons (mv (mbin dIx (mopd 4) (mopd 2))) (mcons (mv (mbin dIx (mopd 4) (mopd 3))) mnil))))) (mtest (mbin dGt (mv (mbin dIx (mopd 1) (mopd 2))) (mv (mbin dIx (mopd 1) (mopd 3))))))) (sseq (sbind (mret (.bool false)) fun d ρ => .ret (.val d) ρ)
  snext) snext)
  (sseq (sif (mtest (mbin dNotIn (mopd 3) (mv (mcallF F_reached (mcons (mopd 4) (mcons (mopd 2) (mcons (mv (mlst mnil)) mnil))))))) (sseq (sbind (mret (.bool false)) fun d ρ => .ret (.val d) ρ)
  snext) snext)
  (sseq (sif (mandT (mtest (mcallV F_lie_in (mcons (mv (mbin dIx (mopd 4) (mopd 3))) (mcons (mv (mbin dIx (mopd 4) (mopd 2))) mnil)))) (mtest (mbin dEq (mv (mbin dIx (mopd 1) (mopd 2))) (mv (mbin dIx (mopd 1) (mopd 3)))))) (sseq (sset 5 (mcb gListA (mcons (mopd 4) mnil)))
  (sseq (sbind (mbin dLt (mv (mmeth gIndex (mopd 5) (mcons (mopd 2) mnil))) (mv (mmeth gIndex (mopd 5) (mcons (mopd 3) mnil)))) fun d ρ => .ret (.val d) ρ)
  snext)) snext)
  (sseq (sbind (mret (.bool true)) fun d ρ => .ret (.val d) ρ)
  snext)))))
def F_does_rule : Fn := mkF [] 4 6 t_does_rule
theorem sc_does_rule : FnScope ["question", "prices", "one", "other", "names", "order"] ["question", "prices", "one", "other"] (defScope s_does_rule) := ⟨rfl, rfl, rfl, by decide +kernel, rfl, by decide +kernel, by decide +kernel⟩
theorem ok_does_rule {P : Program} {w : World} {K : PySem.W.Frag} {mg : Str → Option Value} {base : Heap} {fa : Addr} {fd : FuncData} (b_ : Bi mg) (sys : ∃ o, base.get? sysModules = some o) (F : Fun K "does_rule" "does_rule" s_does_rule fa fd) (hm : mg "does_rule" = some (.ref fa)) (hb : Binds K fd ["question", "prices", "one", "other"] [])  (h_names_by_table : FnD P w K mg base 1 "names_by_table" ["question"] F_names_by_table) (h_lie_in : FnD P w K mg base 1 "lie_in" ["some", "others"] F_lie_in) (h_reached : FnD P w K mg base 1 "reached" ["names", "start", "without"] F_reached) :
    FnD P w K mg base 2 "does_rule" ["question", "prices", "one", "other"] F_does_rule :=
  fn_d (t := t_does_rule) F sc_does_rule [] hm hb sys fun cdv A out s H E c_ => by
    unfold t_does_rule
    exact (dss_cons (ds_set c_.toC1.nd rfl (by first | exact .inl rfl | exact .inr rfl) (by decide) (ve_fe (fe_call (h_names_by_table.mono (by decide)) c_.toC1 (by rfl) (va_cons (be_pv (pv 0)) va_nil))))
      (dss_cons (ds_if (vw_or (t_eq c_.toC1 (be_pv (pv 2)) (be_pv (pv 3))) (vw_or (vt_not (vt_val (ve_call (h_lie_in.mono (by decide)) c_.toC1 (by rfl) (va_cons (be_ve (ve_ix (c_.toC1.u 1) (be_pv (pv 4)) (be_pv (pv 2)))) (va_cons (be_ve (ve_ix (c_.toC1.u 1) (be_pv (pv 4)) (be_pv (pv 3)))) va_nil))))) (vw_or1 (t_gt (be_ve (ve_ix (c_.toC1.u 1) (be_pv (pv 1)) (be_pv (pv 2)))) (be_ve (ve_ix (c_.toC1.u 1) (be_pv (pv 1)) (be_pv (pv 3)))))))).vt (dss_cons (ds_ret ve_bl)
      dss_nil) dss_nil)
      (dss_cons (ds_if (t_nin c_.toC1 (be_pv (pv 3)) (be_ve (ve_fe (fe_call (h_reached.mono (by decide)) c_.toC1 (by rfl) (va_cons (be_pv (pv 4)) (va_cons (be_pv (pv 2)) (va_cons (be_ve (ve_lst va_nil)) va_nil))))))) (dss_cons (ds_ret ve_bl)
      dss_nil) dss_nil)
      (dss_cons (ds_if (vw_and (vt_val (ve_call (h_lie_in.mono (by decide)) c_.toC1 (by rfl) (va_cons (be_ve (ve_ix (c_.toC1.u 1) (be_pv (pv 4)) (be_pv (pv 3)))) (va_cons (be_ve (ve_ix (c_.toC1.u 1) (be_pv (pv 4)) (be_pv (pv 2)))) va_nil)))) (vw_and1 (t_eq c_.toC1 (be_ve (ve_ix (c_.toC1.u 1) (be_pv (pv 1)) (be_pv (pv 2)))) (be_ve (ve_ix (c_.toC1.u 1) (be_pv (pv 1)) (be_pv (pv 3))))))).vt (dss_cons (ds_set c_.toC1.nd rfl (by first | exact .inl rfl | exact .inr rfl) (by decide) (ve_fe (f_list c_.toC1 b_ (by rfl) (va_cons (be_pv (pv 4)) va_nil))))
      (dss_cons (ds_ret (v_lt (be_ve (ve_index (be_pv (pv 5)) (va_cons (be_pv (pv 2)) va_nil))) (be_ve (ve_index (be_pv (pv 5)) (va_cons (be_pv (pv 3)) va_nil)))))
      dss_nil)) dss_nil)
      (dss_cons (ds_ret ve_bl)
      dss_nil)))))
/-! ### ruling -/
abbrev s_ruling : Stmt := PySem.Challenge.pw_answercut_k14_whole_line_or_triad.main.body.getD 11 (.Pass ⟨0, 0, 0, 0⟩)
def t_ruling : SM := (sseq (sset 2 (mcallV F_loose_tables (mcons (mopd 0) (mcons (mopd 1) mnil))))
  (sseq (sbind (mcb gTup (mcons (mv (mlc (mitT (mvar 2)) (mName 3) (mnotT (mtest (mcb gAny (mcons (mv (mlc (mitT (mvar 2)) (mName 4) (mret true) (mcallV F_does_rule (mcons (mopd 0) (mcons (mopd 1) (mcons (mopd 4) (mcons (mopd 3) mnil))))) [4])) mnil)))) (mvar 3) [3])) mnil)) fun d ρ => .ret (.val d) ρ)
  snext))
def F_ruling : Fn := mkF [] 2 5 t_ruling
theorem sc_ruling : FnScope ["question", "prices", "some", "table", "one"] ["question", "prices"] (defScope s_ruling) := ⟨rfl, rfl, rfl, by decide +kernel, rfl, by decide +kernel, by decide +kernel⟩
theorem ok_ruling {P : Program} {w : World} {K : PySem.W.Frag} {mg : Str → Option Value} {base : Heap} {fa : Addr} {fd : FuncData} (b_ : Bi mg) (sys : ∃ o, base.get? sysModules = some o) (F : Fun K "ruling" "ruling" s_ruling fa fd) (hm : mg "ruling" = some (.ref fa)) (hb : Binds K fd ["question", "prices"] [])  (h_loose_tables : FnD P w K mg base 1 "loose_tables" ["question", "prices"] F_loose_tables) (h_does_rule : FnD P w K mg base 2 "does_rule" ["question", "prices", "one", "other"] F_does_rule) :
    FnD P w K mg base 3 "ruling" ["question", "prices"] F_ruling :=
  fn_d (t := t_ruling) F sc_ruling [] hm hb sys fun cdv A out s H E c_ => by
    unfold t_ruling
    exact (dss_cons (ds_set c_.toC1.nd rfl (by first | exact .inl rfl | exact .inr rfl) (by decide) (ve_call (h_loose_tables.mono (by decide)) c_.toC1 (by rfl) (va_cons (be_pv (pv 0)) (va_cons (be_pv (pv 1)) va_nil))))
      (dss_cons (ds_ret (v_tuple b_ (by rfl) (va_cons (be_ve (ve_fe (fe_lc (ts := [3]) (own := [("table", 3)]) c_.toC1.calm c_.toC1.nd ⟨(ie_tup (ve_pv (pv 2))), blkOk_by (by kernel_rfl), rfl, (by decide), fun s_ H_ C_0 cl_ fp_ => (ge_name (c_.toC1.blk _ s_ H_ C_0 cl_ fp_).nd rfl (by first | exact .inl rfl | exact .inr rfl)), fun s_ H_ C_0 cl_ fp_ => (vts_one (vt_not (vt_val (v_any (c_.toC1.blk _ s_ H_ C_0 cl_ fp_) b_ (by rfl) (va_cons (be_ve (ve_fe (fe_lc (ts := [4]) (own := [("one", 4)]) (c_.toC1.blk _ s_ H_ C_0 cl_ fp_).calm (c_.toC1.blk _ s_ H_ C_0 cl_ fp_).nd ⟨(ie_tup (ve_pv (pv 2))), blkOk_by (by kernel_rfl), rfl, (by decide), fun s_ H_ C_0 cl_ fp_ => (ge_name ((c_.toC1.blk _ s_ H_ C_0 cl_ fp_).blk _ s_ H_ C_0 cl_ fp_).nd rfl (by first | exact .inl rfl | exact .inr rfl)), fun s_ H_ C_0 cl_ fp_ => vts_nil, fun s_ H_ C_0 cl_ fp_ => (ve_call (h_does_rule.mono (by decide)) ((c_.toC1.blk _ s_ H_ C_0 cl_ fp_).blk _ s_ H_ C_0 cl_ fp_) (by rfl) (va_cons (be_pv (pv 0)) (va_cons (be_pv (pv 1)) (va_cons (be_pv (pv 4)) (va_cons (be_pv (pv 3)) va_nil)))))⟩))) va_nil))))), fun s_ H_ C_0 cl_ fp_ => (ve_pv (pv 3))⟩))) va_nil)))
      dss_nil))
/-! ### fits_line -/
abbrev s_fits_line : Stmt := PySem.Challenge.pw_answercut_k14_whole_line_or_triad.main.body.getD 12 (.Pass ⟨0, 0, 0, 0⟩)
def t_fits_line : SM := (sseq (sset 2 (mbin dIx (mopd 1) (mv (mret (.int (-1))))))
  (sseq (sfor (mitEt (mcons (mv (mslice (mopd 1) (mret none) (mpart (mret (.int (-1)))))) mnil)) (mTup [(mName 3), (mName 4)]) (sseq (sfor (mitT (mslice (mopd 1) (mret none) (mpart (mvar 3)))) (mName 5) (sseq (sif (mnotT (mtest (mcallV F_does_part (mcons (mopd 0) (mcons (mopd 5) (mcons (mopd 4) (mcons (mopd 2) mnil))))))) (sseq (sbind (mret (.bool false)) fun d ρ => .ret (.val d) ρ)
  snext) snext)
  snext))
  snext))
  (sseq (sbind (mret (.bool true)) fun d ρ => .ret (.val d) ρ)
  snext)))
def F_fits_line : Fn := mkF [] 2 6 t_fits_line
theorem sc_fits_line : FnScope ["names", "line", "last", "place", "middle", "one"] ["names", "line"] (defScope s_fits_line) := ⟨rfl, rfl, rfl, by decide +kernel, rfl, by decide +kernel, by decide +kernel⟩
theorem ok_fits_line {P : Program} {w : World} {K : PySem.W.Frag} {mg : Str → Option Value} {base : Heap} {fa : Addr} {fd : FuncData} (b_ : Bi mg) (sys : ∃ o, base.get? sysModules = some o) (F : Fun K "fits_line" "fits_line" s_fits_line fa fd) (hm : mg "fits_line" = some (.ref fa)) (hb : Binds K fd ["names", "line"] [])  (h_does_part : FnD P w K mg base 2 "does_part" ["names", "one", "middle", "other"] F_does_part) :
    FnD P w K mg base 3 "fits_line" ["names", "line"] F_fits_line :=
  fn_d (t := t_fits_line) F sc_fits_line [] hm hb sys fun cdv A out s H E c_ => by
    unfold t_fits_line
    exact (dss_cons (ds_set c_.toC1.nd rfl (by first | exact .inl rfl | exact .inr rfl) (by decide) (ve_ix (c_.toC1.u 1) (be_pv (pv 1)) (be_ve ve_negc)))
      (dss_cons (ds_for c_.po c_.toC1.calm (by decide) (ie_enumT (by rfl) b_.enumerate (va_cons (be_ve (ve_slice (be_pv (pv 1)) oe_none (oe_some ve_negc))) va_nil)) (ge_tup c_.toC1.calm (ges_cons (ge_name c_.toC1.nd rfl (by first | exact .inl rfl | exact .inr rfl)) (ges_cons (ge_name c_.toC1.nd rfl (by first | exact .inl rfl | exact .inr rfl)) ges_nil))) (dss_cons (ds_for c_.po c_.toC1.calm (by decide) (ie_tup (ve_slice (be_pv (pv 1)) oe_none (oe_some (ve_pv (pv 3))))) (ge_name c_.toC1.nd rfl (by first | exact .inl rfl | exact .inr rfl)) (dss_cons (ds_if (vt_not (vt_val (ve_call (h_does_part.mono (by decide)) c_.toC1 (by rfl) (va_cons (be_pv (pv 0)) (va_cons (be_pv (pv 5)) (va_cons (be_pv (pv 4)) (va_cons (be_pv (pv 2)) va_nil))))))) (dss_cons (ds_ret ve_bl)
      dss_nil) dss_nil)
      dss_nil))
      dss_nil))
      (dss_cons (ds_ret ve_bl)
      dss_nil)))
/-! ### line_behind -/
abbrev s_line_behind : Stmt := PySem.Challenge.pw_answercut_k14_whole_line_or_triad.main.body.getD 13 (.Pass ⟨0, 0, 0, 0⟩)
def t_line_behind (f_ : Fn) : SM := (sseq (sif (mtest (mbin dEqNil (mopd 2) (mv (mtup mnil)))) (sseq (sretv 1)
  snext) snext)
  (sseq (sfor (mitT (mvar 2)) (mName 3) (sseq (sset 4 (mbin dAdd (mopd 1) (mv (mtup (mcons (mopd 3) mnil)))))
  (sseq (sif (mtest (mcallV F_fits_line (mcons (mopd 0) (mcons (mopd 4) mnil)))) (sseq (sset 5 (mcallV f_ (mcons (mopd 0) (mcons (mopd 4) (mcons (mv (mcb gTup (mcons (mv (mlc (mitT (mvar 2)) (mName 6) (mtest (mbin dNe (mopd 6) (mopd 3))) (mvar 6) [6])) mnil))) mnil)))))
  (sseq (sif (mtest (mbin gNotN (mopd 5) (mv (mret .none)))) (sseq (sretv 5)
  snext) snext)
  snext)) snext)
  snext)))
  (sseq (sbind (mret .none) fun d ρ => .ret (.val d) ρ)
  snext)))
def F_line_behind : Nat → Fn
  | 0 => noF
  | n + 1 => mkF [] 3 7 (t_line_behind (F_line_behind n))
theorem sc_line_behind : FnScope ["names", "line", "rest", "table", "more", "found", "one"] ["names", "line", "rest"] (defScope s_line_behind) := ⟨rfl, rfl, rfl, by decide +kernel, rfl, by decide +kernel, by decide +kernel⟩
theorem ok_line_behind {P : Program} {w : World} {K : PySem.W.Frag} {mg : Str → Option Value} {base : Heap} {fa : Addr} {fd : FuncData} (b_ : Bi mg) (sys : ∃ o, base.get? sysModules = some o) (F : Fun K "line_behind" "line_behind" s_line_behind fa fd) (hm : mg "line_behind" = some (.ref fa)) (hb : Binds K fd ["names", "line", "rest"] [])  (h_fits_line : FnD P w K mg base 3 "fits_line" ["names", "line"] F_fits_line) :
    ∀ n : Nat, FnD P w K mg base (3 + n) "line_behind" ["names", "line", "rest"] (F_line_behind n)
  | 0 => fnd_no hm F.kp hb
  | n + 1 => by
    have h_ := ok_line_behind b_ sys F hm hb h_fits_line n
    exact fn_d (t := t_line_behind (F_line_behind n)) F sc_line_behind [] hm hb sys fun cdv A out s H E c_ => by
      unfold t_line_behind
      exact (dss_cons (ds_if (t_eqN c_.toC1 (be_pv (pv 2)) (be_ve (ve_tup va_nil))) (dss_cons (ds_retv (pv 1) (by decide))
      dss_nil) dss_nil)
      (dss_cons (ds_for c_.po c_.toC1.calm (by decide) (ie_tup (ve_pv (pv 2))) (ge_name c_.toC1.nd rfl (by first | exact .inl rfl | exact .inr rfl)) (dss_cons (ds_set c_.toC1.nd rfl (by first | exact .inl rfl | exact .inr rfl) (by decide) (v_add (be_pv (pv 1)) (be_ve (ve_tup (va_cons (be_pv (pv 3)) va_nil)))))
      (dss_cons (ds_if (vt_val (ve_call (h_fits_line.mono (Nat.le_trans (by decide) (Nat.le_add_right _ n))) c_.toC1 (by rfl) (va_cons (be_pv (pv 0)) (va_cons (be_pv (pv 4)) va_nil)))) (dss_cons (ds_set c_.toC1.nd rfl (by first | exact .inl rfl | exact .inr rfl) (by decide) (ve_call (h_.mono (Nat.le_refl _)) c_.toC1 (by rfl) (va_cons (be_pv (pv 0)) (va_cons (be_pv (pv 4)) (va_cons (be_ve (v_tuple b_ (by rfl) (va_cons (be_ve (ve_fe (fe_lc (ts := [6]) (own := [("one", 6)]) c_.toC1.calm c_.toC1.nd ⟨(ie_tup (ve_pv (pv 2))), blkOk_by (by kernel_rfl), rfl, (by decide), fun s_ H_ C_0 cl_ fp_ => (ge_name (c_.toC1.blk _ s_ H_ C_0 cl_ fp_).nd rfl (by first | exact .inl rfl | exact .inr rfl)), fun s_ H_ C_0 cl_ fp_ => (vts_one (t_ne (c_.toC1.blk _ s_ H_ C_0 cl_ fp_) (be_pv (pv 6)) (be_pv (pv 3)))), fun s_ H_ C_0 cl_ fp_ => (ve_pv (pv 6))⟩))) va_nil))) va_nil)))))
      (dss_cons (ds_if (t_isnot (be_pv (pv 5)) (be_ve ve_non)) (dss_cons (ds_retv (pv 5) (by decide))
      dss_nil) dss_nil)
      dss_nil)) dss_nil)
      dss_nil)))
      (dss_cons (ds_ret ve_non)
      dss_nil)))
/-! ### line_of -/
abbrev s_line_of : Stmt := PySem.Challenge.pw_answercut_k14_whole_line_or_triad.main.body.getD 14 (.Pass ⟨0, 0, 0, 0⟩)
def t_line_of : SM := (sseq (sbind (mcallV (F_line_behind 8) (mcons (mv (mcallF F_names_by_table (mcons (mopd 0) mnil))) (mcons (mv (mtup mnil)) (mcons (mopd 1) mnil)))) fun d ρ => .ret (.val d) ρ)
  snext)
def F_line_of : Fn := mkF [] 2 2 t_line_of
theorem sc_line_of : FnScope ["question", "tables"] ["question", "tables"] (defScope s_line_of) := ⟨rfl, rfl, rfl, by decide +kernel, rfl, by decide +kernel, by decide +kernel⟩
theorem ok_line_of {P : Program} {w : World} {K : PySem.W.Frag} {mg : Str → Option Value} {base : Heap} {fa : Addr} {fd : FuncData} (b_ : Bi mg) (sys : ∃ o, base.get? sysModules = some o) (F : Fun K "line_of" "line_of" s_line_of fa fd) (hm : mg "line_of" = some (.ref fa)) (hb : Binds K fd ["question", "tables"] [])  (h_line_behind : FnD P w K mg base 11 "line_behind" ["names", "line", "rest"] (F_line_behind 8)) (h_names_by_table : FnD P w K mg base 1 "names_by_table" ["question"] F_names_by_table) :
    FnD P w K mg base 12 "line_of" ["question", "tables"] F_line_of :=
  fn_d (t := t_line_of) F sc_line_of [] hm hb sys fun cdv A out s H E c_ => by
    unfold t_line_of
    exact (dss_cons (ds_ret (ve_call (h_line_behind.mono (by decide)) c_.toC1 (by rfl) (va_cons (be_ve (ve_fe (fe_call (h_names_by_table.mono (by decide)) c_.toC1 (by rfl) (va_cons (be_pv (pv 0)) va_nil)))) (va_cons (be_ve (ve_tup va_nil)) (va_cons (be_pv (pv 1)) va_nil)))))
      dss_nil)
/-! ### is_triad -/
abbrev s_is_triad : Stmt := PySem.Challenge.pw_answercut_k14_whole_line_or_triad.main.body.getD 15 (.Pass ⟨0, 0, 0, 0⟩)
def t_is_triad : SM := (sseq (sasg (mvar 1) (mTup [(mName 2), (mName 3), (mName 4)]))
  (sseq (sif (morT (mtest (mcallV F_does_part (mcons (mopd 0) (mcons (mopd 2) (mcons (mopd 3) (mcons (mopd 4) mnil)))))) (mtest (mcallV F_does_part (mcons (mopd 0) (mcons (mopd 2) (mcons (mopd 4) (mcons (mopd 3) mnil))))))) (sseq (sbind (mret (.bool false)) fun d ρ => .ret (.val d) ρ)
  snext) snext)
  (sseq (sbind (mnotV (mcallV F_does_part (mcons (mopd 0) (mcons (mopd 3) (mcons (mopd 2) (mcons (mopd 4) mnil)))))) fun d ρ => .ret (.val d) ρ)
  snext)))
def F_is_triad : Fn := mkF [] 2 5 t_is_triad
theorem sc_is_triad : FnScope ["names", "some", "one", "other", "last"] ["names", "some"] (defScope s_is_triad) := ⟨rfl, rfl, rfl, by decide +kernel, rfl, by decide +kernel, by decide +kernel⟩
theorem ok_is_triad {P : Program} {w : World} {K : PySem.W.Frag} {mg : Str → Option Value} {base : Heap} {fa : Addr} {fd : FuncData} (b_ : Bi mg) (sys : ∃ o, base.get? sysModules = some o) (F : Fun K "is_triad" "is_triad" s_is_triad fa fd) (hm : mg "is_triad" = some (.ref fa)) (hb : Binds K fd ["names", "some"] [])  (h_does_part : FnD P w K mg base 2 "does_part" ["names", "one", "middle", "other"] F_does_part) :
    FnD P w K mg base 3 "is_triad" ["names", "some"] F_is_triad :=
  fn_d (t := t_is_triad) F sc_is_triad [] hm hb sys fun cdv A out s H E c_ => by
    unfold t_is_triad
    exact (dss_cons (ds_asg (by decide) (ve_pv (pv 1)) (ge_tup c_.toC1.calm (ges_cons (ge_name c_.toC1.nd rfl (by first | exact .inl rfl | exact .inr rfl)) (ges_cons (ge_name c_.toC1.nd rfl (by first | exact .inl rfl | exact .inr rfl)) (ges_cons (ge_name c_.toC1.nd rfl (by first | exact .inl rfl | exact .inr rfl)) ges_nil)))))
      (dss_cons (ds_if (vw_or (vt_val (ve_call (h_does_part.mono (by decide)) c_.toC1 (by rfl) (va_cons (be_pv (pv 0)) (va_cons (be_pv (pv 2)) (va_cons (be_pv (pv 3)) (va_cons (be_pv (pv 4)) va_nil)))))) (vw_or1 (vt_val (ve_call (h_does_part.mono (by decide)) c_.toC1 (by rfl) (va_cons (be_pv (pv 0)) (va_cons (be_pv (pv 2)) (va_cons (be_pv (pv 4)) (va_cons (be_pv (pv 3)) va_nil)))))))).vt (dss_cons (ds_ret ve_bl)
      dss_nil) dss_nil)
      (dss_cons (ds_ret (ve_not (ve_call (h_does_part.mono (by decide)) c_.toC1 (by rfl) (va_cons (be_pv (pv 0)) (va_cons (be_pv (pv 3)) (va_cons (be_pv (pv 2)) (va_cons (be_pv (pv 4)) va_nil)))))))
      dss_nil)))
/-! ### chain_of -/
abbrev s_chain_of : Stmt := PySem.Challenge.pw_answercut_k14_whole_line_or_triad.main.body.getD 16 (.Pass ⟨0, 0, 0, 0⟩)
def t_chain_of : SM := (sseq (sset 4 (mcallF F_reached (mcons (mopd 0) (mcons (mopd 1) (mcons (mv (mbin dIx (mopd 0) (mopd 3))) mnil)))))
  (sseq (sset 5 (mlst (mcons (mopd 2) mnil)))
  (sseq (swhile (mtest (mbin dNe (mv (mbin dIx (mopd 5) (mv (mret (.int 0))))) (mopd 1))) (sseq (sset 5 (mbin dAdd (mv (mlst (mcons (mv (mbin dIx (mopd 4) (mv (mbin dIx (mopd 5) (mv (mret (.int 0))))))) mnil))) (mopd 5)))
  snext) 1000)
  (sseq (sbind (mcb gTup (mcons (mopd 5) mnil)) fun d ρ => .ret (.val d) ρ)
  snext))))
def F_chain_of : Fn := mkF [] 4 6 t_chain_of
theorem sc_chain_of : FnScope ["names", "one", "other", "past", "found", "chain"] ["names", "one", "other", "past"] (defScope s_chain_of) := ⟨rfl, rfl, rfl, by decide +kernel, rfl, by decide +kernel, by decide +kernel⟩
theorem ok_chain_of {P : Program} {w : World} {K : PySem.W.Frag} {mg : Str → Option Value} {base : Heap} {fa : Addr} {fd : FuncData} (b_ : Bi mg) (sys : ∃ o, base.get? sysModules = some o) (F : Fun K "chain_of" "chain_of" s_chain_of fa fd) (hm : mg "chain_of" = some (.ref fa)) (hb : Binds K fd ["names", "one", "other", "past"] [])  (h_reached : FnD P w K mg base 1 "reached" ["names", "start", "without"] F_reached) :
    FnD P w K mg base 2 "chain_of" ["names", "one", "other", "past"] F_chain_of :=
  fn_d (t := t_chain_of) F sc_chain_of [] hm hb sys fun cdv A out s H E c_ => by
    unfold t_chain_of
    exact (dss_cons (ds_set c_.toC1.nd rfl (by first | exact .inl rfl | exact .inr rfl) (by decide) (ve_fe (fe_call (h_reached.mono (by decide)) c_.toC1 (by rfl) (va_cons (be_pv (pv 0)) (va_cons (be_pv (pv 1)) (va_cons (be_ve (ve_ix (c_.toC1.u 1) (be_pv (pv 0)) (be_pv (pv 3)))) va_nil))))))
      (dss_cons (ds_set c_.toC1.nd rfl (by first | exact .inl rfl | exact .inr rfl) (by decide) (ve_lst (va_cons (be_pv (pv 2)) va_nil)))
      (dss_cons (ds_while 1000 c_.po (t_ne c_.toC1 (be_ve (ve_ix (c_.toC1.u 1) (be_pv (pv 5)) (be_ve ve_int))) (be_pv (pv 1))) (dss_cons (ds_set c_.toC1.nd rfl (by first | exact .inl rfl | exact .inr rfl) (by decide) (v_add (be_ve (ve_lst (va_cons (be_ve (ve_ix (c_.toC1.u 1) (be_pv (pv 4)) (be_ve (ve_ix (c_.toC1.u 1) (be_pv (pv 5)) (be_ve ve_int))))) va_nil))) (be_pv (pv 5))))
      dss_nil))
      (dss_cons (ds_ret (v_tuple b_ (by rfl) (va_cons (be_pv (pv 5)) va_nil)))
      dss_nil))))
/-! ### triad_of -/
abbrev s_triad_of : Stmt := PySem.Challenge.pw_answercut_k14_whole_line_or_triad.main.body.getD 17 (.Pass ⟨0, 0, 0, 0⟩)
def t_triad_of : SM := (sseq (sset 2 (mcallF F_names_by_table (mcons (mopd 0) mnil)))
  (sseq (sfor (mitEt (mcons (mopd 1) mnil)) (mTup [(mName 3), (mName 4)]) (sseq (sfor (mitEt (mcons (mv (mslice (mopd 1) (mpart (mbin dAdd (mopd 3) (mv (mret (.int 1))))) (mret none))) mnil)) (mTup [(mName 5), (mName 6)]) (sseq (sfor (mitT (mslice (mopd 1) (mpart (mbin dAdd (mv (mbin dAdd (mopd 3) (mopd 5))) (mv (mret (.int 2))))) (mret none))) (mName 7) (sseq (sif (mtest (mcallV F_is_triad (mcons (mopd 2) (mcons (mv (mtup (mcons (mopd 4) (mcons (mopd 6) (mcons (mopd 7) mnil))))) mnil)))) (sseq (sset 8 (mtup (mcons (mv (mcallV F_chain_of (mcons (mopd 2) (mcons (mopd 4) (mcons (mopd 6) (mcons (mopd 7) mnil)))))) (mcons (mv (mcallV F_chain_of (mcons (mopd 2) (mcons (mopd 4) (mcons (mopd 7) (mcons (mopd 6) mnil)))))) mnil))))
  (sseq (sbind (mtup (mcons (mv (mtup (mcons (mopd 4) (mcons (mopd 6) (mcons (mopd 7) mnil))))) (mcons (mv (mbin dAdd (mopd 8) (mv (mtup (mcons (mv (mcallV F_chain_of (mcons (mopd 2) (mcons (mopd 6) (mcons (mopd 7) (mcons (mopd 4) mnil)))))) mnil))))) mnil))) fun d ρ => .ret (.val d) ρ)
  snext)) snext)
  snext))
  snext))
  snext))
  (sseq (sbind (mret .none) fun d ρ => .ret (.val d) ρ)
  snext)))
def F_triad_of : Fn := mkF [] 2 9 t_triad_of
theorem sc_triad_of : FnScope ["question", "tables", "names", "place", "one", "more", "other", "last", "chains"] ["question", "tables"] (defScope s_triad_of) := ⟨rfl, rfl, rfl, by decide +kernel, rfl, by decide +kernel, by decide +kernel⟩
theorem ok_triad_of {P : Program} {w : World} {K : PySem.W.Frag} {mg : Str → Option Value} {base : Heap} {fa : Addr} {fd : FuncData} (b_ : Bi mg) (sys : ∃ o, base.get? sysModules = some o) (F : Fun K "triad_of" "triad_of" s_triad_of fa fd) (hm : mg "triad_of" = some (.ref fa)) (hb : Binds K fd ["question", "tables"] [])  (h_names_by_table : FnD P w K mg base 1 "names_by_table" ["question"] F_names_by_table) (h_is_triad : FnD P w K mg base 3 "is_triad" ["names", "some"] F_is_triad) (h_chain_of : FnD P w K mg base 2 "chain_of" ["names", "one", "other", "past"] F_chain_of) :
    FnD P w K mg base 4 "triad_of" ["question", "tables"] F_triad_of :=
  fn_d (t := t_triad_of) F sc_triad_of [] hm hb sys fun cdv A out s H E c_ => by
    unfold t_triad_of
    exact (dss_cons (ds_set c_.toC1.nd rfl (by first | exact .inl rfl | exact .inr rfl) (by decide) (ve_fe (fe_call (h_names_by_table.mono (by decide)) c_.toC1 (by rfl) (va_cons (be_pv (pv 0)) va_nil))))
      (dss_cons (ds_for c_.po c_.toC1.calm (by decide) (ie_enumT (by rfl) b_.enumerate (va_cons (be_pv (pv 1)) va_nil)) (ge_tup c_.toC1.calm (ges_cons (ge_name c_.toC1.nd rfl (by first | exact .inl rfl | exact .inr rfl)) (ges_cons (ge_name c_.toC1.nd rfl (by first | exact .inl rfl | exact .inr rfl)) ges_nil))) (dss_cons (ds_for c_.po c_.toC1.calm (by decide) (ie_enumT (by rfl) b_.enumerate (va_cons (be_ve (ve_slice (be_pv (pv 1)) (oe_some (v_add (be_pv (pv 3)) (be_ve ve_int))) oe_none)) va_nil)) (ge_tup c_.toC1.calm (ges_cons (ge_name c_.toC1.nd rfl (by first | exact .inl rfl | exact .inr rfl)) (ges_cons (ge_name c_.toC1.nd rfl (by first | exact .inl rfl | exact .inr rfl)) ges_nil))) (dss_cons (ds_for c_.po c_.toC1.calm (by decide) (ie_tup (ve_slice (be_pv (pv 1)) (oe_some (v_add (be_ve (v_add (be_pv (pv 3)) (be_pv (pv 5)))) (be_ve ve_int))) oe_none)) (ge_name c_.toC1.nd rfl (by first | exact .inl rfl | exact .inr rfl)) (dss_cons (ds_if (vt_val (ve_call (h_is_triad.mono (by decide)) c_.toC1 (by rfl) (va_cons (be_pv (pv 2)) (va_cons (be_ve (ve_tup (va_cons (be_pv (pv 4)) (va_cons (be_pv (pv 6)) (va_cons (be_pv (pv 7)) va_nil))))) va_nil)))) (dss_cons (ds_set c_.toC1.nd rfl (by first | exact .inl rfl | exact .inr rfl) (by decide) (ve_tup (va_cons (be_ve (ve_call (h_chain_of.mono (by decide)) c_.toC1 (by rfl) (va_cons (be_pv (pv 2)) (va_cons (be_pv (pv 4)) (va_cons (be_pv (pv 6)) (va_cons (be_pv (pv 7)) va_nil)))))) (va_cons (be_ve (ve_call (h_chain_of.mono (by decide)) c_.toC1 (by rfl) (va_cons (be_pv (pv 2)) (va_cons (be_pv (pv 4)) (va_cons (be_pv (pv 7)) (va_cons (be_pv (pv 6)) va_nil)))))) va_nil))))
      (dss_cons (ds_ret (ve_tup (va_cons (be_ve (ve_tup (va_cons (be_pv (pv 4)) (va_cons (be_pv (pv 6)) (va_cons (be_pv (pv 7)) va_nil))))) (va_cons (be_ve (v_add (be_pv (pv 8)) (be_ve (ve_tup (va_cons (be_ve (ve_call (h_chain_of.mono (by decide)) c_.toC1 (by rfl) (va_cons (be_pv (pv 2)) (va_cons (be_pv (pv 6)) (va_cons (be_pv (pv 7)) (va_cons (be_pv (pv 4)) va_nil)))))) va_nil))))) va_nil))))
      dss_nil)) dss_nil)
      dss_nil))
      dss_nil))
      dss_nil))
      (dss_cons (ds_ret ve_non)
      dss_nil)))
/-! ### need_line -/
abbrev s_need_line : Stmt := PySem.Challenge.pw_answercut_k14_whole_line_or_triad.main.body.getD 18 (.Pass ⟨0, 0, 0, 0⟩)
def t_need_line : SM := (sseq (sset 2 (mcallV F_line_of (mcons (mopd 0) (mcons (mopd 1) mnil))))
  (sseq (sif (mtest (mbin gIsN (mopd 2) (mv (mret .none)))) (sseq (sraise1 "NoLine" "paper" (mcallV F_triad_of (mcons (mopd 0) (mcons (mopd 1) mnil))))
  snext) snext)
  (sseq (sretv 2)
  snext)))
def F_need_line : Fn := mkF [] 2 3 t_need_line
theorem sc_need_line : FnScope ["question", "tables", "found"] ["question", "tables"] (defScope s_need_line) := ⟨rfl, rfl, rfl, by decide +kernel, rfl, by decide +kernel, by decide +kernel⟩
theorem ok_need_line {P : Program} {w : World} {K : PySem.W.Frag} {mg : Str → Option Value} {base : Heap} {fa : Addr} {fd : FuncData} (b_ : Bi mg) (sys : ∃ o, base.get? sysModules = some o) (F : Fun K "need_line" "need_line" s_need_line fa fd) (hm : mg "need_line" = some (.ref fa)) (hb : Binds K fd ["question", "tables"] [])  {C_NoLine : Addr} (x_NoLine : XI P K mg C_NoLine "NoLine" "no line" "paper" "paper") (h_line_of : FnD P w K mg base 12 "line_of" ["question", "tables"] F_line_of) (h_triad_of : FnD P w K mg base 4 "triad_of" ["question", "tables"] F_triad_of) :
    FnD P w K mg base 13 "need_line" ["question", "tables"] F_need_line :=
  fn_d (t := t_need_line) F sc_need_line [] hm hb sys fun cdv A out s H E c_ => by
    unfold t_need_line
    exact (dss_cons (ds_set c_.toC1.nd rfl (by first | exact .inl rfl | exact .inr rfl) (by decide) (ve_call (h_line_of.mono (by decide)) c_.toC1 (by rfl) (va_cons (be_pv (pv 0)) (va_cons (be_pv (pv 1)) va_nil))))
      (dss_cons (ds_if (t_is (be_pv (pv 2)) (be_ve ve_non)) (dss_cons (ds_raise1 x_NoLine.ini x_NoLine.kp c_.toC1 (by rfl) x_NoLine.mg (ve_call (h_triad_of.mono (by decide)) c_.toC1 (by rfl) (va_cons (be_pv (pv 0)) (va_cons (be_pv (pv 1)) va_nil))))
      dss_nil) dss_nil)
      (dss_cons (ds_retv (pv 2) (by decide))
      dss_nil)))
/-! ### are_tables -/
abbrev s_are_tables : Stmt := PySem.Challenge.pw_answercut_k14_whole_line_or_triad.main.body.getD 19 (.Pass ⟨0, 0, 0, 0⟩)
def t_are_tables : SM := (sseq (sif (morT (mnotT (mtest (misi "tuple" (mopd 1)))) (mnotT (mtest (mcb gAll (mcons (mv (mlc (mitT (mvar 1)) (mName 2) (mret true) (mandV (misi "str" (mopd 2)) (mbin dIn (mopd 2) (mopd 0))) [2])) mnil))))) (sseq (sbind (mret (.bool false)) fun d ρ => .ret (.val d) ρ)
  snext) snext)
  (sseq (sbind (mbin dEq (mv (mlenset (mopd 1))) (mv (mcb gLen (mcons (mopd 1) mnil)))) fun d ρ => .ret (.val d) ρ)
  snext))
def F_are_tables : Fn := mkF [] 2 3 t_are_tables
theorem sc_are_tables : FnScope ["tables", "thing", "one"] ["tables", "thing"] (defScope s_are_tables) := ⟨rfl, rfl, rfl, by decide +kernel, rfl, by decide +kernel, by decide +kernel⟩
theorem ok_are_tables {P : Program} {w : World} {K : PySem.W.Frag} {mg : Str → Option Value} {base : Heap} {fa : Addr} {fd : FuncData} (b_ : Bi mg) (sys : ∃ o, base.get? sysModules = some o) (F : Fun K "are_tables" "are_tables" s_are_tables fa fd) (hm : mg "are_tables" = some (.ref fa)) (hb : Binds K fd ["tables", "thing"] [])   :
    FnD P w K mg base 1 "are_tables" ["tables", "thing"] F_are_tables :=
  fn_d (t := t_are_tables) F sc_are_tables [] hm hb sys fun cdv A out s H E c_ => by
    unfold t_are_tables
    exact (dss_cons (ds_if (vw_or (vt_not (vt_val (ve_isi ka_tuple (by rfl) b_.isinstance (by rfl) b_.tuple (by decide +kernel) (be_pv (pv 1))))) (vw_or1 (vt_not (vt_val (v_all c_.toC1 b_ (by rfl) (va_cons (be_ve (ve_fe (fe_lc (ts := [2]) (own := [("one", 2)]) c_.toC1.calm c_.toC1.nd ⟨(ie_tup (ve_pv (pv 1))), blkOk_by (by kernel_rfl), rfl, (by decide), fun s_ H_ C_0 cl_ fp_ => (ge_name (c_.toC1.blk _ s_ H_ C_0 cl_ fp_).nd rfl (by first | exact .inl rfl | exact .inr rfl)), fun s_ H_ C_0 cl_ fp_ => vts_nil, fun s_ H_ C_0 cl_ fp_ => (ve_and (ve_isi ka_str (by rfl) b_.isinstance (by rfl) b_.str (by decide +kernel) (be_pv (pv 2))) (ve_one (v_in (c_.toC1.blk _ s_ H_ C_0 cl_ fp_) (be_pv (pv 2)) (be_pv (pv 0)))))⟩))) va_nil)))))).vt (dss_cons (ds_ret ve_bl)
      dss_nil) dss_nil)
      (dss_cons (ds_ret (v_eq c_.toC1 (be_ve (v_lenset c_.toC1 b_ (by rfl) (by rfl) (be_pv (pv 1)))) (be_ve (v_len b_ (by rfl) (va_cons (be_pv (pv 1)) va_nil)))))
      dss_nil))
/-! ### shows_line -/
abbrev s_shows_line : Stmt := PySem.Challenge.pw_answercut_k14_whole_line_or_triad.main.body.getD 20 (.Pass ⟨0, 0, 0, 0⟩)
def t_shows_line : SM := (sseq (sif (morT (mnotT (mtest (mcallV F_are_tables (mcons (mopd 1) (mcons (mopd 2) mnil))))) (mtest (mbin dNe (mv (mcb gLen (mcons (mopd 2) mnil))) (mv (mcb gLen (mcons (mopd 1) mnil)))))) (sseq (sbind (mret (.bool false)) fun d ρ => .ret (.val d) ρ)
  snext) snext)
  (sseq (sset 3 (mcallF F_names_by_table (mcons (mopd 0) mnil)))
  (sseq (sbind (mcb gAll (mcons (mv (mlc (mitR2 (mcons (mv (mret (.int 1))) (mcons (mv (mbin dAdd (mv (mcb gLen (mcons (mopd 2) mnil))) (mv (mret (.int 1))))) mnil))) (mName 4) (mret true) (mcallV F_fits_line (mcons (mopd 3) (mcons (mv (mslice (mopd 2) (mret none) (mpart (mvar 4)))) mnil))) [4])) mnil)) fun d ρ => .ret (.val d) ρ)
  snext)))
def F_shows_line : Fn := mkF [] 3 5 t_shows_line
theorem sc_shows_line : FnScope ["question", "tables", "thing", "names", "size"] ["question", "tables", "thing"] (defScope s_shows_line) := ⟨rfl, rfl, rfl, by decide +kernel, rfl, by decide +kernel, by decide +kernel⟩
theorem ok_shows_line {P : Program} {w : World} {K : PySem.W.Frag} {mg : Str → Option Value} {base : Heap} {fa : Addr} {fd : FuncData} (b_ : Bi mg) (sys : ∃ o, base.get? sysModules = some o) (F : Fun K "shows_line" "shows_line" s_shows_line fa fd) (hm : mg "shows_line" = some (.ref fa)) (hb : Binds K fd ["question", "tables", "thing"] [])  (h_are_tables : FnD P w K mg base 1 "are_tables" ["tables", "thing"] F_are_tables) (h_names_by_table : FnD P w K mg base 1 "names_by_table" ["question"] F_names_by_table) (h_fits_line : FnD P w K mg base 3 "fits_line" ["names", "line"] F_fits_line) :
    FnD P w K mg base 4 "shows_line" ["question", "tables", "thing"] F_shows_line :=
  fn_d (t := t_shows_line) F sc_shows_line [] hm hb sys fun cdv A out s H E c_ => by
    unfold t_shows_line
    exact (dss_cons (ds_if (vw_or (vt_not (vt_val (ve_call (h_are_tables.mono (by decide)) c_.toC1 (by rfl) (va_cons (be_pv (pv 1)) (va_cons (be_pv (pv 2)) va_nil))))) (vw_or1 (t_ne c_.toC1 (be_ve (v_len b_ (by rfl) (va_cons (be_pv (pv 2)) va_nil))) (be_ve (v_len b_ (by rfl) (va_cons (be_pv (pv 1)) va_nil)))))).vt (dss_cons (ds_ret ve_bl)
      dss_nil) dss_nil)
      (dss_cons (ds_set c_.toC1.nd rfl (by first | exact .inl rfl | exact .inr rfl) (by decide) (ve_fe (fe_call (h_names_by_table.mono (by decide)) c_.toC1 (by rfl) (va_cons (be_pv (pv 0)) va_nil))))
      (dss_cons (ds_ret (v_all c_.toC1 b_ (by rfl) (va_cons (be_ve (ve_fe (fe_lc (ts := [4]) (own := [("size", 4)]) c_.toC1.calm c_.toC1.nd ⟨(ie_ir (ir_range2 (by rfl) b_.range (va_cons (be_ve ve_int) (va_cons (be_ve (v_add (be_ve (v_len b_ (by rfl) (va_cons (be_pv (pv 2)) va_nil))) (be_ve ve_int))) va_nil)))), blkOk_by (by kernel_rfl), rfl, (by decide), fun s_ H_ C_0 cl_ fp_ => (ge_name (c_.toC1.blk _ s_ H_ C_0 cl_ fp_).nd rfl (by first | exact .inl rfl | exact .inr rfl)), fun s_ H_ C_0 cl_ fp_ => vts_nil, fun s_ H_ C_0 cl_ fp_ => (ve_call (h_fits_line.mono (by decide)) (c_.toC1.blk _ s_ H_ C_0 cl_ fp_) (by rfl) (va_cons (be_pv (pv 3)) (va_cons (be_ve (ve_slice (be_pv (pv 2)) oe_none (oe_some (ve_pv (pv 4))))) va_nil)))⟩))) va_nil)))
      dss_nil)))
/-! ### is_chain -/
abbrev s_is_chain : Stmt := PySem.Challenge.pw_answercut_k14_whole_line_or_triad.main.body.getD 21 (.Pass ⟨0, 0, 0, 0⟩)
def t_is_chain : SM := (sseq (sif (morT (mnotT (mtest (misi "tuple" (mopd 4)))) (mtest (mbin dLt (mv (mcb gLen (mcons (mopd 4) mnil))) (mv (mret (.int 2)))))) (sseq (sbind (mret (.bool false)) fun d ρ => .ret (.val d) ρ)
  snext) snext)
  (sseq (sif (mnotT (mtest (mcb gAll (mcons (mv (mlc (mitT (mvar 4)) (mName 7) (mret true) (mandV (misi "str" (mopd 7)) (mbin dIn (mopd 7) (mopd 0))) [7])) mnil)))) (sseq (sbind (mret (.bool false)) fun d ρ => .ret (.val d) ρ)
  snext) snext)
  (sseq (sif (morT (mtest (mbin dNe (mv (mbin dIx (mopd 4) (mv (mret (.int 0))))) (mopd 1))) (mtest (mbin dNe (mv (mbin dIx (mopd 4) (mv (mret (.int (-1)))))) (mopd 2)))) (sseq (sbind (mret (.bool false)) fun d ρ => .ret (.val d) ρ)
  snext) snext)
  (sseq (sfor (mitZ (mcons (mopd 4) (mcons (mv (mslice (mopd 4) (mpart (mret (.int 1))) (mret none))) mnil))) (mTup [(mName 5), (mName 6)]) (sseq (sif (mnotT (mtest (mcb gAny (mcons (mv (mlc (mitL (mbin dIx (mopd 0) (mopd 5))) (mName 8) (mret true) (mandV (mbin dIn (mopd 8) (mv (mbin dIx (mopd 0) (mopd 6)))) (mbin dNotIn (mopd 8) (mv (mbin dIx (mopd 0) (mopd 3))))) [8])) mnil)))) (sseq (sbind (mret (.bool false)) fun d ρ => .ret (.val d) ρ)
  snext) snext)
  snext))
  (sseq (sbind (mret (.bool true)) fun d ρ => .ret (.val d) ρ)
  snext)))))
def F_is_chain : Fn := mkF [] 5 9 t_is_chain
theorem sc_is_chain : FnScope ["names", "one", "other", "past", "thing", "here", "there", "part", "name"] ["names", "one", "other", "past", "thing"] (defScope s_is_chain) := ⟨rfl, rfl, rfl, by decide +kernel, rfl, by decide +kernel, by decide +kernel⟩
theorem ok_is_chain {P : Program} {w : World} {K : PySem.W.Frag} {mg : Str → Option Value} {base : Heap} {fa : Addr} {fd : FuncData} (b_ : Bi mg) (sys : ∃ o, base.get? sysModules = some o) (F : Fun K "is_chain" "is_chain" s_is_chain fa fd) (hm : mg "is_chain" = some (.ref fa)) (hb : Binds K fd ["names", "one", "other", "past", "thing"] [])   :
    FnD P w K mg base 1 "is_chain" ["names", "one", "other", "past", "thing"] F_is_chain :=
  fn_d (t := t_is_chain) F sc_is_chain [] hm hb sys fun cdv A out s H E c_ => by
    unfold t_is_chain
    exact (dss_cons (ds_if (vw_or (vt_not (vt_val (ve_isi ka_tuple (by rfl) b_.isinstance (by rfl) b_.tuple (by decide +kernel) (be_pv (pv 4))))) (vw_or1 (t_lt (be_ve (v_len b_ (by rfl) (va_cons (be_pv (pv 4)) va_nil))) (be_ve ve_int)))).vt (dss_cons (ds_ret ve_bl)
      dss_nil) dss_nil)
      (dss_cons (ds_if (vt_not (vt_val (v_all c_.toC1 b_ (by rfl) (va_cons (be_ve (ve_fe (fe_lc (ts := [7]) (own := [("part", 7)]) c_.toC1.calm c_.toC1.nd ⟨(ie_tup (ve_pv (pv 4))), blkOk_by (by kernel_rfl), rfl, (by decide), fun s_ H_ C_0 cl_ fp_ => (ge_name (c_.toC1.blk _ s_ H_ C_0 cl_ fp_).nd rfl (by first | exact .inl rfl | exact .inr rfl)), fun s_ H_ C_0 cl_ fp_ => vts_nil, fun s_ H_ C_0 cl_ fp_ => (ve_and (ve_isi ka_str (by rfl) b_.isinstance (by rfl) b_.str (by decide +kernel) (be_pv (pv 7))) (ve_one (v_in (c_.toC1.blk _ s_ H_ C_0 cl_ fp_) (be_pv (pv 7)) (be_pv (pv 0)))))⟩))) va_nil)))) (dss_cons (ds_ret ve_bl)
      dss_nil) dss_nil)
      (dss_cons (ds_if (vw_or (t_ne c_.toC1 (be_ve (ve_ix (c_.toC1.u 1) (be_pv (pv 4)) (be_ve ve_int))) (be_pv (pv 1))) (vw_or1 (t_ne c_.toC1 (be_ve (ve_ix (c_.toC1.u 1) (be_pv (pv 4)) (be_ve ve_negc))) (be_pv (pv 2))))).vt (dss_cons (ds_ret ve_bl)
      dss_nil) dss_nil)
      (dss_cons (ds_for c_.po c_.toC1.calm (by decide) (ie_zip (by rfl) b_.zip (va_cons (be_pv (pv 4)) (va_cons (be_ve (ve_slice (be_pv (pv 4)) (oe_some ve_int) oe_none)) va_nil))) (ge_tup c_.toC1.calm (ges_cons (ge_name c_.toC1.nd rfl (by first | exact .inl rfl | exact .inr rfl)) (ges_cons (ge_name c_.toC1.nd rfl (by first | exact .inl rfl | exact .inr rfl)) ges_nil))) (dss_cons (ds_if (vt_not (vt_val (v_any c_.toC1 b_ (by rfl) (va_cons (be_ve (ve_fe (fe_lc (ts := [8]) (own := [("name", 8)]) c_.toC1.calm c_.toC1.nd ⟨(ie_list (ve_ix (c_.toC1.u 1) (be_pv (pv 0)) (be_pv (pv 5)))), blkOk_by (by kernel_rfl), rfl, (by decide), fun s_ H_ C_0 cl_ fp_ => (ge_name (c_.toC1.blk _ s_ H_ C_0 cl_ fp_).nd rfl (by first | exact .inl rfl | exact .inr rfl)), fun s_ H_ C_0 cl_ fp_ => vts_nil, fun s_ H_ C_0 cl_ fp_ => (ve_and (v_in (c_.toC1.blk _ s_ H_ C_0 cl_ fp_) (be_pv (pv 8)) (be_ve (ve_ix ((c_.toC1.blk _ s_ H_ C_0 cl_ fp_).u 1) (be_pv (pv 0)) (be_pv (pv 6))))) (ve_one (v_nin (c_.toC1.blk _ s_ H_ C_0 cl_ fp_) (be_pv (pv 8)) (be_ve (ve_ix ((c_.toC1.blk _ s_ H_ C_0 cl_ fp_).u 1) (be_pv (pv 0)) (be_pv (pv 3)))))))⟩))) va_nil)))) (dss_cons (ds_ret ve_bl)
      dss_nil) dss_nil)
      dss_nil))
      (dss_cons (ds_ret ve_bl)
      dss_nil)))))
/-! ### shows_triad -/
abbrev s_shows_triad : Stmt := PySem.Challenge.pw_answercut_k14_whole_line_or_triad.main.body.getD 22 (.Pass ⟨0, 0, 0, 0⟩)
def t_shows_triad : SM := (sseq (sif (morT (mnotT (mtest (misi "tuple" (mopd 2)))) (morT (mtest (mbin dNe (mv (mcb gLen (mcons (mopd 2) mnil))) (mv (mret (.int 2))))) (morT (mnotT (mtest (mcallV F_are_tables (mcons (mopd 1) (mcons (mv (mbin dIx (mopd 2) (mv (mret (.int 0))))) mnil))))) (mtest (mbin dNe (mv (mcb gLen (mcons (mv (mbin dIx (mopd 2) (mv (mret (.int 0))))) mnil))) (mv (mret (.int 3)))))))) (sseq (sbind (mret (.bool false)) fun d ρ => .ret (.val d) ρ)
  snext) snext)
  (sseq (sif (morT (mnotT (mtest (misi "tuple" (mv (mbin dIx (mopd 2) (mv (mret (.int 1)))))))) (mtest (mbin dNe (mv (mcb gLen (mcons (mv (mbin dIx (mopd 2) (mv (mret (.int 1))))) mnil))) (mv (mret (.int 3)))))) (sseq (sbind (mret (.bool false)) fun d ρ => .ret (.val d) ρ)
  snext) snext)
  (sseq (sset 3 (mcallF F_names_by_table (mcons (mopd 0) mnil)))
  (sseq (sasg (mbin dIx (mopd 2) (mv (mret (.int 0)))) (mTup [(mName 4), (mName 5), (mName 6)]))
  (sseq (sif (morT (mnotT (mtest (mcallV F_is_chain (mcons (mopd 3) (mcons (mopd 4) (mcons (mopd 5) (mcons (mopd 6) (mcons (mv (mbin dIx (mv (mbin dIx (mopd 2) (mv (mret (.int 1))))) (mv (mret (.int 0))))) mnil)))))))) (mnotT (mtest (mcallV F_is_chain (mcons (mopd 3) (mcons (mopd 4) (mcons (mopd 6) (mcons (mopd 5) (mcons (mv (mbin dIx (mv (mbin dIx (mopd 2) (mv (mret (.int 1))))) (mv (mret (.int 1))))) mnil))))))))) (sseq (sbind (mret (.bool false)) fun d ρ => .ret (.val d) ρ)
  snext) snext)
  (sseq (sbind (mcallV F_is_chain (mcons (mopd 3) (mcons (mopd 5) (mcons (mopd 6) (mcons (mopd 4) (mcons (mv (mbin dIx (mv (mbin dIx (mopd 2) (mv (mret (.int 1))))) (mv (mret (.int 2))))) mnil)))))) fun d ρ => .ret (.val d) ρ)
  snext))))))
def F_shows_triad : Fn := mkF [] 3 7 t_shows_triad
theorem sc_shows_triad : FnScope ["question", "tables", "thing", "names", "one", "other", "last"] ["question", "tables", "thing"] (defScope s_shows_triad) := ⟨rfl, rfl, rfl, by decide +kernel, rfl, by decide +kernel, by decide +kernel⟩
theorem ok_shows_triad {P : Program} {w : World} {K : PySem.W.Frag} {mg : Str → Option Value} {base : Heap} {fa : Addr} {fd : FuncData} (b_ : Bi mg) (sys : ∃ o, base.get? sysModules = some o) (F : Fun K "shows_triad" "shows_triad" s_shows_triad fa fd) (hm : mg "shows_triad" = some (.ref fa)) (hb : Binds K fd ["question", "tables", "thing"] [])  (h_are_tables : FnD P w K mg base 1 "are_tables" ["tables", "thing"] F_are_tables) (h_names_by_table : FnD P w K mg base 1 "names_by_table" ["question"] F_names_by_table) (h_is_chain : FnD P w K mg base 1 "is_chain" ["names", "one", "other", "past", "thing"] F_is_chain) :
    FnD P w K mg base 2 "shows_triad" ["question", "tables", "thing"] F_shows_triad :=
  fn_d (t := t_shows_triad) F sc_shows_triad [] hm hb sys fun cdv A out s H E c_ => by
    unfold t_shows_triad
    exact (dss_cons (ds_if (vw_or (vt_not (vt_val (ve_isi ka_tuple (by rfl) b_.isinstance (by rfl) b_.tuple (by decide +kernel) (be_pv (pv 2))))) (vw_or (t_ne c_.toC1 (be_ve (v_len b_ (by rfl) (va_cons (be_pv (pv 2)) va_nil))) (be_ve ve_int)) (vw_or (vt_not (vt_val (ve_call (h_are_tables.mono (by decide)) c_.toC1 (by rfl) (va_cons (be_pv (pv 1)) (va_cons (be_ve (ve_ix (c_.toC1.u 1) (be_pv (pv 2)) (be_ve ve_int))) va_nil))))) (vw_or1 (t_ne c_.toC1 (be_ve (v_len b_ (by rfl) (va_cons (be_ve (ve_ix (c_.toC1.u 1) (be_pv (pv 2)) (be_ve ve_int))) va_nil))) (be_ve ve_int)))))).vt (dss_cons (ds_ret ve_bl)
      dss_nil) dss_nil)
      (dss_cons (ds_if (vw_or (vt_not (vt_val (ve_isi ka_tuple (by rfl) b_.isinstance (by rfl) b_.tuple (by decide +kernel) (be_ve (ve_ix (c_.toC1.u 1) (be_pv (pv 2)) (be_ve ve_int)))))) (vw_or1 (t_ne c_.toC1 (be_ve (v_len b_ (by rfl) (va_cons (be_ve (ve_ix (c_.toC1.u 1) (be_pv (pv 2)) (be_ve ve_int))) va_nil))) (be_ve ve_int)))).vt (dss_cons (ds_ret ve_bl)
      dss_nil) dss_nil)
      (dss_cons (ds_set c_.toC1.nd rfl (by first | exact .inl rfl | exact .inr rfl) (by decide) (ve_fe (fe_call (h_names_by_table.mono (by decide)) c_.toC1 (by rfl) (va_cons (be_pv (pv 0)) va_nil))))
      (dss_cons (ds_asg (by decide) (ve_ix (c_.toC1.u 1) (be_pv (pv 2)) (be_ve ve_int)) (ge_tup c_.toC1.calm (ges_cons (ge_name c_.toC1.nd rfl (by first | exact .inl rfl | exact .inr rfl)) (ges_cons (ge_name c_.toC1.nd rfl (by first | exact .inl rfl | exact .inr rfl)) (ges_cons (ge_name c_.toC1.nd rfl (by first | exact .inl rfl | exact .inr rfl)) ges_nil)))))
      (dss_cons (ds_if (vw_or (vt_not (vt_val (ve_call (h_is_chain.mono (by decide)) c_.toC1 (by rfl) (va_cons (be_pv (pv 3)) (va_cons (be_pv (pv 4)) (va_cons (be_pv (pv 5)) (va_cons (be_pv (pv 6)) (va_cons (be_ve (ve_ix (c_.toC1.u 1) (be_ve (ve_ix (c_.toC1.u 1) (be_pv (pv 2)) (be_ve ve_int))) (be_ve ve_int))) va_nil)))))))) (vw_or1 (vt_not (vt_val (ve_call (h_is_chain.mono (by decide)) c_.toC1 (by rfl) (va_cons (be_pv (pv 3)) (va_cons (be_pv (pv 4)) (va_cons (be_pv (pv 6)) (va_cons (be_pv (pv 5)) (va_cons (be_ve (ve_ix (c_.toC1.u 1) (be_ve (ve_ix (c_.toC1.u 1) (be_pv (pv 2)) (be_ve ve_int))) (be_ve ve_int))) va_nil)))))))))).vt (dss_cons (ds_ret ve_bl)
      dss_nil) dss_nil)
      (dss_cons (ds_ret (ve_call (h_is_chain.mono (by decide)) c_.toC1 (by rfl) (va_cons (be_pv (pv 3)) (va_cons (be_pv (pv 5)) (va_cons (be_pv (pv 6)) (va_cons (be_pv (pv 4)) (va_cons (be_ve (ve_ix (c_.toC1.u 1) (be_ve (ve_ix (c_.toC1.u 1) (be_pv (pv 2)) (be_ve ve_int))) (be_ve ve_int))) va_nil)))))))
      dss_nil))))))
/-! ### _law_kneaded -/
abbrev s__law_kneaded : Stmt := PySem.Challenge.pw_answercut_k14_whole_line_or_triad.main.body.getD 24 (.Pass ⟨0, 0, 0, 0⟩)
def t__law_kneaded : SM := (sseq (sset 2 (mret (.int 2305843009213693907)))
  (sseq (sset 3 (mbin dMod (mv (mbin dAdd (mv (mbin dAdd (mv (mbin dMul (mopd 0) (mv (mret (.int 2862933555777941757))))) (mv (mbin dMul (mopd 1) (mv (mret (.int 3037000493))))))) (mv (mret (.int 29))))) (mopd 2)))
  (sseq (sforR (mitR1 (mcons (mv (mret (.int 4))) mnil)) (mName 4) (sseq (sset 3 (mbin dMod (mv (mbin dAdd (mv (mbin dAdd (mv (mbin dAdd (mv (mbin dMul (mopd 3) (mopd 3))) (mv (mbin dMul (mv (mret (.int 11))) (mopd 3))))) (mv (mbin dMul (mv (mret (.int 4099))) (mopd 4))))) (mopd 1))) (mopd 2)))
  snext))
  (sseq (sbind (mbin dAdd (mv (mbin dMul (mopd 3) (mopd 2))) (mv (mbin dMod (mv (mbin dAdd (mv (mbin dMul (mopd 3) (mv (mret (.int 69621))))) (mopd 1))) (mopd 2)))) fun d ρ => .ret (.val d) ρ)
  snext))))
def F__law_kneaded : Fn := mkF [] 2 5 t__law_kneaded
theorem sc__law_kneaded : FnScope ["seed", "lap", "prime", "amount", "again"] ["seed", "lap"] (defScope s__law_kneaded) := ⟨rfl, rfl, rfl, by decide +kernel, rfl, by decide +kernel, by decide +kernel⟩
theorem ok__law_kneaded {P : Program} {w : World} {K : PySem.W.Frag} {mg : Str → Option Value} {base : Heap} {fa : Addr} {fd : FuncData} (b_ : Bi mg) (sys : ∃ o, base.get? sysModules = some o) (F : Fun K "_law_kneaded" "_law_kneaded" s__law_kneaded fa fd) (hm : mg "_law_kneaded" = some (.ref fa)) (hb : Binds K fd ["seed", "lap"] [])   :
    FnD P w K mg base 1 "_law_kneaded" ["seed", "lap"] F__law_kneaded :=
  fn_d (t := t__law_kneaded) F sc__law_kneaded [] hm hb sys fun cdv A out s H E c_ => by
    unfold t__law_kneaded
    exact (dss_cons (ds_set c_.toC1.nd rfl (by first | exact .inl rfl | exact .inr rfl) (by decide) ve_int)
      (dss_cons (ds_set c_.toC1.nd rfl (by first | exact .inl rfl | exact .inr rfl) (by decide) (v_mod (be_ve (v_add (be_ve (v_add (be_ve (v_mul (be_pv (pv 0)) (be_ve ve_int))) (be_ve (v_mul (be_pv (pv 1)) (be_ve ve_int))))) (be_ve ve_int))) (be_pv (pv 2))))
      (dss_cons (ds_forR c_.po c_.toC1.calm (by decide) (ir_range1 (by rfl) b_.range (va_cons (be_ve ve_int) va_nil)) (ge_name c_.toC1.nd rfl (by first | exact .inl rfl | exact .inr rfl)) (dss_cons (ds_set c_.toC1.nd rfl (by first | exact .inl rfl | exact .inr rfl) (by decide) (v_mod (be_ve (v_add (be_ve (v_add (be_ve (v_add (be_ve (v_mul (be_pv (pv 3)) (be_pv (pv 3)))) (be_ve (v_mul (be_ve ve_int) (be_pv (pv 3)))))) (be_ve (v_mul (be_ve ve_int) (be_pv (pv 4)))))) (be_pv (pv 1)))) (be_pv (pv 2))))
      dss_nil))
      (dss_cons (ds_ret (v_add (be_ve (v_mul (be_pv (pv 3)) (be_pv (pv 2)))) (be_ve (v_mod (be_ve (v_add (be_ve (v_mul (be_pv (pv 3)) (be_ve ve_int))) (be_pv (pv 1)))) (be_pv (pv 2))))))
      dss_nil))))
/-! ### _law_pot_of -/
abbrev s__law_pot_of : Stmt := PySem.Challenge.pw_answercut_k14_whole_line_or_triad.main.body.getD 25 (.Pass ⟨0, 0, 0, 0⟩)
def t__law_pot_of : SM := (sseq (ssetF 1 (mlc (mitL (mscr 0 (mret none) (mpart (mret (.int 17))))) (mName 3) (mret true) (mcb gAbs (mcons (mopd 3) mnil)) [3]))
  (sseq (sfor (mitE (mcons (mv (mscr 0 (mpart (mret (.int 17))) (mpart (mret (.int 60))))) mnil)) (mTup [(mName 2), (mName 3)]) (sseq (sputL 1 (mbin dAdd (mv (mbin dIx (mopd 1) (mv (mbin dMod (mopd 2) (mv (mret (.int 17))))))) (mv (mcb gAbs (mcons (mopd 3) mnil)))) (mbin dMod (mopd 2) (mv (mret (.int 17)))))
  snext))
  (sfz 1 (sseq (sbind (mlst (mcons (mopd 1) (mcons (mv (mret (.int 0))) (mcons (mv (mret (.int 0))) (mcons (mv (mret (.int 0))) mnil))))) fun d ρ => .ret (.own d) ρ)
  snext))))
def F__law_pot_of : Fn := mkF [] 1 4 t__law_pot_of
theorem sc__law_pot_of : FnScope ["script", "cells", "place", "cell"] ["script"] (defScope s__law_pot_of) := ⟨rfl, rfl, rfl, by decide +kernel, rfl, by decide +kernel, by decide +kernel⟩
theorem ok__law_pot_of {P : Program} {w : World} {K : PySem.W.Frag} {mg : Str → Option Value} {base : Heap} {fa : Addr} {fd : FuncData} (b_ : Bi mg) (sys : ∃ o, base.get? sysModules = some o) (F : Fun K "_law_pot_of" "_law_pot_of" s__law_pot_of fa fd) (hm : mg "_law_pot_of" = some (.ref fa)) (hb : Binds K fd ["script"] [])   :
    FnD P w K mg base 1 "_law_pot_of" ["script"] F__law_pot_of :=
  fn_d (t := t__law_pot_of) F sc__law_pot_of [] hm hb sys fun cdv A out s H E c_ => by
    unfold t__law_pot_of
    exact (dss_cons (ds_setLc (ts := [3]) (own := [("cell", 3)]) c_.toC1.calm c_.toC1.nd rfl rfl (by decide) (sw_true rfl rfl rfl rfl) ⟨(ie_list (ve_scr (pv 0) oe_none (oe_some ve_int))), blkOk_by (by kernel_rfl), rfl, (by decide), fun s_ H_ C_0 cl_ fp_ => (ge_name (c_.toC1.blk _ s_ H_ C_0 cl_ fp_).nd rfl (by first | exact .inl rfl | exact .inr rfl)), fun s_ H_ C_0 cl_ fp_ => vts_nil, fun s_ H_ C_0 cl_ fp_ => (v_abs b_ (by rfl) (va_cons (be_pv (pv 3)) va_nil))⟩)
      (dss_cons (ds_for c_.po c_.toC1.calm (by decide) (ie_enum (by rfl) b_.enumerate (va_cons (be_ve (ve_scr (pv 0) (oe_some ve_int) (oe_some ve_int))) va_nil)) (ge_tup c_.toC1.calm (ges_cons (ge_name c_.toC1.nd rfl (by first | exact .inl rfl | exact .inr rfl)) (ges_cons (ge_name c_.toC1.nd rfl (by first | exact .inl rfl | exact .inr rfl)) ges_nil))) (dss_cons (ds_putL (v_add (be_ve (ve_ix (c_.toC1.u 1) (be_pv (pv 1)) (be_ve (v_mod (be_pv (pv 2)) (be_ve ve_int))))) (be_ve (v_abs b_ (by rfl) (va_cons (be_pv (pv 3)) va_nil)))) (pv 1) (v_mod (be_pv (pv 2)) (be_ve ve_int)))
      dss_nil))
      (dss_freeze 1 (dss_cons (ds_retF (fe_lst (va_cons (be_pv (pv 1)) (va_cons (be_ve ve_int) (va_cons (be_ve ve_int) (va_cons (be_ve ve_int) va_nil))))))
      dss_nil))))
/-! ### _law_below -/
abbrev s__law_below : Stmt := PySem.Challenge.pw_answercut_k14_whole_line_or_triad.main.body.getD 26 (.Pass ⟨0, 0, 0, 0⟩)
def t__law_below : SM := (sseq (sif (mtest (mbin dLt (mv (mbin dIx (mopd 0) (mv (mret (.int 3))))) (mopd 1))) (sseq (spar 4 5 (mrv (mbin dIx (mopd 0) (mv (mret (.int 0))))) (mrv (mbin dIx (mopd 0) (mv (mret (.int 1))))))
  (sseq (sset 3 (mif (mtest (mbin dNe (mopd 4) (mv (mlst mnil)))) (mbin dIx (mopd 4) (mv (mbin dMod (mopd 5) (mv (mcb gLen (mcons (mopd 4) mnil)))))) (mret (.int 0))))
  (sseq (sif (morT (mtest (mbin dGe (mopd 5) (mv (mcb gLen (mcons (mopd 4) mnil))))) (mtest (mbin dLt (mopd 3) (mv (mbin dPow (mv (mret (.int 10))) (mv (mret (.int 16)))))))) (sseq (sset 3 (mcallV F__law_kneaded (mcons (mv (mbin dMod (mv (mcb gInt (mcons (mopd 3) mnil))) (mv (mret (.int 982451629))))) (mcons (mopd 5) mnil))))
  snext) snext)
  (sseq (sputL 0 (mbin dAdd (mopd 5) (mv (mret (.int 1)))) (mret (.int 1)))
  (sseq (sputL 0 (mvar 3) (mret (.int 2)))
  (sseq (sputL 0 (mvar 3) (mret (.int 3)))
  snext)))))) snext)
  (sseq (sset 2 (mbin dMod (mv (mcb gInt (mcons (mv (mbin dIx (mopd 0) (mv (mret (.int 2))))) mnil))) (mopd 1)))
  (sseq (sputL 0 (mbin dFdiv (mv (mbin dIx (mopd 0) (mv (mret (.int 2))))) (mopd 1)) (mret (.int 2)))
  (sseq (sputL 0 (mbin dFdiv (mv (mbin dIx (mopd 0) (mv (mret (.int 3))))) (mopd 1)) (mret (.int 3)))
  (sseq (sretv 2)
  snext)))))
def F__law_below : Fn := mkF [0] 2 6 t__law_below
theorem sc__law_below : FnScope ["pot", "bound", "found", "amount", "cells", "place"] ["pot", "bound"] (defScope s__law_below) := ⟨rfl, rfl, rfl, by decide +kernel, rfl, by decide +kernel, by decide +kernel⟩
theorem ok__law_below {P : Program} {w : World} {K : PySem.W.Frag} {mg : Str → Option Value} {base : Heap} {fa : Addr} {fd : FuncData} (b_ : Bi mg) (sys : ∃ o, base.get? sysModules = some o) (F : Fun K "_law_below" "_law_below" s__law_below fa fd) (hm : mg "_law_below" = some (.ref fa)) (hb : Binds K fd ["pot", "bound"] [])  (h__law_kneaded : FnD P w K mg base 1 "_law_kneaded" ["seed", "lap"] F__law_kneaded) :
    FnD P w K mg base 2 "_law_below" ["pot", "bound"] F__law_below :=
  fn_d (t := t__law_below) F sc__law_below [0] hm hb sys fun cdv A out s H E c_ => by
    unfold t__law_below
    exact (dss_cons (ds_if (t_lt (be_ve (ve_ix (c_.toC1.u 1) (be_pv (pv 0)) (be_ve ve_int))) (be_pv (pv 1))) (dss_cons (ds_par c_.toC1.calm c_.toC1.nd rfl rfl (by decide) rfl rfl (by decide) (by decide) (me_v (ve_ix (c_.toC1.u 1) (be_pv (pv 0)) (be_ve ve_int))) (me_v (ve_ix (c_.toC1.u 1) (be_pv (pv 0)) (be_ve ve_int))) rfl)
      (dss_cons (ds_set c_.toC1.nd rfl (by first | exact .inl rfl | exact .inr rfl) (by decide) (ve_if (t_ne c_.toC1 (be_pv (pv 4)) (be_ve (ve_lst va_nil))) (ve_ix (c_.toC1.u 1) (be_pv (pv 4)) (be_ve (v_mod (be_pv (pv 5)) (be_ve (v_len b_ (by rfl) (va_cons (be_pv (pv 4)) va_nil)))))) ve_int))
      (dss_cons (ds_if (vw_or (t_ge (be_pv (pv 5)) (be_ve (v_len b_ (by rfl) (va_cons (be_pv (pv 4)) va_nil)))) (vw_or1 (t_lt (be_pv (pv 3)) (be_ve (v_pow (be_ve ve_int) (be_ve ve_int)))))).vt (dss_cons (ds_set c_.toC1.nd rfl (by first | exact .inl rfl | exact .inr rfl) (by decide) (ve_call (h__law_kneaded.mono (by decide)) c_.toC1 (by rfl) (va_cons (be_ve (v_mod (be_ve (v_int b_ (by rfl) (va_cons (be_pv (pv 3)) va_nil))) (be_ve ve_int))) (va_cons (be_pv (pv 5)) va_nil))))
      dss_nil) dss_nil)
      (dss_cons (ds_putL (v_add (be_pv (pv 5)) (be_ve ve_int)) (pv 0) ve_int)
      (dss_cons (ds_putL (ve_pv (pv 3)) (pv 0) ve_int)
      (dss_cons (ds_putL (ve_pv (pv 3)) (pv 0) ve_int)
      dss_nil)))))) dss_nil)
      (dss_cons (ds_set c_.toC1.nd rfl (by first | exact .inl rfl | exact .inr rfl) (by decide) (v_mod (be_ve (v_int b_ (by rfl) (va_cons (be_ve (ve_ix (c_.toC1.u 1) (be_pv (pv 0)) (be_ve ve_int))) va_nil))) (be_pv (pv 1))))
      (dss_cons (ds_putL (v_fdiv (be_ve (ve_ix (c_.toC1.u 1) (be_pv (pv 0)) (be_ve ve_int))) (be_pv (pv 1))) (pv 0) ve_int)
      (dss_cons (ds_putL (v_fdiv (be_ve (ve_ix (c_.toC1.u 1) (be_pv (pv 0)) (be_ve ve_int))) (be_pv (pv 1))) (pv 0) ve_int)
      (dss_cons (ds_retv (pv 2) (by decide))
      dss_nil)))))
/-! ### _law_pick -/
abbrev s__law_pick : Stmt := PySem.Challenge.pw_answercut_k14_whole_line_or_triad.main.body.getD 27 (.Pass ⟨0, 0, 0, 0⟩)
def t__law_pick : SM := (sseq (sbind (mbin dIx (mopd 1) (mv (mcallV F__law_below (mcons (mopd 0) (mcons (mv (mcb gLen (mcons (mopd 1) mnil))) mnil))))) fun d ρ => .ret (.val d) ρ)
  snext)
def F__law_pick : Fn := mkF [0] 2 2 t__law_pick
theorem sc__law_pick : FnScope ["pot", "items"] ["pot", "items"] (defScope s__law_pick) := ⟨rfl, rfl, rfl, by decide +kernel, rfl, by decide +kernel, by decide +kernel⟩
theorem ok__law_pick {P : Program} {w : World} {K : PySem.W.Frag} {mg : Str → Option Value} {base : Heap} {fa : Addr} {fd : FuncData} (b_ : Bi mg) (sys : ∃ o, base.get? sysModules = some o) (F : Fun K "_law_pick" "_law_pick" s__law_pick fa fd) (hm : mg "_law_pick" = some (.ref fa)) (hb : Binds K fd ["pot", "items"] [])  (h__law_below : FnD P w K mg base 2 "_law_below" ["pot", "bound"] F__law_below) :
    FnD P w K mg base 3 "_law_pick" ["pot", "items"] F__law_pick :=
  fn_d (t := t__law_pick) F sc__law_pick [0] hm hb sys fun cdv A out s H E c_ => by
    unfold t__law_pick
    exact (dss_cons (ds_ret (ve_ix (c_.toC1.u 1) (be_pv (pv 1)) (be_ve (ve_call (h__law_below.mono (by decide)) c_.toC1 (by rfl) (va_cons (be_pv (pv 0)) (va_cons (be_ve (v_len b_ (by rfl) (va_cons (be_pv (pv 1)) va_nil))) va_nil))))))
      dss_nil)
/-! ### _law_same -/
abbrev s__law_same : Stmt := PySem.Challenge.pw_answercut_k14_whole_line_or_triad.main.body.getD 28 (.Pass ⟨0, 0, 0, 0⟩)
def t__law_same : SM := (sseq (sbind (mbin dEq (mv (mcb gRepr (mcons (mopd 0) mnil))) (mv (mcb gRepr (mcons (mopd 1) mnil)))) fun d ρ => .ret (.val d) ρ)
  snext)
def F__law_same : Fn := mkF [] 2 2 t__law_same
theorem sc__law_same : FnScope ["one", "other"] ["one", "other"] (defScope s__law_same) := ⟨rfl, rfl, rfl, by decide +kernel, rfl, by decide +kernel, by decide +kernel⟩
theorem ok__law_same {P : Program} {w : World} {K : PySem.W.Frag} {mg : Str → Option Value} {base : Heap} {fa : Addr} {fd : FuncData} (b_ : Bi mg) (sys : ∃ o, base.get? sysModules = some o) (F : Fun K "_law_same" "_law_same" s__law_same fa fd) (hm : mg "_law_same" = some (.ref fa)) (hb : Binds K fd ["one", "other"] [])   :
    FnD P w K mg base 1 "_law_same" ["one", "other"] F__law_same :=
  fn_d (t := t__law_same) F sc__law_same [] hm hb sys fun cdv A out s H E c_ => by
    unfold t__law_same
    exact (dss_cons (ds_ret (v_eq c_.toC1 (be_ve (v_repr c_.toC1 b_ (by rfl) (va_cons (be_pv (pv 0)) va_nil))) (be_ve (v_repr c_.toC1 b_ (by rfl) (va_cons (be_pv (pv 1)) va_nil)))))
      dss_nil)
/-! ### _law_shapes -/
abbrev s__law_shapes : Stmt := PySem.Challenge.pw_answercut_k14_whole_line_or_triad.main.body.getD 29 (.Pass ⟨0, 0, 0, 0⟩)
def t__law_shapes : SM := (sseq (sset 0 (mlst (mcons (mv (mret (.str "x xy y"))) (mcons (mv (mret (.str "xy yz zw"))) (mcons (mv (mret (.str "xy yz zx"))) (mcons (mv (mret (.str "x y xy"))) (mcons (mv (mret (.str "xy yz z y"))) (mcons (mv (mret (.str "xy xz xw"))) (mcons (mv (mret (.str "x xy z zw"))) (mcons (mv (mret (.str "x y z xyz"))) (mcons (mv (mret (.str "xyz x"))) mnil)))))))))))
  (sseq (sset 0 (mbin dAdd (mopd 0) (mv (mlst (mcons (mv (mret (.str "x"))) (mcons (mv (mret (.str "- xx"))) (mcons (mv (mret (.str "xy yx"))) (mcons (mv (mret (.str "xy yz zw wx"))) (mcons (mv (mret (.str "xy y yz zu u"))) (mcons (mv (mret (.str "x x xy y"))) (mcons (mv (mret (.str "xv vy vz x z"))) (mcons (mv (mret (.str "x xyz yu zu u"))) mnil))))))))))))
  (sseq (sset 0 (mbin dAdd (mopd 0) (mv (mlst (mcons (mv (mret (.str "x xy y yz z zu"))) (mcons (mv (mret (.str "xy yz zu x z u"))) (mcons (mv (mret (.str "- - x"))) (mcons (mv (mret (.str "- -"))) (mcons (mv (mret (.str "w xy yz zx"))) (mcons (mv (mret (.str "xy yz zx w"))) (mcons (mv (mret (.str "w wu xy yz zx"))) mnil)))))))))))
  (sseq (ssetF 1 (mlst mnil))
  (sseq (sfor (mitL (mvar 0)) (mName 2) (sseq (sbind (mmut 1 "list" gAppend (mcons (mv (mlc (mitL (msplit (mvar 2) (mret (.str " ")))) (mName 3) (mret true) (mlc (mitS (mvar 3)) (mName 4) (mtest (mbin dNe (mopd 4) (mv (mret (.str "-"))))) (mvar 4) [4]) [3])) mnil)) fun _ => snext)
  snext))
  (sseq (sretv 1)
  snext))))))
def F__law_shapes : Fn := mkF [] 0 5 t__law_shapes
theorem sc__law_shapes : FnScope ["texts", "found", "text", "atom", "sign"] [] (defScope s__law_shapes) := ⟨rfl, rfl, rfl, by decide +kernel, rfl, by decide +kernel, by decide +kernel⟩
theorem ok__law_shapes {P : Program} {w : World} {K : PySem.W.Frag} {mg : Str → Option Value} {base : Heap} {fa : Addr} {fd : FuncData} (b_ : Bi mg) (sys : ∃ o, base.get? sysModules = some o) (F : Fun K "_law_shapes" "_law_shapes" s__law_shapes fa fd) (hm : mg "_law_shapes" = some (.ref fa)) (hb : Binds K fd [] [])   :
    FnD P w K mg base 1 "_law_shapes" [] F__law_shapes :=
  fn_d (t := t__law_shapes) F sc__law_shapes [] hm hb sys fun cdv A out s H E c_ => by
    unfold t__law_shapes
    exact (dss_cons (ds_set c_.toC1.nd rfl (by first | exact .inl rfl | exact .inr rfl) (by decide) (ve_lst (va_cons (be_ve ve_str) (va_cons (be_ve ve_str) (va_cons (be_ve ve_str) (va_cons (be_ve ve_str) (va_cons (be_ve ve_str) (va_cons (be_ve ve_str) (va_cons (be_ve ve_str) (va_cons (be_ve ve_str) (va_cons (be_ve ve_str) va_nil)))))))))))
      (dss_cons (ds_set c_.toC1.nd rfl (by first | exact .inl rfl | exact .inr rfl) (by decide) (v_add (be_pv (pv 0)) (be_ve (ve_lst (va_cons (be_ve ve_str) (va_cons (be_ve ve_str) (va_cons (be_ve ve_str) (va_cons (be_ve ve_str) (va_cons (be_ve ve_str) (va_cons (be_ve ve_str) (va_cons (be_ve ve_str) (va_cons (be_ve ve_str) va_nil))))))))))))
      (dss_cons (ds_set c_.toC1.nd rfl (by first | exact .inl rfl | exact .inr rfl) (by decide) (v_add (be_pv (pv 0)) (be_ve (ve_lst (va_cons (be_ve ve_str) (va_cons (be_ve ve_str) (va_cons (be_ve ve_str) (va_cons (be_ve ve_str) (va_cons (be_ve ve_str) (va_cons (be_ve ve_str) (va_cons (be_ve ve_str) va_nil)))))))))))
      (dss_cons (ds_setF c_.toC1.nd rfl (by first | exact .inl rfl | exact .inr rfl) (by decide) (fe_lst va_nil))
      (dss_cons (ds_for c_.po c_.toC1.calm (by decide) (ie_list (ve_pv (pv 0))) (ge_name c_.toC1.nd rfl (by first | exact .inl rfl | exact .inr rfl)) (dss_cons (ds_expr (ve_mut PySem.F.plainAttrs_list PySem.F.slot_list_append PySem.F.type_list_append mt_append md_append (pv 1) (va_cons (be_ve (ve_fe (fe_lc (ts := [3]) (own := [("atom", 3)]) c_.toC1.calm c_.toC1.nd ⟨(ie_list (ve_fe (fe_split (ve_pv (pv 2)) ve_str))), blkOk_by (by kernel_rfl), rfl, (by decide), fun s_ H_ C_0 cl_ fp_ => (ge_name (c_.toC1.blk _ s_ H_ C_0 cl_ fp_).nd rfl (by first | exact .inl rfl | exact .inr rfl)), fun s_ H_ C_0 cl_ fp_ => vts_nil, fun s_ H_ C_0 cl_ fp_ => (ve_fe (fe_lc (ts := [4]) (own := [("sign", 4)]) (c_.toC1.blk _ s_ H_ C_0 cl_ fp_).calm (c_.toC1.blk _ s_ H_ C_0 cl_ fp_).nd ⟨(ie_str (ve_pv (pv 3))), blkOk_by (by kernel_rfl), rfl, (by decide), fun s_ H_ C_0 cl_ fp_ => (ge_name ((c_.toC1.blk _ s_ H_ C_0 cl_ fp_).blk _ s_ H_ C_0 cl_ fp_).nd rfl (by first | exact .inl rfl | exact .inr rfl)), fun s_ H_ C_0 cl_ fp_ => (vts_one (t_ne ((c_.toC1.blk _ s_ H_ C_0 cl_ fp_).blk _ s_ H_ C_0 cl_ fp_) (be_pv (pv 4)) (be_ve ve_str))), fun s_ H_ C_0 cl_ fp_ => (ve_pv (pv 4))⟩))⟩))) va_nil)))
      dss_nil))
      (dss_cons (ds_retv (pv 1) (by decide))
      dss_nil))))))
/-! ### _law_some_question -/
abbrev s__law_some_question : Stmt := PySem.Challenge.pw_answercut_k14_whole_line_or_triad.main.body.getD 30 (.Pass ⟨0, 0, 0, 0⟩)
def t__law_some_question : SM := (sseq (sset 1 (mcallV F__law_pick (mcons (mopd 0) (mcons (mv (mbin dAdd (mv (mcallF F__law_shapes mnil)) (mv (mlst (mcons (mv (mret .none)) (mcons (mv (mret .none)) (mcons (mv (mret .none)) mnil))))))) mnil))))
  (sseq (sif (mtest (mbin gIsN (mopd 1) (mv (mret .none)))) (sseq (ssetF 1 (mlst mnil))
  (sseq (sforR (mitR1 (mcons (mv (mbin dAdd (mv (mret (.int 1))) (mv (mcallV F__law_below (mcons (mopd 0) (mcons (mv (mret (.int 5))) mnil)))))) mnil)) (mName 5) (sseq (sbind (mmut 1 "list" gAppend (mcons (mv (mlc (mitR1 (mcons (mv (mbin dAdd (mv (mret (.int 1))) (mv (mcallV F__law_below (mcons (mopd 0) (mcons (mv (mret (.int 3))) mnil)))))) mnil)) (mName 12) (mret true) (mcallV F__law_pick (mcons (mopd 0) (mcons (mv (mcb gListA (mcons (mv (mret (.str "wxyzu"))) mnil))) mnil))) [12])) mnil)) fun _ => snext)
  snext))
  snext)) snext)
  (sseq (spar 6 7 (mro (mcb gListA (mcons (mopd 1) mnil))) (mro (mlst mnil)))
  (sseq (ssetF 2 (mlst (mcons (mv (mret (.str "r"))) (mcons (mv (mret (.str "a"))) (mcons (mv (mret (.str "t1"))) (mcons (mv (mret (.str "s"))) (mcons (mv (mret (.str "big"))) (mcons (mv (mret (.str "c"))) mnil))))))))
  (sseq (swhile (mtest (mbin dNe (mopd 6) (mv (mlst mnil)))) (sseq (sset 8 (mmut 6 "list" gPopAt (mcons (mv (mcallV F__law_below (mcons (mopd 0) (mcons (mv (mcb gLen (mcons (mopd 6) mnil))) mnil)))) mnil)))
  (sseq (sif (morT (mtest (mbin dEq (mopd 8) (mv (mlst mnil)))) (mtest (mbin dEq (mv (mcallV F__law_below (mcons (mopd 0) (mcons (mv (mret (.int 6))) mnil)))) (mv (mret (.int 0)))))) (sseq (sset 10 (mcallV F__law_below (mcons (mopd 0) (mcons (mv (mbin dAdd (mv (mcb gLen (mcons (mopd 8) mnil))) (mv (mret (.int 1))))) mnil))))
  (sseq (sset 8 (mbin dAdd (mv (mbin dAdd (mv (mslice (mopd 8) (mret none) (mpart (mvar 10)))) (mv (mlst (mcons (mv (mcallV F__law_below (mcons (mopd 0) (mcons (mv (mret (.int 3))) mnil)))) mnil))))) (mv (mslice (mopd 8) (mpart (mvar 10)) (mret none)))))
  snext)) snext)
  (sseq (sbind (mmut 7 "list" gAppend (mcons (mv (mtup (mcons (mv (mmut 2 "list" gPopAt (mcons (mv (mcallV F__law_below (mcons (mopd 0) (mcons (mv (mcb gLen (mcons (mopd 2) mnil))) mnil)))) mnil))) (mcons (mv (mcb gTup (mcons (mopd 8) mnil))) mnil)))) mnil)) fun _ => snext)
  snext))) 1000)
  (sfz 7 (sseq (sset 3 (mcallV F__law_pick (mcons (mopd 0) (mcons (mv (mbin dAdd (mv (mlst (mcons (mv (mret (.str "x"))) (mcons (mv (mret (.str "y"))) mnil)))) (mv (mlc (mitL (mvar 7)) (mName 11) (mret true) (mbin dIx (mopd 11) (mv (mret (.int 0)))) [11])))) mnil))))
  (sseq (ssetF 4 (mlst mnil))
  (sseq (sfor (mitL (mvar 7)) (mTup [(mName 9), (mName 8)]) (sseq (sbind (mmut 4 "list" gAppend (mcons (mv (mtup (mcons (mopd 9) (mcons (mv (mcb gTup (mcons (mv (mlc (mitT (mvar 8)) (mName 12) (mret true) (mif (mtest (mbin dEq (mopd 12) (mv (mret (.str "x"))))) (mvar 3) (mvar 12)) [12])) mnil))) mnil)))) mnil)) fun _ => snext)
  snext))
  (sseq (sbind (mtup (mcons (mv (mtup mnil)) (mcons (mv (mcb gTup (mcons (mopd 4) mnil))) mnil))) fun d ρ => .ret (.val d) ρ)
  snext))))))))))
def F__law_some_question : Fn := mkF [0] 1 13 t__law_some_question
theorem sc__law_some_question : FnScope ["pot", "names", "tables", "name", "told", "turn", "left", "atoms", "parts", "table", "place", "atom", "part"] ["pot"] (defScope s__law_some_question) := ⟨rfl, rfl, rfl, by decide +kernel, rfl, by decide +kernel, by decide +kernel⟩
theorem ok__law_some_question {P : Program} {w : World} {K : PySem.W.Frag} {mg : Str → Option Value} {base : Heap} {fa : Addr} {fd : FuncData} (b_ : Bi mg) (sys : ∃ o, base.get? sysModules = some o) (F : Fun K "_law_some_question" "_law_some_question" s__law_some_question fa fd) (hm : mg "_law_some_question" = some (.ref fa)) (hb : Binds K fd ["pot"] [])  (h__law_pick : FnD P w K mg base 3 "_law_pick" ["pot", "items"] F__law_pick) (h__law_shapes : FnD P w K mg base 1 "_law_shapes" [] F__law_shapes) (h__law_below : FnD P w K mg base 2 "_law_below" ["pot", "bound"] F__law_below) :
    FnD P w K mg base 4 "_law_some_question" ["pot"] F__law_some_question :=
  fn_d (t := t__law_some_question) F sc__law_some_question [0] hm hb sys fun cdv A out s H E c_ => by
    unfold t__law_some_question
    exact (dss_cons (ds_set c_.toC1.nd rfl (by first | exact .inl rfl | exact .inr rfl) (by decide) (ve_call (h__law_pick.mono (by decide)) c_.toC1 (by rfl) (va_cons (be_pv (pv 0)) (va_cons (be_ve (v_add (be_ve (ve_fe (fe_call0 (h__law_shapes.mono (by decide)) c_.toC1 (by rfl)))) (be_ve (ve_lst (va_cons (be_ve ve_non) (va_cons (be_ve ve_non) (va_cons (be_ve ve_non) va_nil))))))) va_nil))))
      (dss_cons (ds_if (t_is (be_pv (pv 1)) (be_ve ve_non)) (dss_cons (ds_setF c_.toC1.nd rfl (by first | exact .inl rfl | exact .inr rfl) (by decide) (fe_lst va_nil))
      (dss_cons (ds_forR c_.po c_.toC1.calm (by decide) (ir_range1 (by rfl) b_.range (va_cons (be_ve (v_add (be_ve ve_int) (be_ve (ve_call (h__law_below.mono (by decide)) c_.toC1 (by rfl) (va_cons (be_pv (pv 0)) (va_cons (be_ve ve_int) va_nil)))))) va_nil)) (ge_name c_.toC1.nd rfl (by first | exact .inl rfl | exact .inr rfl)) (dss_cons (ds_expr (ve_mut PySem.F.plainAttrs_list PySem.F.slot_list_append PySem.F.type_list_append mt_append md_append (pv 1) (va_cons (be_ve (ve_fe (fe_lc (ts := [12]) (own := [("part", 12)]) c_.toC1.calm c_.toC1.nd ⟨(ie_ir (ir_range1 (by rfl) b_.range (va_cons (be_ve (v_add (be_ve ve_int) (be_ve (ve_call (h__law_below.mono (by decide)) c_.toC1 (by rfl) (va_cons (be_pv (pv 0)) (va_cons (be_ve ve_int) va_nil)))))) va_nil))), blkOk_by (by kernel_rfl), rfl, (by decide), fun s_ H_ C_0 cl_ fp_ => (ge_name (c_.toC1.blk _ s_ H_ C_0 cl_ fp_).nd rfl (by first | exact .inl rfl | exact .inr rfl)), fun s_ H_ C_0 cl_ fp_ => vts_nil, fun s_ H_ C_0 cl_ fp_ => (ve_call (h__law_pick.mono (by decide)) (c_.toC1.blk _ s_ H_ C_0 cl_ fp_) (by rfl) (va_cons (be_pv (pv 0)) (va_cons (be_ve (ve_fe (f_list (c_.toC1.blk _ s_ H_ C_0 cl_ fp_) b_ (by rfl) (va_cons (be_ve ve_str) va_nil)))) va_nil)))⟩))) va_nil)))
      dss_nil))
      dss_nil)) dss_nil)
      (dss_cons (ds_par c_.toC1.calm c_.toC1.nd rfl rfl (by decide) rfl rfl (by decide) (by decide) (me_o (f_list c_.toC1 b_ (by rfl) (va_cons (be_pv (pv 1)) va_nil))) (me_o (fe_lst va_nil)) rfl)
      (dss_cons (ds_setF c_.toC1.nd rfl (by first | exact .inl rfl | exact .inr rfl) (by decide) (fe_lst (va_cons (be_ve ve_str) (va_cons (be_ve ve_str) (va_cons (be_ve ve_str) (va_cons (be_ve ve_str) (va_cons (be_ve ve_str) (va_cons (be_ve ve_str) va_nil))))))))
      (dss_cons (ds_while 1000 c_.po (t_ne c_.toC1 (be_pv (pv 6)) (be_ve (ve_lst va_nil))) (dss_cons (ds_set c_.toC1.nd rfl (by first | exact .inl rfl | exact .inr rfl) (by decide) (ve_mut PySem.F.plainAttrs_list PySem.F.slot_list_pop PySem.F.type_list_pop mt_popAt md_popAt (pv 6) (va_cons (be_ve (ve_call (h__law_below.mono (by decide)) c_.toC1 (by rfl) (va_cons (be_pv (pv 0)) (va_cons (be_ve (v_len b_ (by rfl) (va_cons (be_pv (pv 6)) va_nil))) va_nil)))) va_nil)))
      (dss_cons (ds_if (vw_or (t_eq c_.toC1 (be_pv (pv 8)) (be_ve (ve_lst va_nil))) (vw_or1 (t_eq c_.toC1 (be_ve (ve_call (h__law_below.mono (by decide)) c_.toC1 (by rfl) (va_cons (be_pv (pv 0)) (va_cons (be_ve ve_int) va_nil)))) (be_ve ve_int)))).vt (dss_cons (ds_set c_.toC1.nd rfl (by first | exact .inl rfl | exact .inr rfl) (by decide) (ve_call (h__law_below.mono (by decide)) c_.toC1 (by rfl) (va_cons (be_pv (pv 0)) (va_cons (be_ve (v_add (be_ve (v_len b_ (by rfl) (va_cons (be_pv (pv 8)) va_nil))) (be_ve ve_int))) va_nil))))
      (dss_cons (ds_set c_.toC1.nd rfl (by first | exact .inl rfl | exact .inr rfl) (by decide) (v_add (be_ve (v_add (be_ve (ve_slice (be_pv (pv 8)) oe_none (oe_some (ve_pv (pv 10))))) (be_ve (ve_lst (va_cons (be_ve (ve_call (h__law_below.mono (by decide)) c_.toC1 (by rfl) (va_cons (be_pv (pv 0)) (va_cons (be_ve ve_int) va_nil)))) va_nil))))) (be_ve (ve_slice (be_pv (pv 8)) (oe_some (ve_pv (pv 10))) oe_none))))
      dss_nil)) dss_nil)
      (dss_cons (ds_expr (ve_mut PySem.F.plainAttrs_list PySem.F.slot_list_append PySem.F.type_list_append mt_append md_append (pv 7) (va_cons (be_ve (ve_tup (va_cons (be_ve (ve_mut PySem.F.plainAttrs_list PySem.F.slot_list_pop PySem.F.type_list_pop mt_popAt md_popAt (pv 2) (va_cons (be_ve (ve_call (h__law_below.mono (by decide)) c_.toC1 (by rfl) (va_cons (be_pv (pv 0)) (va_cons (be_ve (v_len b_ (by rfl) (va_cons (be_pv (pv 2)) va_nil))) va_nil)))) va_nil))) (va_cons (be_ve (v_tuple b_ (by rfl) (va_cons (be_pv (pv 8)) va_nil))) va_nil)))) va_nil)))
      dss_nil))))
      (dss_freeze 7 (dss_cons (ds_set c_.toC1.nd rfl (by first | exact .inl rfl | exact .inr rfl) (by decide) (ve_call (h__law_pick.mono (by decide)) c_.toC1 (by rfl) (va_cons (be_pv (pv 0)) (va_cons (be_ve (v_add (be_ve (ve_lst (va_cons (be_ve ve_str) (va_cons (be_ve ve_str) va_nil)))) (be_ve (ve_fe (fe_lc (ts := [11]) (own := [("atom", 11)]) c_.toC1.calm c_.toC1.nd ⟨(ie_list (ve_pv (pv 7))), blkOk_by (by kernel_rfl), rfl, (by decide), fun s_ H_ C_0 cl_ fp_ => (ge_name (c_.toC1.blk _ s_ H_ C_0 cl_ fp_).nd rfl (by first | exact .inl rfl | exact .inr rfl)), fun s_ H_ C_0 cl_ fp_ => vts_nil, fun s_ H_ C_0 cl_ fp_ => (ve_ix ((c_.toC1.blk _ s_ H_ C_0 cl_ fp_).u 1) (be_pv (pv 11)) (be_ve ve_int))⟩))))) va_nil))))
      (dss_cons (ds_setF c_.toC1.nd rfl (by first | exact .inl rfl | exact .inr rfl) (by decide) (fe_lst va_nil))
      (dss_cons (ds_for c_.po c_.toC1.calm (by decide) (ie_list (ve_pv (pv 7))) (ge_tup c_.toC1.calm (ges_cons (ge_name c_.toC1.nd rfl (by first | exact .inl rfl | exact .inr rfl)) (ges_cons (ge_name c_.toC1.nd rfl (by first | exact .inl rfl | exact .inr rfl)) ges_nil))) (dss_cons (ds_expr (ve_mut PySem.F.plainAttrs_list PySem.F.slot_list_append PySem.F.type_list_append mt_append md_append (pv 4) (va_cons (be_ve (ve_tup (va_cons (be_pv (pv 9)) (va_cons (be_ve (v_tuple b_ (by rfl) (va_cons (be_ve (ve_fe (fe_lc (ts := [12]) (own := [("part", 12)]) c_.toC1.calm c_.toC1.nd ⟨(ie_tup (ve_pv (pv 8))), blkOk_by (by kernel_rfl), rfl, (by decide), fun s_ H_ C_0 cl_ fp_ => (ge_name (c_.toC1.blk _ s_ H_ C_0 cl_ fp_).nd rfl (by first | exact .inl rfl | exact .inr rfl)), fun s_ H_ C_0 cl_ fp_ => vts_nil, fun s_ H_ C_0 cl_ fp_ => (ve_if (t_eq (c_.toC1.blk _ s_ H_ C_0 cl_ fp_) (be_pv (pv 12)) (be_ve ve_str)) (ve_pv (pv 3)) (ve_pv (pv 12)))⟩))) va_nil))) va_nil)))) va_nil)))
      dss_nil))
      (dss_cons (ds_ret (ve_tup (va_cons (be_ve (ve_tup va_nil)) (va_cons (be_ve (v_tuple b_ (by rfl) (va_cons (be_pv (pv 4)) va_nil))) va_nil))))
      dss_nil))))))))))
/-! ### _law_some_prices -/
abbrev s__law_some_prices : Stmt := PySem.Challenge.pw_answercut_k14_whole_line_or_triad.main.body.getD 32 (.Pass ⟨0, 0, 0, 0⟩)
def t__law_some_prices : SM := (sseq (sset 2 (mcallV F__law_pick (mcons (mopd 0) (mcons (mv (mlst (mcons (mv (mlst (mcons (mv (mret (.int 1))) mnil))) (mcons (mv (mlst (mcons (mv (mret (.int 1))) (mcons (mv (mret (.int 2))) (mcons (mv (mret (.int 3))) mnil))))) (mcons (mv (mlst (mcons (mv (mret (.int 1))) (mcons (mv (mret (.int 2))) (mcons (mv (mret (.int 3))) (mcons (mv (mret .none)) mnil)))))) (mcons (mv (mlst (mcons (mv (mret (.int 1))) (mcons (mv (mret (.int 1))) (mcons (mv (mret .none)) mnil))))) (mcons (mv (mlst (mcons (mv (mbin dPow (mv (mret (.int 10))) (mv (mret (.int 30))))) (mcons (mv (mbin dSub (mv (mbin dPow (mv (mret (.int 10))) (mv (mret (.int 30))))) (mv (mret (.int 1))))) (mcons (mv (mret (.int 7))) mnil))))) mnil))))))) mnil))))
  (sseq (spar 3 4 (mro (mlc (mitT (mbin dIx (mopd 1) (mv (mret (.int 1))))) (mTup [(mName 5), (mName 6)]) (mret true) (mvar 5) [5, 6])) (mro (mret (.dict []))))
  (sseq (swhile (mtest (mbin dNe (mopd 3) (mv (mlst mnil)))) (sseq (sset 5 (mmut 3 "list" gPopAt (mcons (mv (mcallV F__law_below (mcons (mopd 0) (mcons (mv (mcb gLen (mcons (mopd 3) mnil))) mnil)))) mnil)))
  (sseq (sputD 4 (mcallV F__law_pick (mcons (mopd 0) (mcons (mopd 2) mnil))) (mvar 5))
  snext)) 1000)
  (sseq (sretv 4)
  snext))))
def F__law_some_prices : Fn := mkF [0] 2 7 t__law_some_prices
theorem sc__law_some_prices : FnScope ["pot", "question", "some", "tables", "found", "table", "parts"] ["pot", "question"] (defScope s__law_some_prices) := ⟨rfl, rfl, rfl, by decide +kernel, rfl, by decide +kernel, by decide +kernel⟩
theorem ok__law_some_prices {P : Program} {w : World} {K : PySem.W.Frag} {mg : Str → Option Value} {base : Heap} {fa : Addr} {fd : FuncData} (b_ : Bi mg) (sys : ∃ o, base.get? sysModules = some o) (F : Fun K "_law_some_prices" "_law_some_prices" s__law_some_prices fa fd) (hm : mg "_law_some_prices" = some (.ref fa)) (hb : Binds K fd ["pot", "question"] [])  (h__law_pick : FnD P w K mg base 3 "_law_pick" ["pot", "items"] F__law_pick) (h__law_below : FnD P w K mg base 2 "_law_below" ["pot", "bound"] F__law_below) :
    FnD P w K mg base 4 "_law_some_prices" ["pot", "question"] F__law_some_prices :=
  fn_d (t := t__law_some_prices) F sc__law_some_prices [0] hm hb sys fun cdv A out s H E c_ => by
    unfold t__law_some_prices
    exact (dss_cons (ds_set c_.toC1.nd rfl (by first | exact .inl rfl | exact .inr rfl) (by decide) (ve_call (h__law_pick.mono (by decide)) c_.toC1 (by rfl) (va_cons (be_pv (pv 0)) (va_cons (be_ve (ve_lst (va_cons (be_ve (ve_lst (va_cons (be_ve ve_int) va_nil))) (va_cons (be_ve (ve_lst (va_cons (be_ve ve_int) (va_cons (be_ve ve_int) (va_cons (be_ve ve_int) va_nil))))) (va_cons (be_ve (ve_lst (va_cons (be_ve ve_int) (va_cons (be_ve ve_int) (va_cons (be_ve ve_int) (va_cons (be_ve ve_non) va_nil)))))) (va_cons (be_ve (ve_lst (va_cons (be_ve ve_int) (va_cons (be_ve ve_int) (va_cons (be_ve ve_non) va_nil))))) (va_cons (be_ve (ve_lst (va_cons (be_ve (v_pow (be_ve ve_int) (be_ve ve_int))) (va_cons (be_ve (v_sub (be_ve (v_pow (be_ve ve_int) (be_ve ve_int))) (be_ve ve_int))) (va_cons (be_ve ve_int) va_nil))))) va_nil))))))) va_nil))))
      (dss_cons (ds_par c_.toC1.calm c_.toC1.nd rfl rfl (by decide) rfl rfl (by decide) (by decide) (me_o (fe_lc (ts := [5, 6]) (own := [("table", 5), ("parts", 6)]) c_.toC1.calm c_.toC1.nd ⟨(ie_tup (ve_ix (c_.toC1.u 1) (be_pv (pv 1)) (be_ve ve_int))), blkOk_by (by kernel_rfl), rfl, (by decide), fun s_ H_ C_0 cl_ fp_ => (ge_tup (c_.toC1.blk _ s_ H_ C_0 cl_ fp_).calm (ges_cons (ge_name (c_.toC1.blk _ s_ H_ C_0 cl_ fp_).nd rfl (by first | exact .inl rfl | exact .inr rfl)) (ges_cons (ge_name (c_.toC1.blk _ s_ H_ C_0 cl_ fp_).nd rfl (by first | exact .inl rfl | exact .inr rfl)) ges_nil))), fun s_ H_ C_0 cl_ fp_ => vts_nil, fun s_ H_ C_0 cl_ fp_ => (ve_pv (pv 5))⟩)) (me_o fe_dnew) rfl)
      (dss_cons (ds_while 1000 c_.po (t_ne c_.toC1 (be_pv (pv 3)) (be_ve (ve_lst va_nil))) (dss_cons (ds_set c_.toC1.nd rfl (by first | exact .inl rfl | exact .inr rfl) (by decide) (ve_mut PySem.F.plainAttrs_list PySem.F.slot_list_pop PySem.F.type_list_pop mt_popAt md_popAt (pv 3) (va_cons (be_ve (ve_call (h__law_below.mono (by decide)) c_.toC1 (by rfl) (va_cons (be_pv (pv 0)) (va_cons (be_ve (v_len b_ (by rfl) (va_cons (be_pv (pv 3)) va_nil))) va_nil)))) va_nil)))
      (dss_cons (ds_putD (c_.toC1.u 1) (ve_call (h__law_pick.mono (by decide)) c_.toC1 (by rfl) (va_cons (be_pv (pv 0)) (va_cons (be_pv (pv 2)) va_nil))) (pv 4) (ve_pv (pv 5)))
      dss_nil)))
      (dss_cons (ds_retv (pv 4) (by decide))
      dss_nil))))
/-! ### _law_own_names -/
abbrev s__law_own_names : Stmt := PySem.Challenge.pw_answercut_k14_whole_line_or_triad.main.body.getD 37 (.Pass ⟨0, 0, 0, 0⟩)
def t__law_own_names : SM := (sseq (ssetF 1 (mret (.dict [])))
  (sseq (sfor (mitT (mbin dIx (mopd 0) (mv (mret (.int 1))))) (mTup [(mName 2), (mName 3)]) (sseq (sputD 1 (mlc (mitT (mvar 3)) (mName 4) (mtest (misi "str" (mopd 4))) (mvar 4) [4]) (mvar 2))
  snext))
  (sseq (sretv 1)
  snext)))
def F__law_own_names : Fn := mkF [] 1 5 t__law_own_names
theorem sc__law_own_names : FnScope ["question", "found", "table", "parts", "part"] ["question"] (defScope s__law_own_names) := ⟨rfl, rfl, rfl, by decide +kernel, rfl, by decide +kernel, by decide +kernel⟩
theorem ok__law_own_names {P : Program} {w : World} {K : PySem.W.Frag} {mg : Str → Option Value} {base : Heap} {fa : Addr} {fd : FuncData} (b_ : Bi mg) (sys : ∃ o, base.get? sysModules = some o) (F : Fun K "_law_own_names" "_law_own_names" s__law_own_names fa fd) (hm : mg "_law_own_names" = some (.ref fa)) (hb : Binds K fd ["question"] [])   :
    FnD P w K mg base 1 "_law_own_names" ["question"] F__law_own_names :=
  fn_d (t := t__law_own_names) F sc__law_own_names [] hm hb sys fun cdv A out s H E c_ => by
    unfold t__law_own_names
    exact (dss_cons (ds_setF c_.toC1.nd rfl (by first | exact .inl rfl | exact .inr rfl) (by decide) fe_dnew)
      (dss_cons (ds_for c_.po c_.toC1.calm (by decide) (ie_tup (ve_ix (c_.toC1.u 1) (be_pv (pv 0)) (be_ve ve_int))) (ge_tup c_.toC1.calm (ges_cons (ge_name c_.toC1.nd rfl (by first | exact .inl rfl | exact .inr rfl)) (ges_cons (ge_name c_.toC1.nd rfl (by first | exact .inl rfl | exact .inr rfl)) ges_nil))) (dss_cons (ds_putD (c_.toC1.u 1) (ve_fe (fe_lc (ts := [4]) (own := [("part", 4)]) c_.toC1.calm c_.toC1.nd ⟨(ie_tup (ve_pv (pv 3))), blkOk_by (by kernel_rfl), rfl, (by decide), fun s_ H_ C_0 cl_ fp_ => (ge_name (c_.toC1.blk _ s_ H_ C_0 cl_ fp_).nd rfl (by first | exact .inl rfl | exact .inr rfl)), fun s_ H_ C_0 cl_ fp_ => (vts_one (vt_val (ve_isi ka_str (by rfl) b_.isinstance (by rfl) b_.str (by decide +kernel) (be_pv (pv 4))))), fun s_ H_ C_0 cl_ fp_ => (ve_pv (pv 4))⟩)) (pv 1) (ve_pv (pv 2)))
      dss_nil))
      (dss_cons (ds_retv (pv 1) (by decide))
      dss_nil)))
/-! ### _law_reached -/
abbrev s__law_reached : Stmt := PySem.Challenge.pw_answercut_k14_whole_line_or_triad.main.body.getD 38 (.Pass ⟨0, 0, 0, 0⟩)
def t__law_reached : SM := (sseq (spar 3 4 (mro (mlst (mcons (mopd 1) mnil))) (mrv (mret (.int 0))))
  (sseq (swhile (mtest (mbin dLt (mopd 4) (mv (mcb gLen (mcons (mopd 3) mnil))))) (sseq (sset 5 (mlc (mitL (mbin dIx (mopd 0) (mv (mbin dIx (mopd 3) (mopd 4))))) (mName 7) (mtest (mbin dNotIn (mopd 7) (mopd 2))) (mvar 7) [7]))
  (sseq (sfor (mitK (mvar 0)) (mName 6) (sseq (sif (mandT (mtest (mbin dNotIn (mopd 6) (mopd 3))) (mtest (mbin dNe (mv (mlc (mitL (mbin dIx (mopd 0) (mopd 6))) (mName 7) (mtest (mbin dIn (mopd 7) (mopd 5))) (mvar 7) [7])) (mv (mlst mnil))))) (sseq (sbind (mmut 3 "list" gAppend (mcons (mopd 6) mnil)) fun _ => snext)
  snext) snext)
  snext))
  (sseq (sset 4 (mbin dAdd (mopd 4) (mv (mret (.int 1)))))
  snext))) 100)
  (sseq (sretv 3)
  snext)))
def F__law_reached : Fn := mkF [] 3 8 t__law_reached
theorem sc__law_reached : FnScope ["own", "start", "without", "found", "place", "some", "table", "name"] ["own", "start", "without"] (defScope s__law_reached) := ⟨rfl, rfl, rfl, by decide +kernel, rfl, by decide +kernel, by decide +kernel⟩
theorem ok__law_reached {P : Program} {w : World} {K : PySem.W.Frag} {mg : Str → Option Value} {base : Heap} {fa : Addr} {fd : FuncData} (b_ : Bi mg) (sys : ∃ o, base.get? sysModules = some o) (F : Fun K "_law_reached" "_law_reached" s__law_reached fa fd) (hm : mg "_law_reached" = some (.ref fa)) (hb : Binds K fd ["own", "start", "without"] [])   :
    FnD P w K mg base 1 "_law_reached" ["own", "start", "without"] F__law_reached :=
  fn_d (t := t__law_reached) F sc__law_reached [] hm hb sys fun cdv A out s H E c_ => by
    unfold t__law_reached
    exact (dss_cons (ds_par c_.toC1.calm c_.toC1.nd rfl rfl (by decide) rfl rfl (by decide) (by decide) (me_o (fe_lst (va_cons (be_pv (pv 1)) va_nil))) (me_v ve_int) rfl)
      (dss_cons (ds_while 100 c_.po (t_lt (be_pv (pv 4)) (be_ve (v_len b_ (by rfl) (va_cons (be_pv (pv 3)) va_nil)))) (dss_cons (ds_set c_.toC1.nd rfl (by first | exact .inl rfl | exact .inr rfl) (by decide) (ve_fe (fe_lc (ts := [7]) (own := [("name", 7)]) c_.toC1.calm c_.toC1.nd ⟨(ie_list (ve_ix (c_.toC1.u 1) (be_pv (pv 0)) (be_ve (ve_ix (c_.toC1.u 1) (be_pv (pv 3)) (be_pv (pv 4)))))), blkOk_by (by kernel_rfl), rfl, (by decide), fun s_ H_ C_0 cl_ fp_ => (ge_name (c_.toC1.blk _ s_ H_ C_0 cl_ fp_).nd rfl (by first | exact .inl rfl | exact .inr rfl)), fun s_ H_ C_0 cl_ fp_ => (vts_one (t_nin (c_.toC1.blk _ s_ H_ C_0 cl_ fp_) (be_pv (pv 7)) (be_pv (pv 2)))), fun s_ H_ C_0 cl_ fp_ => (ve_pv (pv 7))⟩)))
      (dss_cons (ds_for c_.po c_.toC1.calm (by decide) (ie_keys (ve_pv (pv 0))) (ge_name c_.toC1.nd rfl (by first | exact .inl rfl | exact .inr rfl)) (dss_cons (ds_if (vw_and (t_nin c_.toC1 (be_pv (pv 6)) (be_pv (pv 3))) (vw_and1 (t_ne c_.toC1 (be_ve (ve_fe (fe_lc (ts := [7]) (own := [("name", 7)]) c_.toC1.calm c_.toC1.nd ⟨(ie_list (ve_ix (c_.toC1.u 1) (be_pv (pv 0)) (be_pv (pv 6)))), blkOk_by (by kernel_rfl), rfl, (by decide), fun s_ H_ C_0 cl_ fp_ => (ge_name (c_.toC1.blk _ s_ H_ C_0 cl_ fp_).nd rfl (by first | exact .inl rfl | exact .inr rfl)), fun s_ H_ C_0 cl_ fp_ => (vts_one (t_in (c_.toC1.blk _ s_ H_ C_0 cl_ fp_) (be_pv (pv 7)) (be_pv (pv 5)))), fun s_ H_ C_0 cl_ fp_ => (ve_pv (pv 7))⟩))) (be_ve (ve_lst va_nil))))).vt (dss_cons (ds_expr (ve_mut PySem.F.plainAttrs_list PySem.F.slot_list_append PySem.F.type_list_append mt_append md_append (pv 3) (va_cons (be_pv (pv 6)) va_nil)))
      dss_nil) dss_nil)
      dss_nil))
      (dss_cons (ds_set c_.toC1.nd rfl (by first | exact .inl rfl | exact .inr rfl) (by decide) (v_add (be_pv (pv 4)) (be_ve ve_int)))
      dss_nil))))
      (dss_cons (ds_retv (pv 3) (by decide))
      dss_nil)))
/-! ### _law_all_pieces -/
abbrev s__law_all_pieces : Stmt := PySem.Challenge.pw_answercut_k14_whole_line_or_triad.main.body.getD 39 (.Pass ⟨0, 0, 0, 0⟩)
def t__law_all_pieces : SM := (sseq (spar 2 3 (mrv (mcallF F__law_own_names (mcons (mopd 0) mnil))) (mro (mlst mnil)))
  (sseq (sfor (mitK (mvar 2)) (mName 1) (sseq (sif (mtest (mbin dEq (mv (mlcO 3 (mName 5) (mtest (mbin dIn (mopd 1) (mopd 5))) (mvar 5) [5])) (mv (mlst mnil)))) (sseq (sset 4 (mcallF F__law_reached (mcons (mopd 2) (mcons (mopd 1) (mcons (mv (mlst mnil)) mnil)))))
  (sseq (sbind (mmut 3 "list" gAppend (mcons (mv (mcb gTup (mcons (mv (mlc (mitK (mvar 2)) (mName 6) (mtest (mbin dIn (mopd 6) (mopd 4))) (mvar 6) [6])) mnil))) mnil)) fun _ => snext)
  snext)) snext)
  snext))
  (sseq (sbind (mcb gTup (mcons (mopd 3) mnil)) fun d ρ => .ret (.val d) ρ)
  snext)))
def F__law_all_pieces : Fn := mkF [] 1 7 t__law_all_pieces
theorem sc__law_all_pieces : FnScope ["question", "table", "own", "found", "some", "piece", "one"] ["question"] (defScope s__law_all_pieces) := ⟨rfl, rfl, rfl, by decide +kernel, rfl, by decide +kernel, by decide +kernel⟩
theorem ok__law_all_pieces {P : Program} {w : World} {K : PySem.W.Frag} {mg : Str → Option Value} {base : Heap} {fa : Addr} {fd : FuncData} (b_ : Bi mg) (sys : ∃ o, base.get? sysModules = some o) (F : Fun K "_law_all_pieces" "_law_all_pieces" s__law_all_pieces fa fd) (hm : mg "_law_all_pieces" = some (.ref fa)) (hb : Binds K fd ["question"] [])  (h__law_own_names : FnD P w K mg base 1 "_law_own_names" ["question"] F__law_own_names) (h__law_reached : FnD P w K mg base 1 "_law_reached" ["own", "start", "without"] F__law_reached) :
    FnD P w K mg base 2 "_law_all_pieces" ["question"] F__law_all_pieces :=
  fn_d (t := t__law_all_pieces) F sc__law_all_pieces [] hm hb sys fun cdv A out s H E c_ => by
    unfold t__law_all_pieces
    exact (dss_cons (ds_par c_.toC1.calm c_.toC1.nd rfl rfl (by decide) rfl rfl (by decide) (by decide) (me_v (ve_fe (fe_call (h__law_own_names.mono (by decide)) c_.toC1 (by rfl) (va_cons (be_pv (pv 0)) va_nil)))) (me_o (fe_lst va_nil)) rfl)
      (dss_cons (ds_for c_.po c_.toC1.calm (by decide) (ie_keys (ve_pv (pv 2))) (ge_name c_.toC1.nd rfl (by first | exact .inl rfl | exact .inr rfl)) (dss_cons (ds_if (t_eq c_.toC1 (be_ve (ve_fe (fe_lcO (ts := [5]) (own := [("piece", 5)]) c_.toC1.calm c_.toC1.nd (pv 3) ⟨by decide, blkOk_by (by kernel_rfl), rfl, (by decide), fun s_ H_ C_0 cl_ fp_ => (ge_name (c_.toC1.blk _ s_ H_ C_0 cl_ fp_).nd rfl (by first | exact .inl rfl | exact .inr rfl)), fun s_ H_ C_0 cl_ fp_ => (vts_one (t_in (c_.toC1.blk _ s_ H_ C_0 cl_ fp_) (be_pv (pv 1)) (be_pv (pv 5)))), fun s_ H_ C_0 cl_ fp_ => (ve_pv (pv 5))⟩))) (be_ve (ve_lst va_nil))) (dss_cons (ds_set c_.toC1.nd rfl (by first | exact .inl rfl | exact .inr rfl) (by decide) (ve_fe (fe_call (h__law_reached.mono (by decide)) c_.toC1 (by rfl) (va_cons (be_pv (pv 2)) (va_cons (be_pv (pv 1)) (va_cons (be_ve (ve_lst va_nil)) va_nil))))))
      (dss_cons (ds_expr (ve_mut PySem.F.plainAttrs_list PySem.F.slot_list_append PySem.F.type_list_append mt_append md_append (pv 3) (va_cons (be_ve (v_tuple b_ (by rfl) (va_cons (be_ve (ve_fe (fe_lc (ts := [6]) (own := [("one", 6)]) c_.toC1.calm c_.toC1.nd ⟨(ie_keys (ve_pv (pv 2))), blkOk_by (by kernel_rfl), rfl, (by decide), fun s_ H_ C_0 cl_ fp_ => (ge_name (c_.toC1.blk _ s_ H_ C_0 cl_ fp_).nd rfl (by first | exact .inl rfl | exact .inr rfl)), fun s_ H_ C_0 cl_ fp_ => (vts_one (t_in (c_.toC1.blk _ s_ H_ C_0 cl_ fp_) (be_pv (pv 6)) (be_pv (pv 4)))), fun s_ H_ C_0 cl_ fp_ => (ve_pv (pv 6))⟩))) va_nil))) va_nil)))
      dss_nil)) dss_nil)
      dss_nil))
      (dss_cons (ds_ret (v_tuple b_ (by rfl) (va_cons (be_pv (pv 3)) va_nil)))
      dss_nil)))
/-! ### _law_part_by -/
abbrev s__law_part_by : Stmt := PySem.Challenge.pw_answercut_k14_whole_line_or_triad.main.body.getD 40 (.Pass ⟨0, 0, 0, 0⟩)
def t__law_part_by : SM := (sseq (sbind (mtup (mcons (mv (mtup mnil)) (mcons (mv (mcb gTup (mcons (mv (mlc (mitT (mbin dIx (mopd 0) (mv (mret (.int 1))))) (mName 2) (mtest (mbin dIn (mv (mbin dIx (mopd 2) (mv (mret (.int 0))))) (mopd 1))) (mvar 2) [2])) mnil))) mnil))) fun d ρ => .ret (.val d) ρ)
  snext)
def F__law_part_by : Fn := mkF [] 2 3 t__law_part_by
theorem sc__law_part_by : FnScope ["question", "piece", "atom"] ["question", "piece"] (defScope s__law_part_by) := ⟨rfl, rfl, rfl, by decide +kernel, rfl, by decide +kernel, by decide +kernel⟩
theorem ok__law_part_by {P : Program} {w : World} {K : PySem.W.Frag} {mg : Str → Option Value} {base : Heap} {fa : Addr} {fd : FuncData} (b_ : Bi mg) (sys : ∃ o, base.get? sysModules = some o) (F : Fun K "_law_part_by" "_law_part_by" s__law_part_by fa fd) (hm : mg "_law_part_by" = some (.ref fa)) (hb : Binds K fd ["question", "piece"] [])   :
    FnD P w K mg base 1 "_law_part_by" ["question", "piece"] F__law_part_by :=
  fn_d (t := t__law_part_by) F sc__law_part_by [] hm hb sys fun cdv A out s H E c_ => by
    unfold t__law_part_by
    exact (dss_cons (ds_ret (ve_tup (va_cons (be_ve (ve_tup va_nil)) (va_cons (be_ve (v_tuple b_ (by rfl) (va_cons (be_ve (ve_fe (fe_lc (ts := [2]) (own := [("atom", 2)]) c_.toC1.calm c_.toC1.nd ⟨(ie_tup (ve_ix (c_.toC1.u 1) (be_pv (pv 0)) (be_ve ve_int))), blkOk_by (by kernel_rfl), rfl, (by decide), fun s_ H_ C_0 cl_ fp_ => (ge_name (c_.toC1.blk _ s_ H_ C_0 cl_ fp_).nd rfl (by first | exact .inl rfl | exact .inr rfl)), fun s_ H_ C_0 cl_ fp_ => (vts_one (t_in (c_.toC1.blk _ s_ H_ C_0 cl_ fp_) (be_ve (ve_ix ((c_.toC1.blk _ s_ H_ C_0 cl_ fp_).u 1) (be_pv (pv 2)) (be_ve ve_int))) (be_pv (pv 1)))), fun s_ H_ C_0 cl_ fp_ => (ve_pv (pv 2))⟩))) va_nil))) va_nil))))
      dss_nil)
/-! ### _law_does_part -/
abbrev s__law_does_part : Stmt := PySem.Challenge.pw_answercut_k14_whole_line_or_triad.main.body.getD 44 (.Pass ⟨0, 0, 0, 0⟩)
def t__law_does_part : SM := (sseq (sbind (mbin dNotIn (mopd 3) (mv (mcallF F__law_reached (mcons (mopd 0) (mcons (mopd 1) (mcons (mv (mbin dIx (mopd 0) (mopd 2))) mnil)))))) fun d ρ => .ret (.val d) ρ)
  snext)
def F__law_does_part : Fn := mkF [] 4 4 t__law_does_part
theorem sc__law_does_part : FnScope ["own", "one", "middle", "other"] ["own", "one", "middle", "other"] (defScope s__law_does_part) := ⟨rfl, rfl, rfl, by decide +kernel, rfl, by decide +kernel, by decide +kernel⟩
theorem ok__law_does_part {P : Program} {w : World} {K : PySem.W.Frag} {mg : Str → Option Value} {base : Heap} {fa : Addr} {fd : FuncData} (b_ : Bi mg) (sys : ∃ o, base.get? sysModules = some o) (F : Fun K "_law_does_part" "_law_does_part" s__law_does_part fa fd) (hm : mg "_law_does_part" = some (.ref fa)) (hb : Binds K fd ["own", "one", "middle", "other"] [])  (h__law_reached : FnD P w K mg base 1 "_law_reached" ["own", "start", "without"] F__law_reached) :
    FnD P w K mg base 2 "_law_does_part" ["own", "one", "middle", "other"] F__law_does_part :=
  fn_d (t := t__law_does_part) F sc__law_does_part [] hm hb sys fun cdv A out s H E c_ => by
    unfold t__law_does_part
    exact (dss_cons (ds_ret (v_nin c_.toC1 (be_pv (pv 3)) (be_ve (ve_fe (fe_call (h__law_reached.mono (by decide)) c_.toC1 (by rfl) (va_cons (be_pv (pv 0)) (va_cons (be_pv (pv 1)) (va_cons (be_ve (ve_ix (c_.toC1.u 1) (be_pv (pv 0)) (be_pv (pv 2)))) va_nil))))))))
      dss_nil)
/-! ### _law_is_end -/
abbrev s__law_is_end : Stmt := PySem.Challenge.pw_answercut_k14_whole_line_or_triad.main.body.getD 48 (.Pass ⟨0, 0, 0, 0⟩)
def t__law_is_end : SM := (sseq (sfor (mitEt (mcons (mopd 1) mnil)) (mTup [(mName 3), (mName 4)]) (sseq (sif (mtest (mbin dNeNil (mv (mlc (mitT (mslice (mopd 1) (mret none) (mpart (mvar 3)))) (mName 5) (mnotT (mtest (mcallV F__law_does_part (mcons (mopd 0) (mcons (mopd 5) (mcons (mopd 4) (mcons (mopd 2) mnil))))))) (mvar 5) [5])) (mv (mlst mnil)))) (sseq (sbind (mret (.bool false)) fun d ρ => .ret (.val d) ρ)
  snext) snext)
  snext))
  (sseq (sbind (mret (.bool true)) fun d ρ => .ret (.val d) ρ)
  snext))
def F__law_is_end : Fn := mkF [] 3 6 t__law_is_end
theorem sc__law_is_end : FnScope ["own", "line", "last", "place", "middle", "one"] ["own", "line", "last"] (defScope s__law_is_end) := ⟨rfl, rfl, rfl, by decide +kernel, rfl, by decide +kernel, by decide +kernel⟩
theorem ok__law_is_end {P : Program} {w : World} {K : PySem.W.Frag} {mg : Str → Option Value} {base : Heap} {fa : Addr} {fd : FuncData} (b_ : Bi mg) (sys : ∃ o, base.get? sysModules = some o) (F : Fun K "_law_is_end" "_law_is_end" s__law_is_end fa fd) (hm : mg "_law_is_end" = some (.ref fa)) (hb : Binds K fd ["own", "line", "last"] [])  (h__law_does_part : FnD P w K mg base 2 "_law_does_part" ["own", "one", "middle", "other"] F__law_does_part) :
    FnD P w K mg base 3 "_law_is_end" ["own", "line", "last"] F__law_is_end :=
  fn_d (t := t__law_is_end) F sc__law_is_end [] hm hb sys fun cdv A out s H E c_ => by
    unfold t__law_is_end
    exact (dss_cons (ds_for c_.po c_.toC1.calm (by decide) (ie_enumT (by rfl) b_.enumerate (va_cons (be_pv (pv 1)) va_nil)) (ge_tup c_.toC1.calm (ges_cons (ge_name c_.toC1.nd rfl (by first | exact .inl rfl | exact .inr rfl)) (ges_cons (ge_name c_.toC1.nd rfl (by first | exact .inl rfl | exact .inr rfl)) ges_nil))) (dss_cons (ds_if (t_neN c_.toC1 (be_ve (ve_fe (fe_lc (ts := [5]) (own := [("one", 5)]) c_.toC1.calm c_.toC1.nd ⟨(ie_tup (ve_slice (be_pv (pv 1)) oe_none (oe_some (ve_pv (pv 3))))), blkOk_by (by kernel_rfl), rfl, (by decide), fun s_ H_ C_0 cl_ fp_ => (ge_name (c_.toC1.blk _ s_ H_ C_0 cl_ fp_).nd rfl (by first | exact .inl rfl | exact .inr rfl)), fun s_ H_ C_0 cl_ fp_ => (vts_one (vt_not (vt_val (ve_call (h__law_does_part.mono (by decide)) (c_.toC1.blk _ s_ H_ C_0 cl_ fp_) (by rfl) (va_cons (be_pv (pv 0)) (va_cons (be_pv (pv 5)) (va_cons (be_pv (pv 4)) (va_cons (be_pv (pv 2)) va_nil)))))))), fun s_ H_ C_0 cl_ fp_ => (ve_pv (pv 5))⟩))) (be_ve (ve_lst va_nil))) (dss_cons (ds_ret ve_bl)
      dss_nil) dss_nil)
      dss_nil))
      (dss_cons (ds_ret ve_bl)
      dss_nil))
/-! ### _law_grown -/
abbrev s__law_grown : Stmt := PySem.Challenge.pw_answercut_k14_whole_line_or_triad.main.body.getD 47 (.Pass ⟨0, 0, 0, 0⟩)
def t__law_grown (f_ : Fn) : SM := (sseq (sif (mtest (mbin dEqNil (mopd 2) (mv (mtup mnil)))) (sseq (sretv 1)
  snext) snext)
  (sseq (sfor (mitT (mvar 2)) (mName 3) (sseq (sif (mtest (mcallV F__law_is_end (mcons (mopd 0) (mcons (mopd 1) (mcons (mopd 3) mnil))))) (sseq (sset 4 (mcallV f_ (mcons (mopd 0) (mcons (mv (mbin dAdd (mopd 1) (mv (mtup (mcons (mopd 3) mnil))))) (mcons (mv (mcb gTup (mcons (mv (mlc (mitT (mvar 2)) (mName 5) (mtest (mbin dNe (mopd 5) (mopd 3))) (mvar 5) [5])) mnil))) mnil)))))
  (sseq (sif (mtest (mbin gNotN (mopd 4) (mv (mret .none)))) (sseq (sretv 4)
  snext) snext)
  snext)) snext)
  snext))
  (sseq (sbind (mret .none) fun d ρ => .ret (.val d) ρ)
  snext)))
def F__law_grown : Nat → Fn
  | 0 => noF
  | n + 1 => mkF [] 3 6 (t__law_grown (F__law_grown n))
theorem sc__law_grown : FnScope ["own", "line", "rest", "one", "found", "other"] ["own", "line", "rest"] (defScope s__law_grown) := ⟨rfl, rfl, rfl, by decide +kernel, rfl, by decide +kernel, by decide +kernel⟩
theorem ok__law_grown {P : Program} {w : World} {K : PySem.W.Frag} {mg : Str → Option Value} {base : Heap} {fa : Addr} {fd : FuncData} (b_ : Bi mg) (sys : ∃ o, base.get? sysModules = some o) (F : Fun K "_law_grown" "_law_grown" s__law_grown fa fd) (hm : mg "_law_grown" = some (.ref fa)) (hb : Binds K fd ["own", "line", "rest"] [])  (h__law_is_end : FnD P w K mg base 3 "_law_is_end" ["own", "line", "last"] F__law_is_end) :
    ∀ n : Nat, FnD P w K mg base (3 + n) "_law_grown" ["own", "line", "rest"] (F__law_grown n)
  | 0 => fnd_no hm F.kp hb
  | n + 1 => by
    have h_ := ok__law_grown b_ sys F hm hb h__law_is_end n
    exact fn_d (t := t__law_grown (F__law_grown n)) F sc__law_grown [] hm hb sys fun cdv A out s H E c_ => by
      unfold t__law_grown
      exact (dss_cons (ds_if (t_eqN c_.toC1 (be_pv (pv 2)) (be_ve (ve_tup va_nil))) (dss_cons (ds_retv (pv 1) (by decide))
      dss_nil) dss_nil)
      (dss_cons (ds_for c_.po c_.toC1.calm (by decide) (ie_tup (ve_pv (pv 2))) (ge_name c_.toC1.nd rfl (by first | exact .inl rfl | exact .inr rfl)) (dss_cons (ds_if (vt_val (ve_call (h__law_is_end.mono (Nat.le_trans (by decide) (Nat.le_add_right _ n))) c_.toC1 (by rfl) (va_cons (be_pv (pv 0)) (va_cons (be_pv (pv 1)) (va_cons (be_pv (pv 3)) va_nil))))) (dss_cons (ds_set c_.toC1.nd rfl (by first | exact .inl rfl | exact .inr rfl) (by decide) (ve_call (h_.mono (Nat.le_refl _)) c_.toC1 (by rfl) (va_cons (be_pv (pv 0)) (va_cons (be_ve (v_add (be_pv (pv 1)) (be_ve (ve_tup (va_cons (be_pv (pv 3)) va_nil))))) (va_cons (be_ve (v_tuple b_ (by rfl) (va_cons (be_ve (ve_fe (fe_lc (ts := [5]) (own := [("other", 5)]) c_.toC1.calm c_.toC1.nd ⟨(ie_tup (ve_pv (pv 2))), blkOk_by (by kernel_rfl), rfl, (by decide), fun s_ H_ C_0 cl_ fp_ => (ge_name (c_.toC1.blk _ s_ H_ C_0 cl_ fp_).nd rfl (by first | exact .inl rfl | exact .inr rfl)), fun s_ H_ C_0 cl_ fp_ => (vts_one (t_ne (c_.toC1.blk _ s_ H_ C_0 cl_ fp_) (be_pv (pv 5)) (be_pv (pv 3)))), fun s_ H_ C_0 cl_ fp_ => (ve_pv (pv 5))⟩))) va_nil))) va_nil)))))
      (dss_cons (ds_if (t_isnot (be_pv (pv 4)) (be_ve ve_non)) (dss_cons (ds_retv (pv 4) (by decide))
      dss_nil) dss_nil)
      dss_nil)) dss_nil)
      dss_nil))
      (dss_cons (ds_ret ve_non)
      dss_nil)))
/-! ### _law_first_line -/
abbrev s__law_first_line : Stmt := PySem.Challenge.pw_answercut_k14_whole_line_or_triad.main.body.getD 46 (.Pass ⟨0, 0, 0, 0⟩)
def t__law_first_line : SM := (sseq (sbind (mcallV (F__law_grown 8) (mcons (mv (mcallF F__law_own_names (mcons (mopd 0) mnil))) (mcons (mv (mtup mnil)) (mcons (mv (mcb gTup (mcons (mopd 1) mnil))) mnil)))) fun d ρ => .ret (.val d) ρ)
  snext)
def F__law_first_line : Fn := mkF [] 2 2 t__law_first_line
theorem sc__law_first_line : FnScope ["question", "tables"] ["question", "tables"] (defScope s__law_first_line) := ⟨rfl, rfl, rfl, by decide +kernel, rfl, by decide +kernel, by decide +kernel⟩
theorem ok__law_first_line {P : Program} {w : World} {K : PySem.W.Frag} {mg : Str → Option Value} {base : Heap} {fa : Addr} {fd : FuncData} (b_ : Bi mg) (sys : ∃ o, base.get? sysModules = some o) (F : Fun K "_law_first_line" "_law_first_line" s__law_first_line fa fd) (hm : mg "_law_first_line" = some (.ref fa)) (hb : Binds K fd ["question", "tables"] [])  (h__law_grown : FnD P w K mg base 11 "_law_grown" ["own", "line", "rest"] (F__law_grown 8)) (h__law_own_names : FnD P w K mg base 1 "_law_own_names" ["question"] F__law_own_names) :
    FnD P w K mg base 12 "_law_first_line" ["question", "tables"] F__law_first_line :=
  fn_d (t := t__law_first_line) F sc__law_first_line [] hm hb sys fun cdv A out s H E c_ => by
    unfold t__law_first_line
    exact (dss_cons (ds_ret (ve_call (h__law_grown.mono (by decide)) c_.toC1 (by rfl) (va_cons (be_ve (ve_fe (fe_call (h__law_own_names.mono (by decide)) c_.toC1 (by rfl) (va_cons (be_pv (pv 0)) va_nil)))) (va_cons (be_ve (ve_tup va_nil)) (va_cons (be_ve (v_tuple b_ (by rfl) (va_cons (be_pv (pv 1)) va_nil))) va_nil)))))
      dss_nil)
/-! ### _law_first_triad -/
abbrev s__law_first_triad : Stmt := PySem.Challenge.pw_answercut_k14_whole_line_or_triad.main.body.getD 49 (.Pass ⟨0, 0, 0, 0⟩)
def t__law_first_triad : SM := (sseq (sfor (mitEt (mcons (mopd 1) mnil)) (mTup [(mName 2), (mName 3)]) (sseq (sfor (mitEt (mcons (mv (mslice (mopd 1) (mpart (mbin dAdd (mopd 2) (mv (mret (.int 1))))) (mret none))) mnil)) (mTup [(mName 4), (mName 5)]) (sseq (sfor (mitT (mslice (mopd 1) (mpart (mbin dAdd (mv (mbin dAdd (mopd 2) (mopd 4))) (mv (mret (.int 2))))) (mret none))) (mName 6) (sseq (sset 7 (mlst (mcons (mv (mcallV F__law_does_part (mcons (mopd 0) (mcons (mopd 3) (mcons (mopd 5) (mcons (mopd 6) mnil)))))) (mcons (mv (mcallV F__law_does_part (mcons (mopd 0) (mcons (mopd 5) (mcons (mopd 3) (mcons (mopd 6) mnil)))))) mnil))))
  (sseq (sif (mandT (mtest (mbin dEq (mopd 7) (mv (mlst (mcons (mv (mret (.bool false))) (mcons (mv (mret (.bool false))) mnil)))))) (mnotT (mtest (mcallV F__law_does_part (mcons (mopd 0) (mcons (mopd 3) (mcons (mopd 6) (mcons (mopd 5) mnil)))))))) (sseq (sbind (mtup (mcons (mopd 3) (mcons (mopd 5) (mcons (mopd 6) mnil)))) fun d ρ => .ret (.val d) ρ)
  snext) snext)
  snext)))
  snext))
  snext))
  (sseq (sbind (mret .none) fun d ρ => .ret (.val d) ρ)
  snext))
def F__law_first_triad : Fn := mkF [] 2 8 t__law_first_triad
theorem sc__law_first_triad : FnScope ["own", "tables", "place", "one", "more", "other", "last", "parted"] ["own", "tables"] (defScope s__law_first_triad) := ⟨rfl, rfl, rfl, by decide +kernel, rfl, by decide +kernel, by decide +kernel⟩
theorem ok__law_first_triad {P : Program} {w : World} {K : PySem.W.Frag} {mg : Str → Option Value} {base : Heap} {fa : Addr} {fd : FuncData} (b_ : Bi mg) (sys : ∃ o, base.get? sysModules = some o) (F : Fun K "_law_first_triad" "_law_first_triad" s__law_first_triad fa fd) (hm : mg "_law_first_triad" = some (.ref fa)) (hb : Binds K fd ["own", "tables"] [])  (h__law_does_part : FnD P w K mg base 2 "_law_does_part" ["own", "one", "middle", "other"] F__law_does_part) :
    FnD P w K mg base 3 "_law_first_triad" ["own", "tables"] F__law_first_triad :=
  fn_d (t := t__law_first_triad) F sc__law_first_triad [] hm hb sys fun cdv A out s H E c_ => by
    unfold t__law_first_triad
    exact (dss_cons (ds_for c_.po c_.toC1.calm (by decide) (ie_enumT (by rfl) b_.enumerate (va_cons (be_pv (pv 1)) va_nil)) (ge_tup c_.toC1.calm (ges_cons (ge_name c_.toC1.nd rfl (by first | exact .inl rfl | exact .inr rfl)) (ges_cons (ge_name c_.toC1.nd rfl (by first | exact .inl rfl | exact .inr rfl)) ges_nil))) (dss_cons (ds_for c_.po c_.toC1.calm (by decide) (ie_enumT (by rfl) b_.enumerate (va_cons (be_ve (ve_slice (be_pv (pv 1)) (oe_some (v_add (be_pv (pv 2)) (be_ve ve_int))) oe_none)) va_nil)) (ge_tup c_.toC1.calm (ges_cons (ge_name c_.toC1.nd rfl (by first | exact .inl rfl | exact .inr rfl)) (ges_cons (ge_name c_.toC1.nd rfl (by first | exact .inl rfl | exact .inr rfl)) ges_nil))) (dss_cons (ds_for c_.po c_.toC1.calm (by decide) (ie_tup (ve_slice (be_pv (pv 1)) (oe_some (v_add (be_ve (v_add (be_pv (pv 2)) (be_pv (pv 4)))) (be_ve ve_int))) oe_none)) (ge_name c_.toC1.nd rfl (by first | exact .inl rfl | exact .inr rfl)) (dss_cons (ds_set c_.toC1.nd rfl (by first | exact .inl rfl | exact .inr rfl) (by decide) (ve_lst (va_cons (be_ve (ve_call (h__law_does_part.mono (by decide)) c_.toC1 (by rfl) (va_cons (be_pv (pv 0)) (va_cons (be_pv (pv 3)) (va_cons (be_pv (pv 5)) (va_cons (be_pv (pv 6)) va_nil)))))) (va_cons (be_ve (ve_call (h__law_does_part.mono (by decide)) c_.toC1 (by rfl) (va_cons (be_pv (pv 0)) (va_cons (be_pv (pv 5)) (va_cons (be_pv (pv 3)) (va_cons (be_pv (pv 6)) va_nil)))))) va_nil))))
      (dss_cons (ds_if (vw_and (t_eq c_.toC1 (be_pv (pv 7)) (be_ve (ve_lst (va_cons (be_ve ve_bl) (va_cons (be_ve ve_bl) va_nil))))) (vw_and1 (vt_not (vt_val (ve_call (h__law_does_part.mono (by decide)) c_.toC1 (by rfl) (va_cons (be_pv (pv 0)) (va_cons (be_pv (pv 3)) (va_cons (be_pv (pv 6)) (va_cons (be_pv (pv 5)) va_nil))))))))).vt (dss_cons (ds_ret (ve_tup (va_cons (be_pv (pv 3)) (va_cons (be_pv (pv 5)) (va_cons (be_pv (pv 6)) va_nil)))))
      dss_nil) dss_nil)
      dss_nil)))
      dss_nil))
      dss_nil))
      (dss_cons (ds_ret ve_non)
      dss_nil))
/-! ### _law_is_chain -/
abbrev s__law_is_chain : Stmt := PySem.Challenge.pw_answercut_k14_whole_line_or_triad.main.body.getD 50 (.Pass ⟨0, 0, 0, 0⟩)
def t__law_is_chain : SM := (sseq (sif (morT (mnotT (mtest (misi "tuple" (mopd 1)))) (morT (mtest (mbin dLt (mv (mcb gLen (mcons (mopd 1) mnil))) (mv (mret (.int 2))))) (morT (mtest (mbin dNe (mv (mbin dIx (mopd 1) (mv (mret (.int 0))))) (mopd 2))) (mtest (mbin dNe (mv (mbin dIx (mopd 1) (mv (mret (.int (-1)))))) (mopd 3)))))) (sseq (sbind (mret (.bool false)) fun d ρ => .ret (.val d) ρ)
  snext) snext)
  (sseq (sfor (mitZ (mcons (mopd 1) (mcons (mv (mslice (mopd 1) (mpart (mret (.int 1))) (mret none))) mnil))) (mTup [(mName 5), (mName 6)]) (sseq (sif (mtest (mbin dEqNil (mv (mlc (mitL (mbin dIx (mopd 0) (mopd 5))) (mName 7) (mandT (mtest (mbin dIn (mopd 7) (mv (mbin dIx (mopd 0) (mopd 6))))) (mtest (mbin dNotIn (mopd 7) (mv (mbin dIx (mopd 0) (mopd 4)))))) (mvar 7) [7])) (mv (mlst mnil)))) (sseq (sbind (mret (.bool false)) fun d ρ => .ret (.val d) ρ)
  snext) snext)
  snext))
  (sseq (sbind (mret (.bool true)) fun d ρ => .ret (.val d) ρ)
  snext)))
def F__law_is_chain : Fn := mkF [] 5 8 t__law_is_chain
theorem sc__law_is_chain : FnScope ["own", "chain", "one", "other", "past", "here", "there", "name"] ["own", "chain", "one", "other", "past"] (defScope s__law_is_chain) := ⟨rfl, rfl, rfl, by decide +kernel, rfl, by decide +kernel, by decide +kernel⟩
theorem ok__law_is_chain {P : Program} {w : World} {K : PySem.W.Frag} {mg : Str → Option Value} {base : Heap} {fa : Addr} {fd : FuncData} (b_ : Bi mg) (sys : ∃ o, base.get? sysModules = some o) (F : Fun K "_law_is_chain" "_law_is_chain" s__law_is_chain fa fd) (hm : mg "_law_is_chain" = some (.ref fa)) (hb : Binds K fd ["own", "chain", "one", "other", "past"] [])   :
    FnD P w K mg base 1 "_law_is_chain" ["own", "chain", "one", "other", "past"] F__law_is_chain :=
  fn_d (t := t__law_is_chain) F sc__law_is_chain [] hm hb sys fun cdv A out s H E c_ => by
    unfold t__law_is_chain
    exact (dss_cons (ds_if (vw_or (vt_not (vt_val (ve_isi ka_tuple (by rfl) b_.isinstance (by rfl) b_.tuple (by decide +kernel) (be_pv (pv 1))))) (vw_or (t_lt (be_ve (v_len b_ (by rfl) (va_cons (be_pv (pv 1)) va_nil))) (be_ve ve_int)) (vw_or (t_ne c_.toC1 (be_ve (ve_ix (c_.toC1.u 1) (be_pv (pv 1)) (be_ve ve_int))) (be_pv (pv 2))) (vw_or1 (t_ne c_.toC1 (be_ve (ve_ix (c_.toC1.u 1) (be_pv (pv 1)) (be_ve ve_negc))) (be_pv (pv 3))))))).vt (dss_cons (ds_ret ve_bl)
      dss_nil) dss_nil)
      (dss_cons (ds_for c_.po c_.toC1.calm (by decide) (ie_zip (by rfl) b_.zip (va_cons (be_pv (pv 1)) (va_cons (be_ve (ve_slice (be_pv (pv 1)) (oe_some ve_int) oe_none)) va_nil))) (ge_tup c_.toC1.calm (ges_cons (ge_name c_.toC1.nd rfl (by first | exact .inl rfl | exact .inr rfl)) (ges_cons (ge_name c_.toC1.nd rfl (by first | exact .inl rfl | exact .inr rfl)) ges_nil))) (dss_cons (ds_if (t_eqN c_.toC1 (be_ve (ve_fe (fe_lc (ts := [7]) (own := [("name", 7)]) c_.toC1.calm c_.toC1.nd ⟨(ie_list (ve_ix (c_.toC1.u 1) (be_pv (pv 0)) (be_pv (pv 5)))), blkOk_by (by kernel_rfl), rfl, (by decide), fun s_ H_ C_0 cl_ fp_ => (ge_name (c_.toC1.blk _ s_ H_ C_0 cl_ fp_).nd rfl (by first | exact .inl rfl | exact .inr rfl)), fun s_ H_ C_0 cl_ fp_ => (vts_one (vw_and (t_in (c_.toC1.blk _ s_ H_ C_0 cl_ fp_) (be_pv (pv 7)) (be_ve (ve_ix ((c_.toC1.blk _ s_ H_ C_0 cl_ fp_).u 1) (be_pv (pv 0)) (be_pv (pv 6))))) (vw_and1 (t_nin (c_.toC1.blk _ s_ H_ C_0 cl_ fp_) (be_pv (pv 7)) (be_ve (ve_ix ((c_.toC1.blk _ s_ H_ C_0 cl_ fp_).u 1) (be_pv (pv 0)) (be_pv (pv 4))))))).vt), fun s_ H_ C_0 cl_ fp_ => (ve_pv (pv 7))⟩))) (be_ve (ve_lst va_nil))) (dss_cons (ds_ret ve_bl)
      dss_nil) dss_nil)
      dss_nil))
      (dss_cons (ds_ret ve_bl)
      dss_nil)))
/-! ### _law_need_or_paper -/
abbrev s__law_need_or_paper : Stmt := PySem.Challenge.pw_answercut_k14_whole_line_or_triad.main.body.getD 51 (.Pass ⟨0, 0, 0, 0⟩)
def t__law_need_or_paper : SM := (sseq (sasg (mtup (mcons (mv (mret .none)) (mcons (mv (mret .none)) mnil))) (mTup [(mName 3), (mName 4)]))
  (sseq (stry (hdT [("NoLine", true)]) 2 (sseq (sset 3 (mcallV F_need_line (mcons (mopd 0) (mcons (mopd 1) mnil))))
  snext) (sseq (scpX 4 2)
  snext))
  (sseq (sif (misX 4 false) (sseq (sretv 3)
  snext) snext)
  (sseq (sbind (mif (mtest (misiX 4 (hdT [("NoLine", true)]))) (mtup (mcons (mv (mret (.str "none"))) (mcons (mv (mattX 4 "paper" (inT ["NoLine"]))) mnil))) (mret (.str "odd"))) fun d ρ => .ret (.val d) ρ)
  snext))))
def F__law_need_or_paper : Fn := mkF [] 2 5 t__law_need_or_paper
theorem sc__law_need_or_paper : FnScope ["question", "tables", "error", "found", "caught"] ["question", "tables"] (defScope s__law_need_or_paper) := ⟨rfl, rfl, rfl, by decide +kernel, rfl, by decide +kernel, by decide +kernel⟩
theorem ok__law_need_or_paper {P : Program} {w : World} {K : PySem.W.Frag} {mg : Str → Option Value} {base : Heap} {fa : Addr} {fd : FuncData} (b_ : Bi mg) (sys : ∃ o, base.get? sysModules = some o) (F : Fun K "_law_need_or_paper" "_law_need_or_paper" s__law_need_or_paper fa fd) (hm : mg "_law_need_or_paper" = some (.ref fa)) (hb : Binds K fd ["question", "tables"] [])  {C_AnswerError : Addr} {C_NoLine : Addr} (x_AnswerError : XN K mg C_AnswerError "AnswerError") (x_NoLine : XI P K mg C_NoLine "NoLine" "no line" "paper" "paper") (e_NoLine_AnswerError : PySem.W.exmOne K (.ref C_NoLine) (.ref C_AnswerError) = some true) (i_NoLine_NoLine : PySem.W.kitOne K (.ref C_NoLine) (.ref C_NoLine) = some true) (g_NoLine_paper : PySem.W.findIn K (.ref C_NoLine) "paper" = some none) (h_need_line : FnD P w K mg base 13 "need_line" ["question", "tables"] F_need_line) :
    FnD P w K mg base 14 "_law_need_or_paper" ["question", "tables"] F__law_need_or_paper :=
  fn_d (t := t__law_need_or_paper) F sc__law_need_or_paper [] hm hb sys fun cdv A out s H E c_ => by
    unfold t__law_need_or_paper
    exact (dss_cons (ds_asg (by decide) (ve_tup (va_cons (be_ve ve_non) (va_cons (be_ve ve_non) va_nil))) (ge_tup c_.toC1.calm (ges_cons (ge_name c_.toC1.nd rfl (by first | exact .inl rfl | exact .inr rfl)) (ges_cons (ge_name c_.toC1.nd rfl (by first | exact .inl rfl | exact .inr rfl)) ges_nil))))
      (dss_cons (ds_try c_ rfl rfl rfl rfl rfl (by decide) ⟨by rfl, by decide, .inl x_AnswerError.mg⟩ (hd_cons x_NoLine.toXN e_NoLine_AnswerError hd_nil) (fun W_ pn_ xe_ c_ => (dss_cons (ds_set c_.toC1.nd rfl (by first | exact .inl rfl | exact .inr rfl) (by decide) (ve_call (h_need_line.mono (by decide)) c_.toC1 (by rfl) (va_cons (be_pv (pv 0)) (va_cons (be_pv (pv 1)) va_nil))))
      dss_nil)) (fun a_ pn_ => (dss_cons (ds_cpX c_.toC1.nd rfl (by first | exact .inl rfl | exact .inr rfl) (by decide) (pv 2))
      dss_nil)))
      (dss_cons (ds_if (t_isX (pv 4)) (dss_cons (ds_retv (pv 3) (by decide))
      dss_nil) dss_nil)
      (dss_cons (ds_ret (ve_if (vt_val (ve_isiX (is_cons x_NoLine.toXH i_NoLine_NoLine is_nil) (by rfl) b_.isinstance (by rfl) x_NoLine.toXN.mg (pv 4))) (ve_tup (va_cons (be_ve ve_str) (va_cons (be_ve (ve_attX (at_cons x_NoLine.toXH g_NoLine_paper at_nil) (pv 4))) va_nil))) ve_str))
      dss_nil))))
/-! ### _law_right -/
abbrev s__law_right : Stmt := PySem.Challenge.pw_answercut_k14_whole_line_or_triad.main.body.getD 52 (.Pass ⟨0, 0, 0, 0⟩)
def t__law_right : SM := (sseq (sset 2 (mcallF F__law_own_names (mcons (mopd 0) mnil)))
  (sseq (spar 4 5 (mrv (mcallV F__law_first_line (mcons (mopd 0) (mcons (mopd 1) mnil)))) (mrv (mcallV F__law_first_triad (mcons (mopd 2) (mcons (mopd 1) mnil)))))
  (sseq (spar 6 7 (mrv (mcallV F_line_of (mcons (mopd 0) (mcons (mopd 1) mnil)))) (mrv (mcallV F_triad_of (mcons (mopd 0) (mcons (mopd 1) mnil)))))
  (sseq (sif (morT (mtest (mbin dEq (mv (mbin gIsN (mopd 4) (mv (mret .none)))) (mv (mbin gIsN (mopd 5) (mv (mret .none)))))) (mnotT (mtest (mcallV F__law_same (mcons (mopd 6) (mcons (mopd 4) mnil)))))) (sseq (sbind (mret (.bool false)) fun d ρ => .ret (.val d) ρ)
  snext) snext)
  (sseq (sif (mtest (mbin gIsN (mopd 5) (mv (mret .none)))) (sseq (sbind (mandV (mbin gIsN (mopd 7) (mv (mret .none))) (mandV (mbin gIsB (mv (mcallV F_shows_line (mcons (mopd 0) (mcons (mopd 1) (mcons (mopd 6) mnil))))) (mv (mret (.bool true)))) (mbin dEq (mv (mcallV F_need_line (mcons (mopd 0) (mcons (mopd 1) mnil)))) (mopd 6)))) fun d ρ => .ret (.val d) ρ)
  snext) snext)
  (sseq (sif (morT (mtest (mbin gIsN (mopd 7) (mv (mret .none)))) (morT (mtest (mbin dNe (mv (mbin dIx (mopd 7) (mv (mret (.int 0))))) (mopd 5))) (morT (mtest (mbin dNe (mv (mcb gLen (mcons (mopd 7) mnil))) (mv (mret (.int 2))))) (mtest (mbin dNe (mv (mcb gLen (mcons (mv (mbin dIx (mopd 7) (mv (mret (.int 1))))) mnil))) (mv (mret (.int 3)))))))) (sseq (sbind (mret (.bool false)) fun d ρ => .ret (.val d) ρ)
  snext) snext)
  (sseq (sasg (mvar 5) (mTup [(mName 8), (mName 9), (mName 10)]))
  (sseq (sfor (mitZtl (mcons (mv (mbin dIx (mopd 7) (mv (mret (.int 1))))) (mcons (mv (mlst (mcons (mv (mtup (mcons (mopd 8) (mcons (mopd 9) (mcons (mopd 10) mnil))))) (mcons (mv (mtup (mcons (mopd 8) (mcons (mopd 10) (mcons (mopd 9) mnil))))) (mcons (mv (mtup (mcons (mopd 9) (mcons (mopd 10) (mcons (mopd 8) mnil))))) mnil))))) mnil))) (mTup [(mName 11), (mName 12)]) (sseq (sif (mnotT (mtest (mcallV F__law_is_chain (mcons (mopd 2) (mcons (mopd 11) (mcons (mv (mbin dIx (mopd 12) (mv (mret (.int 0))))) (mcons (mv (mbin dIx (mopd 12) (mv (mret (.int 1))))) (mcons (mv (mbin dIx (mopd 12) (mv (mret (.int 2))))) mnil)))))))) (sseq (sbind (mret (.bool false)) fun d ρ => .ret (.val d) ρ)
  snext) snext)
  snext))
  (sseq (sif (mtest (mbin gNotB (mv (mcallV F_shows_triad (mcons (mopd 0) (mcons (mopd 1) (mcons (mopd 7) mnil))))) (mv (mret (.bool true))))) (sseq (sbind (mret (.bool false)) fun d ρ => .ret (.val d) ρ)
  snext) snext)
  (sseq (sset 3 (mcallV F__law_need_or_paper (mcons (mopd 0) (mcons (mopd 1) mnil))))
  (sseq (sbind (mandV (misi "tuple" (mopd 3)) (mandV (mbin dEq (mv (mbin dIx (mopd 3) (mv (mret (.int 0))))) (mv (mret (.str "none")))) (mbin gIsB (mv (mcallV F_shows_triad (mcons (mopd 0) (mcons (mopd 1) (mcons (mv (mbin dIx (mopd 3) (mv (mret (.int 1))))) mnil))))) (mv (mret (.bool true)))))) fun d ρ => .ret (.val d) ρ)
  snext)))))))))))
def F__law_right : Fn := mkF [] 2 13 t__law_right
theorem sc__law_right : FnScope ["question", "tables", "own", "told", "due", "three", "line", "triad", "one", "other", "last", "chain", "ends"] ["question", "tables"] (defScope s__law_right) := ⟨rfl, rfl, rfl, by decide +kernel, rfl, by decide +kernel, by decide +kernel⟩
theorem ok__law_right {P : Program} {w : World} {K : PySem.W.Frag} {mg : Str → Option Value} {base : Heap} {fa : Addr} {fd : FuncData} (b_ : Bi mg) (sys : ∃ o, base.get? sysModules = some o) (F : Fun K "_law_right" "_law_right" s__law_right fa fd) (hm : mg "_law_right" = some (.ref fa)) (hb : Binds K fd ["question", "tables"] [])  (h__law_own_names : FnD P w K mg base 1 "_law_own_names" ["question"] F__law_own_names) (h__law_first_line : FnD P w K mg base 12 "_law_first_line" ["question", "tables"] F__law_first_line) (h__law_first_triad : FnD P w K mg base 3 "_law_first_triad" ["own", "tables"] F__law_first_triad) (h_line_of : FnD P w K mg base 12 "line_of" ["question", "tables"] F_line_of) (h_triad_of : FnD P w K mg base 4 "triad_of" ["question", "tables"] F_triad_of) (h__law_same : FnD P w K mg base 1 "_law_same" ["one", "other"] F__law_same) (h_need_line : FnD P w K mg base 13 "need_line" ["question", "tables"] F_need_line) (h_shows_line : FnD P w K mg base 4 "shows_line" ["question", "tables", "thing"] F_shows_line) (h__law_is_chain : FnD P w K mg base 1 "_law_is_chain" ["own", "chain", "one", "other", "past"] F__law_is_chain) (h_shows_triad : FnD P w K mg base 2 "shows_triad" ["question", "tables", "thing"] F_shows_triad) (h__law_need_or_paper : FnD P w K mg base 14 "_law_need_or_paper" ["question", "tables"] F__law_need_or_paper) :
    FnD P w K mg base 15 "_law_right" ["question", "tables"] F__law_right :=
  fn_d (t := t__law_right) F sc__law_right [] hm hb sys fun cdv A out s H E c_ => by
    unfold t__law_right
    exact (dss_cons (ds_set c_.toC1.nd rfl (by first | exact .inl rfl | exact .inr rfl) (by decide) (ve_fe (fe_call (h__law_own_names.mono (by decide)) c_.toC1 (by rfl) (va_cons (be_pv (pv 0)) va_nil))))
      (dss_cons (ds_par c_.toC1.calm c_.toC1.nd rfl rfl (by decide) rfl rfl (by decide) (by decide) (me_v (ve_call (h__law_first_line.mono (by decide)) c_.toC1 (by rfl) (va_cons (be_pv (pv 0)) (va_cons (be_pv (pv 1)) va_nil)))) (me_v (ve_call (h__law_first_triad.mono (by decide)) c_.toC1 (by rfl) (va_cons (be_pv (pv 2)) (va_cons (be_pv (pv 1)) va_nil)))) rfl)
      (dss_cons (ds_par c_.toC1.calm c_.toC1.nd rfl rfl (by decide) rfl rfl (by decide) (by decide) (me_v (ve_call (h_line_of.mono (by decide)) c_.toC1 (by rfl) (va_cons (be_pv (pv 0)) (va_cons (be_pv (pv 1)) va_nil)))) (me_v (ve_call (h_triad_of.mono (by decide)) c_.toC1 (by rfl) (va_cons (be_pv (pv 0)) (va_cons (be_pv (pv 1)) va_nil)))) rfl)
      (dss_cons (ds_if (vw_or (t_eq c_.toC1 (be_ve (v_is (be_pv (pv 4)) (be_ve ve_non))) (be_ve (v_is (be_pv (pv 5)) (be_ve ve_non)))) (vw_or1 (vt_not (vt_val (ve_call (h__law_same.mono (by decide)) c_.toC1 (by rfl) (va_cons (be_pv (pv 6)) (va_cons (be_pv (pv 4)) va_nil))))))).vt (dss_cons (ds_ret ve_bl)
      dss_nil) dss_nil)
      (dss_cons (ds_if (t_is (be_pv (pv 5)) (be_ve ve_non)) (dss_cons (ds_ret (ve_and (v_is (be_pv (pv 7)) (be_ve ve_non)) (ve_and (v_isB (be_ve (ve_call (h_shows_line.mono (by decide)) c_.toC1 (by rfl) (va_cons (be_pv (pv 0)) (va_cons (be_pv (pv 1)) (va_cons (be_pv (pv 6)) va_nil))))) (be_ve ve_bl)) (ve_one (v_eq c_.toC1 (be_ve (ve_call (h_need_line.mono (by decide)) c_.toC1 (by rfl) (va_cons (be_pv (pv 0)) (va_cons (be_pv (pv 1)) va_nil)))) (be_pv (pv 6)))))))
      dss_nil) dss_nil)
      (dss_cons (ds_if (vw_or (t_is (be_pv (pv 7)) (be_ve ve_non)) (vw_or (t_ne c_.toC1 (be_ve (ve_ix (c_.toC1.u 1) (be_pv (pv 7)) (be_ve ve_int))) (be_pv (pv 5))) (vw_or (t_ne c_.toC1 (be_ve (v_len b_ (by rfl) (va_cons (be_pv (pv 7)) va_nil))) (be_ve ve_int)) (vw_or1 (t_ne c_.toC1 (be_ve (v_len b_ (by rfl) (va_cons (be_ve (ve_ix (c_.toC1.u 1) (be_pv (pv 7)) (be_ve ve_int))) va_nil))) (be_ve ve_int)))))).vt (dss_cons (ds_ret ve_bl)
      dss_nil) dss_nil)
      (dss_cons (ds_asg (by decide) (ve_pv (pv 5)) (ge_tup c_.toC1.calm (ges_cons (ge_name c_.toC1.nd rfl (by first | exact .inl rfl | exact .inr rfl)) (ges_cons (ge_name c_.toC1.nd rfl (by first | exact .inl rfl | exact .inr rfl)) (ges_cons (ge_name c_.toC1.nd rfl (by first | exact .inl rfl | exact .inr rfl)) ges_nil)))))
      (dss_cons (ds_for c_.po c_.toC1.calm (by decide) (ie_zipTL (by rfl) b_.zip (va_cons (be_ve (ve_ix (c_.toC1.u 1) (be_pv (pv 7)) (be_ve ve_int))) (va_cons (be_ve (ve_lst (va_cons (be_ve (ve_tup (va_cons (be_pv (pv 8)) (va_cons (be_pv (pv 9)) (va_cons (be_pv (pv 10)) va_nil))))) (va_cons (be_ve (ve_tup (va_cons (be_pv (pv 8)) (va_cons (be_pv (pv 10)) (va_cons (be_pv (pv 9)) va_nil))))) (va_cons (be_ve (ve_tup (va_cons (be_pv (pv 9)) (va_cons (be_pv (pv 10)) (va_cons (be_pv (pv 8)) va_nil))))) va_nil))))) va_nil))) (ge_tup c_.toC1.calm (ges_cons (ge_name c_.toC1.nd rfl (by first | exact .inl rfl | exact .inr rfl)) (ges_cons (ge_name c_.toC1.nd rfl (by first | exact .inl rfl | exact .inr rfl)) ges_nil))) (dss_cons (ds_if (vt_not (vt_val (ve_call (h__law_is_chain.mono (by decide)) c_.toC1 (by rfl) (va_cons (be_pv (pv 2)) (va_cons (be_pv (pv 11)) (va_cons (be_ve (ve_ix (c_.toC1.u 1) (be_pv (pv 12)) (be_ve ve_int))) (va_cons (be_ve (ve_ix (c_.toC1.u 1) (be_pv (pv 12)) (be_ve ve_int))) (va_cons (be_ve (ve_ix (c_.toC1.u 1) (be_pv (pv 12)) (be_ve ve_int))) va_nil)))))))) (dss_cons (ds_ret ve_bl)
      dss_nil) dss_nil)
      dss_nil))
      (dss_cons (ds_if (t_isnotB (be_ve (ve_call (h_shows_triad.mono (by decide)) c_.toC1 (by rfl) (va_cons (be_pv (pv 0)) (va_cons (be_pv (pv 1)) (va_cons (be_pv (pv 7)) va_nil))))) (be_ve ve_bl)) (dss_cons (ds_ret ve_bl)
      dss_nil) dss_nil)
      (dss_cons (ds_set c_.toC1.nd rfl (by first | exact .inl rfl | exact .inr rfl) (by decide) (ve_call (h__law_need_or_paper.mono (by decide)) c_.toC1 (by rfl) (va_cons (be_pv (pv 0)) (va_cons (be_pv (pv 1)) va_nil))))
      (dss_cons (ds_ret (ve_and (ve_isi ka_tuple (by rfl) b_.isinstance (by rfl) b_.tuple (by decide +kernel) (be_pv (pv 3))) (ve_and (v_eq c_.toC1 (be_ve (ve_ix (c_.toC1.u 1) (be_pv (pv 3)) (be_ve ve_int))) (be_ve ve_str)) (ve_one (v_isB (be_ve (ve_call (h_shows_triad.mono (by decide)) c_.toC1 (by rfl) (va_cons (be_pv (pv 0)) (va_cons (be_pv (pv 1)) (va_cons (be_ve (ve_ix (c_.toC1.u 1) (be_pv (pv 3)) (be_ve ve_int))) va_nil))))) (be_ve ve_bl))))))
      dss_nil)))))))))))
/-! ### law -/
abbrev s_law : Stmt := PySem.Challenge.pw_answercut_k14_whole_line_or_triad.main.body.getD 53 (.Pass ⟨0, 0, 0, 0⟩)
def t_law : SM := (sseq (ssetF 1 (mcallF F__law_pot_of (mcons (mopd 0) mnil)))
  (sseq (sforR (mitR1 (mcons (mv (mret (.int 12))) mnil)) (mName 2) (sseq (sset 3 (mcallV F__law_some_question (mcons (mopd 1) mnil)))
  (sseq (sset 4 (mcallF F__law_some_prices (mcons (mopd 1) (mcons (mopd 3) mnil))))
  (sseq (sfor (mitT (mcallV F__law_all_pieces (mcons (mopd 3) mnil))) (mName 5) (sseq (sset 6 (mif (mtest (mbin dEq (mv (mcallV F__law_below (mcons (mopd 1) (mcons (mv (mret (.int 2))) mnil)))) (mv (mret (.int 0))))) (mvar 3) (mcallV F__law_part_by (mcons (mopd 3) (mcons (mopd 5) mnil)))))
  (sseq (sset 7 (mcallV F_ruling (mcons (mopd 3) (mcons (mopd 4) mnil))))
  (sseq (sfor (mitT (mtup (mcons (mopd 5) (mcons (mv (mslice (mopd 5) (mpart (mret (.int 1))) (mret none))) (mcons (mv (mcb gTup (mcons (mv (mlc (mitT (mvar 5)) (mName 10) (mtest (mbin dIn (mopd 10) (mopd 7))) (mvar 10) [10])) mnil))) mnil))))) (mName 8) (sseq (sif (mnotT (mtest (mcallV F__law_right (mcons (mopd 6) (mcons (mopd 8) mnil))))) (sseq (sbind (mret (.bool false)) fun d ρ => .ret (.val d) ρ)
  snext) snext)
  snext))
  (sseq (sset 9 (mcb gTup (mcons (mv (mlc (mitT (mvar 5)) (mName 10) (mtest (mbin dEq (mv (mcallV F__law_below (mcons (mopd 1) (mcons (mv (mret (.int 2))) mnil)))) (mv (mret (.int 0))))) (mvar 10) [10])) mnil)))
  (sseq (sif (mnotT (mtest (mcallV F__law_right (mcons (mopd 6) (mcons (mopd 9) mnil))))) (sseq (sbind (mret (.bool false)) fun d ρ => .ret (.val d) ρ)
  snext) snext)
  snext))))))
  snext))))
  (sseq (sbind (mret (.bool true)) fun d ρ => .ret (.val d) ρ)
  snext)))
def F_law : Fn := mkF [] 1 11 t_law
theorem sc_law : FnScope ["script", "pot", "turn", "question", "prices", "piece", "part", "rule", "tables", "some", "one"] ["script"] (defScope s_law) := ⟨rfl, rfl, rfl, by decide +kernel, rfl, by decide +kernel, by decide +kernel⟩
theorem ok_law {P : Program} {w : World} {K : PySem.W.Frag} {mg : Str → Option Value} {base : Heap} {fa : Addr} {fd : FuncData} (b_ : Bi mg) (sys : ∃ o, base.get? sysModules = some o) (F : Fun K "law" "law" s_law fa fd)  (h__law_pot_of : FnD P w K mg base 1 "_law_pot_of" ["script"] F__law_pot_of) (h__law_some_question : FnD P w K mg base 4 "_law_some_question" ["pot"] F__law_some_question) (h__law_some_prices : FnD P w K mg base 4 "_law_some_prices" ["pot", "question"] F__law_some_prices) (h__law_all_pieces : FnD P w K mg base 2 "_law_all_pieces" ["question"] F__law_all_pieces) (h__law_below : FnD P w K mg base 2 "_law_below" ["pot", "bound"] F__law_below) (h__law_part_by : FnD P w K mg base 1 "_law_part_by" ["question", "piece"] F__law_part_by) (h_ruling : FnD P w K mg base 3 "ruling" ["question", "prices"] F_ruling) (h__law_right : FnD P w K mg base 15 "_law_right" ["question", "tables"] F__law_right) :
    FnG P w K mg base 16 fa fd ["script"] (spV K mg F_law) :=
  fn_g (t := t_law) F sc_law [] sys fun cdv A out s H E c_ => by
    unfold t_law
    exact (dss_cons (ds_setF c_.toC1.nd rfl (by first | exact .inl rfl | exact .inr rfl) (by decide) (fe_call (h__law_pot_of.mono (by decide)) c_.toC1 (by rfl) (va_cons (be_pv (pv 0)) va_nil)))
      (dss_cons (ds_forR c_.po c_.toC1.calm (by decide) (ir_range1 (by rfl) b_.range (va_cons (be_ve ve_int) va_nil)) (ge_name c_.toC1.nd rfl (by first | exact .inl rfl | exact .inr rfl)) (dss_cons (ds_set c_.toC1.nd rfl (by first | exact .inl rfl | exact .inr rfl) (by decide) (ve_call (h__law_some_question.mono (by decide)) c_.toC1 (by rfl) (va_cons (be_pv (pv 1)) va_nil)))
      (dss_cons (ds_set c_.toC1.nd rfl (by first | exact .inl rfl | exact .inr rfl) (by decide) (ve_fe (fe_call (h__law_some_prices.mono (by decide)) c_.toC1 (by rfl) (va_cons (be_pv (pv 1)) (va_cons (be_pv (pv 3)) va_nil)))))
      (dss_cons (ds_for c_.po c_.toC1.calm (by decide) (ie_tup (ve_call (h__law_all_pieces.mono (by decide)) c_.toC1 (by rfl) (va_cons (be_pv (pv 3)) va_nil))) (ge_name c_.toC1.nd rfl (by first | exact .inl rfl | exact .inr rfl)) (dss_cons (ds_set c_.toC1.nd rfl (by first | exact .inl rfl | exact .inr rfl) (by decide) (ve_if (t_eq c_.toC1 (be_ve (ve_call (h__law_below.mono (by decide)) c_.toC1 (by rfl) (va_cons (be_pv (pv 1)) (va_cons (be_ve ve_int) va_nil)))) (be_ve ve_int)) (ve_pv (pv 3)) (ve_call (h__law_part_by.mono (by decide)) c_.toC1 (by rfl) (va_cons (be_pv (pv 3)) (va_cons (be_pv (pv 5)) va_nil)))))
      (dss_cons (ds_set c_.toC1.nd rfl (by first | exact .inl rfl | exact .inr rfl) (by decide) (ve_call (h_ruling.mono (by decide)) c_.toC1 (by rfl) (va_cons (be_pv (pv 3)) (va_cons (be_pv (pv 4)) va_nil))))
      (dss_cons (ds_for c_.po c_.toC1.calm (by decide) (ie_tup (ve_tup (va_cons (be_pv (pv 5)) (va_cons (be_ve (ve_slice (be_pv (pv 5)) (oe_some ve_int) oe_none)) (va_cons (be_ve (v_tuple b_ (by rfl) (va_cons (be_ve (ve_fe (fe_lc (ts := [10]) (own := [("one", 10)]) c_.toC1.calm c_.toC1.nd ⟨(ie_tup (ve_pv (pv 5))), blkOk_by (by kernel_rfl), rfl, (by decide), fun s_ H_ C_0 cl_ fp_ => (ge_name (c_.toC1.blk _ s_ H_ C_0 cl_ fp_).nd rfl (by first | exact .inl rfl | exact .inr rfl)), fun s_ H_ C_0 cl_ fp_ => (vts_one (t_in (c_.toC1.blk _ s_ H_ C_0 cl_ fp_) (be_pv (pv 10)) (be_pv (pv 7)))), fun s_ H_ C_0 cl_ fp_ => (ve_pv (pv 10))⟩))) va_nil))) va_nil))))) (ge_name c_.toC1.nd rfl (by first | exact .inl rfl | exact .inr rfl)) (dss_cons (ds_if (vt_not (vt_val (ve_call (h__law_right.mono (by decide)) c_.toC1 (by rfl) (va_cons (be_pv (pv 6)) (va_cons (be_pv (pv 8)) va_nil))))) (dss_cons (ds_ret ve_bl)
      dss_nil) dss_nil)
      dss_nil))
      (dss_cons (ds_set c_.toC1.nd rfl (by first | exact .inl rfl | exact .inr rfl) (by decide) (v_tuple b_ (by rfl) (va_cons (be_ve (ve_fe (fe_lc (ts := [10]) (own := [("one", 10)]) c_.toC1.calm c_.toC1.nd ⟨(ie_tup (ve_pv (pv 5))), blkOk_by (by kernel_rfl), rfl, (by decide), fun s_ H_ C_0 cl_ fp_ => (ge_name (c_.toC1.blk _ s_ H_ C_0 cl_ fp_).nd rfl (by first | exact .inl rfl | exact .inr rfl)), fun s_ H_ C_0 cl_ fp_ => (vts_one (t_eq (c_.toC1.blk _ s_ H_ C_0 cl_ fp_) (be_ve (ve_call (h__law_below.mono (by decide)) (c_.toC1.blk _ s_ H_ C_0 cl_ fp_) (by rfl) (va_cons (be_pv (pv 1)) (va_cons (be_ve ve_int) va_nil)))) (be_ve ve_int))), fun s_ H_ C_0 cl_ fp_ => (ve_pv (pv 10))⟩))) va_nil)))
      (dss_cons (ds_if (vt_not (vt_val (ve_call (h__law_right.mono (by decide)) c_.toC1 (by rfl) (va_cons (be_pv (pv 6)) (va_cons (be_pv (pv 9)) va_nil))))) (dss_cons (ds_ret ve_bl)
      dss_nil) dss_nil)
      dss_nil))))))
      dss_nil))))
      (dss_cons (ds_ret ve_bl)
      dss_nil)))
end G

set_option Elab.async false
set_option linter.all false
set_option maxRecDepth 100000
namespace VS
open PySem L2

/-! ### the plain laws: what the functions answer -/
theorem cloop_val {α : Type} {m : Tg} {ft : M Bool} {fe : M α} {vs : List Nat} {p : D → Bool} {f : D → α} {ρ : Rho} : ∀ (ds : List D), (∀ d ∈ ds, ∃ ρ1, m d ρ = some ρ1 ∧ ft ρ1 = .ok (p d) ρ1 ∧ (p d = true → fe ρ1 = .ok (f d) ρ1) ∧ wipeR ρ1 vs = ρ) →
    cloop (fun _ => True) m ft fe vs ds ρ = .ok ((ds.filter p).map f) ρ
  | [], _ => by
    unfold cloop
    rw [if_pos trivial]
    rfl
  | d :: ds, h => by
    obtain ⟨ρ1, e1, e2, e3, e4⟩ := h d List.mem_cons_self
    have r := cloop_val (p := p) (f := f) ds fun x hx => h x (List.mem_cons_of_mem _ hx)
    unfold cloop
    rw [if_pos trivial, e1]
    dsimp only
    rw [e2]
    dsimp only
    cases hp : p d with
    | true =>
      rw [if_pos rfl, e3 hp]
      dsimp only
      rw [e4, r, List.filter_cons_of_pos hp]
      rfl
    | false =>
      rw [if_neg Bool.false_ne_true, e4, r, List.filter_cons_of_neg (by rw [hp]; exact Bool.false_ne_true)]
theorem mlc_val {m : Tg} {fi : M (List D)} {ft : M Bool} {fe : M D} {vs : List Nat} {p : D → Bool} {f : D → D} {ρ : Rho} {ds : List D} (hi : fi ρ = .ok ds ρ) (hc : clean vs ρ = true) (hl : ds.length ≤ lineN)
    (h : ∀ d ∈ ds, ∃ ρ1, m d ρ = some ρ1 ∧ ft ρ1 = .ok (p d) ρ1 ∧ (p d = true → fe ρ1 = .ok (f d) ρ1) ∧ wipeR ρ1 vs = ρ) : mlc fi m ft fe vs ρ = .ok (.list ((ds.filter p).map f)) ρ := by
  unfold mlc mcompL mbind
  rw [hi]
  unfold Res.bind
  dsimp only
  rw [if_pos ⟨hc, hl⟩, cloop_val ds h]
  rfl
/-- a for loop with no way out -/
theorem sloop_inv {m : Tg} {t : SM} (I : List D → Rho → Prop) : ∀ (ds : List D) (ρ : Rho), I ds ρ → (∀ d r ρ, I (d :: r) ρ → ∃ ρ1 ρ2, m d ρ = some ρ1 ∧ (t ρ1 = .next ρ2 ∨ t ρ1 = .cont ρ2) ∧ I r ρ2) → ∃ ρ', sloop m t ds ρ = .next ρ' ∧ I [] ρ'
  | [], ρ, i, _ => ⟨ρ, rfl, i⟩
  | d :: ds, ρ, i, h => by
    obtain ⟨ρ1, ρ2, e1, e2, i2⟩ := h d ds ρ i
    obtain ⟨ρ', e3, i3⟩ := sloop_inv I ds ρ2 i2 h
    refine ⟨ρ', ?_, i3⟩
    unfold sloop
    rw [e1]
    dsimp only
    rcases e2 with e2 | e2
    · rw [e2]
      exact e3
    · rw [e2]
      exact e3
/-- a while loop with a measure -/
theorem swhile_inv {c : M Bool} {t : SM} (I : Nat → Rho → Prop) (J : Rho → Prop) (h : ∀ n ρ, I n ρ → (c ρ = .ok false ρ ∧ J ρ) ∨ (c ρ = .ok true ρ ∧ ∃ k ρ2, n = k + 1 ∧ (t ρ = .next ρ2 ∨ t ρ = .cont ρ2) ∧ I k ρ2)) :
    ∀ (n N : Nat) (ρ : Rho), n < N → I n ρ → ∃ ρ', swhile c t N ρ = .next ρ' ∧ J ρ'
  | n, 0, ρ, l, _ => absurd l (Nat.not_lt_zero _)
  | n, N + 1, ρ, l, i => by
    unfold swhile sbind
    rcases h n ρ i with ⟨e, j⟩ | ⟨e, k, ρ2, rfl, e2, i2⟩
    · rw [e]
      exact ⟨ρ, rfl, j⟩
    · rw [e]
      dsimp only
      rw [if_pos rfl]
      obtain ⟨ρ', e3, j⟩ := swhile_inv I J h k N ρ2 (by omega) i2
      refine ⟨ρ', ?_, j⟩
      rcases e2 with e2 | e2
      · rw [e2]
        exact e3
      · rw [e2]
        exact e3
/-! ### calls -/
theorem mcall_val {F : Fn} {fa : M (List Op)} {os : List Op} {ars : List Ar} {r : Rt} {outs : List D} {ρ ρ1 ρ2 : Rho} (e1 : fa ρ = .ok os ρ1) (e2 : arsOf os ρ1 = some ars) (e3 : ndB (places os) = true) (e4 : F ars = .ret r outs) (e5 : putOuts os outs ρ1 = some ρ2) :
    mcall F fa ρ = .ok r ρ2 := by
  unfold mcall mbind
  rw [e1]
  unfold Res.bind
  dsimp only
  rw [e2]
  dsimp only
  rw [if_pos e3, e4]
  dsimp only
  unfold mput
  rw [e5]
theorem mcallV_val {F : Fn} {fa : M (List Op)} {os : List Op} {ars : List Ar} {d : D} {outs : List D} {ρ ρ1 ρ2 : Rho} (e1 : fa ρ = .ok os ρ1) (e2 : arsOf os ρ1 = some ars) (e3 : ndB (places os) = true) (e4 : F ars = .ret (.val d) outs) (e5 : putOuts os outs ρ1 = some ρ2) :
    mcallV F fa ρ = .ok d ρ2 := by
  unfold mcallV
  rw [show mbind (mcall F fa) _ ρ = (mcall F fa ρ).bind _ from rfl, mcall_val e1 e2 e3 e4 e5]
  rfl
theorem mcallF_val {F : Fn} {fa : M (List Op)} {os : List Op} {ars : List Ar} {d : D} {outs : List D} {ρ ρ1 ρ2 : Rho} (e1 : fa ρ = .ok os ρ1) (e2 : arsOf os ρ1 = some ars) (e3 : ndB (places os) = true) (e4 : F ars = .ret (.own d) outs) (e5 : putOuts os outs ρ1 = some ρ2) :
    mcallF F fa ρ = .ok d ρ2 := by
  unfold mcallF
  rw [show mbind (mcall F fa) _ ρ = (mcall F fa ρ).bind _ from rfl, mcall_val e1 e2 e3 e4 e5]
  rfl
/-- a def's answer from its body's -/
theorem mkF_ret {P : List Nat} {np n : Nat} {t : SM} {ars : List Ar} {r : Rt} {ρ : Rho} {outs : List D} (h1 : ars.length = np) (h2 : okArsB P 0 ars = true) (h3 : t (ars.map Ar.sl ++ List.replicate (n - np) .emp) = .ret r ρ) (h4 : outsOf ars ρ = some outs) : mkF P np n t ars = .ret r outs := by
  unfold mkF
  rw [if_pos ⟨h1, h2⟩, h3]
  dsimp only
  unfold fret
  rw [h4]
/-! ### dict comprehensions with keys that differ -/
theorem dputs_nodup : ∀ (ps : List (Key × D)) (acc : List (D × D)), (∀ e ∈ acc, ∀ p ∈ ps, keq e.1 p.1 = false) → (ps.map (·.1)).Nodup → dputs acc ps = acc ++ ps.map fun p => (kD p.1, p.2)
  | [], acc, _, _ => by
    unfold dputs
    rw [List.foldl_nil, List.map_nil, List.append_nil]
  | p :: ps, acc, h, nd => by
    rw [List.map_cons, List.nodup_cons] at nd
    have e1 : dput acc p.1 p.2 = acc ++ [(kD p.1, p.2)] := by
      unfold dput
      rw [if_neg]
      intro q
      obtain ⟨e, he, hk⟩ := List.any_eq_true.mp q
      rw [h e he p List.mem_cons_self] at hk
      cases hk
    have r := dputs_nodup ps (acc ++ [(kD p.1, p.2)]) (fun e he q hq => by
      rcases List.mem_append.mp he with he | he
      · exact h e he q (List.mem_cons_of_mem _ hq)
      · cases List.mem_singleton.mp he
        rw [keq_kD]
        refine decide_eq_false fun z => nd.1 ?_
        rw [z]
        exact List.mem_map_of_mem hq) nd.2
    have s : dputs acc (p :: ps) = dputs (dput acc p.1 p.2) ps := rfl
    rw [s, e1, r, List.append_assoc, List.map_cons]
    rfl
theorem mdc_val {m : Tg} {fi : M (List D)} {ft : M Bool} {fk fv : M D} {vs : List Nat} {p : D → Bool} {f : D → Key × D} {ρ : Rho} {ds : List D} (hi : fi ρ = .ok ds ρ) (hc : clean vs ρ = true) (hl : ds.length ≤ lineN)
    (h : ∀ d ∈ ds, ∃ ρ1, m d ρ = some ρ1 ∧ ft ρ1 = .ok (p d) ρ1 ∧ (p d = true → mkv fk fv ρ1 = .ok (f d) ρ1) ∧ wipeR ρ1 vs = ρ) (nd : (((ds.filter p).map f).map (·.1)).Nodup) : mdc fi m ft fk fv vs ρ = .ok (.dict (((ds.filter p).map f).map fun q => (kD q.1, q.2))) ρ := by
  unfold mdc mcompL mbind
  rw [hi]
  unfold Res.bind
  dsimp only
  rw [if_pos ⟨hc, hl⟩, cloop_val ds h]
  dsimp only
  rw [dputs_nodup _ [] (fun e he => nomatch he) nd]
  rfl
end VS

set_option Elab.async false
set_option linter.all false
set_option maxRecDepth 100000
namespace VS
open PySem L2

/-! ### expressions that leave the slots -/
section
variable {ρ ρ1 ρ2 : Rho} {f g : M Op} {a b : Op} {x y d : D} {G : D → D → Option D}
theorem e_v {f : M D} (h : f ρ = .ok d ρ1) : mv f ρ = .ok (.v d) ρ1 := by
  unfold mv mbind; rw [h]; rfl
theorem e_bin (h1 : f ρ = .ok a ρ1) (h2 : g ρ1 = .ok b ρ2) (h3 : mder a ρ2 = .ok x ρ2) (h4 : mder b ρ2 = .ok y ρ2) (h : G x y = some d) : mbin G f g ρ = .ok d ρ2 := by
  unfold mbin mbind; rw [h1]; dsimp only [Res.bind]; rw [h2]; dsimp only [Res.bind]; rw [h3]; dsimp only [Res.bind]; rw [h4]; dsimp only [Res.bind]; rw [h]; rfl
theorem e_test {f : M D} {k : Bool} (h : f ρ = .ok (.bool k) ρ1) : mtest f ρ = .ok k ρ1 := by
  unfold mtest mbind; rw [h]; rfl
theorem e_not {f : M Bool} {k : Bool} (h : f ρ = .ok k ρ1) : mnotT f ρ = .ok (!k) ρ1 := by
  unfold mnotT mbind; rw [h]; rfl
theorem e_and {f g : M Bool} {k l : Bool} (h : f ρ = .ok k ρ1) (h2 : k = true → g ρ1 = .ok l ρ1) : mandT f g ρ = .ok (k && l) ρ1 := by
  unfold mandT mbind; rw [h]; dsimp only [Res.bind]
  cases k with
  | true => rw [if_pos rfl, h2 rfl]; rfl
  | false => rfl
theorem e_or {f g : M Bool} {k l : Bool} (h : f ρ = .ok k ρ1) (h2 : k = false → g ρ1 = .ok l ρ1) : morT f g ρ = .ok (k || l) ρ1 := by
  unfold morT mbind; rw [h]; dsimp only [Res.bind]
  cases k with
  | true => rfl
  | false => rw [if_neg Bool.false_ne_true, h2 rfl]; rfl
theorem e_notV {f : M D} {k : Bool} (h : f ρ = .ok (.bool k) ρ1) : mnotV f ρ = .ok (.bool (!k)) ρ1 := by
  unfold mnotV mbind; rw [h]; rfl
theorem e_andV {f g : M D} {k l : Bool} (h : f ρ = .ok (.bool k) ρ1) (h2 : k = true → g ρ1 = .ok (.bool l) ρ1) : mandV f g ρ = .ok (.bool (k && l)) ρ1 := by
  unfold mandV mbind; rw [h]; dsimp only [Res.bind]
  cases k with
  | true => rw [if_pos rfl, h2 rfl]; rfl
  | false => rfl
theorem e_orV {f g : M D} {k l : Bool} (h : f ρ = .ok (.bool k) ρ1) (h2 : k = false → g ρ1 = .ok (.bool l) ρ1) : morV f g ρ = .ok (.bool (k || l)) ρ1 := by
  unfold morV mbind; rw [h]; dsimp only [Res.bind]
  cases k with
  | true => rfl
  | false => rw [if_neg Bool.false_ne_true, h2 rfl]; rfl
theorem e_if {α : Type} {t : M Bool} {f g : M α} {k : Bool} {r : Res α} (h : t ρ = .ok k ρ1) (h1 : k = true → f ρ1 = r) (h2 : k = false → g ρ1 = r) : mif t f g ρ = r := by
  unfold mif mbind; rw [h]; dsimp only [Res.bind]
  cases k with
  | true => rw [if_pos rfl, h1 rfl]
  | false => rw [if_neg Bool.false_ne_true, h2 rfl]
theorem e_nil : mnil ρ = .ok [] ρ := rfl
theorem e_cons {g : M (List Op)} {os : List Op} (h : f ρ = .ok a ρ1) (h2 : g ρ1 = .ok os ρ2) : mcons f g ρ = .ok (a :: os) ρ2 := by
  unfold mcons mbind; rw [h]; dsimp only [Res.bind]; rw [h2]; rfl
theorem e_one (h : f ρ = .ok a ρ1) : mcons f mnil ρ = .ok [a] ρ1 := e_cons h e_nil
theorem e_two (h : f ρ = .ok a ρ1) (h2 : g ρ1 = .ok b ρ2) : mcons f (mcons g mnil) ρ = .ok [a, b] ρ2 := e_cons h (e_one h2)
theorem e_three {k : M Op} {c : Op} {ρ3 : Rho} (h : f ρ = .ok a ρ1) (h2 : g ρ1 = .ok b ρ2) (h3 : k ρ2 = .ok c ρ3) : mcons f (mcons g (mcons k mnil)) ρ = .ok [a, b, c] ρ3 := e_cons h (e_two h2 h3)
theorem e_four {k l : M Op} {c e : Op} {ρ3 ρ4 : Rho} (h : f ρ = .ok a ρ1) (h2 : g ρ1 = .ok b ρ2) (h3 : k ρ2 = .ok c ρ3) (h4 : l ρ3 = .ok e ρ4) : mcons f (mcons g (mcons k (mcons l mnil))) ρ = .ok [a, b, c, e] ρ4 := e_cons h (e_three h2 h3 h4)
theorem mders_one (h : mder a ρ = .ok x ρ) : mders [a] ρ = .ok [x] ρ := by
  unfold mders mbind; rw [h]; rfl
theorem e_cb1 {G : List D → Option D} (h : f ρ = .ok a ρ1) (h2 : mder a ρ1 = .ok x ρ1) (h3 : G [x] = some d) : mcb G (mcons f mnil) ρ = .ok d ρ1 := by
  unfold mcb mbind; rw [e_one h]; dsimp only [Res.bind]; rw [mders_one h2]; dsimp only; rw [h3]; rfl
theorem e_tup {f : M (List Op)} {os : List Op} {ds : List D} (h : f ρ = .ok os ρ1) (h1 : os.length ≤ 1000) (h2 : vals os = some ds) : mtup f ρ = .ok (.tuple ds) ρ1 := by
  unfold mtup mbind; rw [h]; dsimp only [Res.bind]; rw [if_pos h1, h2]; rfl
theorem e_lst {f : M (List Op)} {os : List Op} {ds : List D} (h : f ρ = .ok os ρ1) (h1 : os.length ≤ 1000) (h2 : vals os = some ds) : mlst f ρ = .ok (.list ds) ρ1 := by
  unfold mlst mbind; rw [h]; dsimp only [Res.bind]; rw [if_pos h1, h2]; rfl
theorem e_itL {f : M D} {ds : List D} (h : f ρ = .ok (.list ds) ρ1) : mitL f ρ = .ok ds ρ1 := by
  unfold mitL mbind; rw [h]; rfl
theorem e_itT {f : M D} {ds : List D} (h : f ρ = .ok (.tuple ds) ρ1) : mitT f ρ = .ok ds ρ1 := by
  unfold mitT mbind; rw [h]; rfl
theorem e_itK {f : M D} {ds : List (D × D)} (h : f ρ = .ok (.dict ds) ρ1) : mitK f ρ = .ok (ds.map (·.1)) ρ1 := by
  unfold mitK mbind; rw [h]; rfl
theorem e_itI {f : M D} {ds : List (D × D)} (h : f ρ = .ok (.dict ds) ρ1) : mitI f ρ = .ok (ds.map fun p => .tuple [p.1, p.2]) ρ1 := by
  unfold mitI mbind; rw [h]; rfl
theorem e_R1 {f : M (List Op)} {i : Int} (h : f ρ = .ok [.v (.int i)] ρ1) (h2 : rgOk i = true) : mitR1 f ρ = .ok (rangeD 0 i) ρ1 := by
  unfold mitR1 mbind; rw [h]; dsimp only [Res.bind]; rw [if_pos h2]; rfl
theorem e_part {f : M D} {i : Int} (h : f ρ = .ok (.int i) ρ1) : mpart f ρ = .ok (some i) ρ1 := by
  unfold mpart mbind; rw [h]; rfl
theorem e_slice {l h : M (Option Int)} {i j : Option Int} {ρ3 : Rho} (h1 : f ρ = .ok a ρ1) (h2 : l ρ1 = .ok i ρ2) (h3 : h ρ2 = .ok j ρ3) (h4 : mder a ρ3 = .ok x ρ3) (h5 : dSl x i j = some d) : mslice f l h ρ = .ok d ρ3 := by
  unfold mslice mbind; rw [h1]; dsimp only [Res.bind]; rw [h2]; dsimp only [Res.bind]; rw [h3]; dsimp only [Res.bind]; rw [h4]; dsimp only [Res.bind]; rw [h5]; rfl
theorem e_rev (h1 : f ρ = .ok a ρ1) (h4 : mder a ρ1 = .ok x ρ1) (h5 : dRev x = some d) : mrev f ρ = .ok d ρ1 := by
  unfold mrev mbind; rw [h1]; dsimp only [Res.bind]; rw [h4]; dsimp only [Res.bind]; rw [h5]; rfl
theorem e_isi {T : String} (h1 : f ρ = .ok a ρ1) (h4 : mder a ρ1 = .ok x ρ1) : misi T f ρ = .ok (.bool (tyIs (dty x) T)) ρ1 := by
  unfold misi mbind; rw [h1]; dsimp only [Res.bind]; rw [h4]; rfl
theorem e_rv {f : M D} (h : f ρ = .ok d ρ1) : mrv f ρ = .ok (.val d) ρ1 := by
  unfold mrv mbind; rw [h]; rfl
theorem e_ro {f : M D} (h : f ρ = .ok d ρ1) : mro f ρ = .ok (.own d) ρ1 := by
  unfold mro mbind; rw [h]; rfl
theorem e_meth1 {G : D → List D → Option D} {ds : List D} (h1 : f ρ = .ok a ρ1) (h2 : mder a ρ1 = .ok (.list ds) ρ1) (h3 : g ρ1 = .ok b ρ2) (h4 : mder a ρ2 = .ok x ρ2) (h5 : mder b ρ2 = .ok y ρ2) (h6 : G x [y] = some d) : mmeth G f (mcons g mnil) ρ = .ok d ρ2 := by
  unfold mmeth mbind; rw [h1]; dsimp only [Res.bind]; rw [h2]; dsimp only [Res.bind]; rw [e_one h3]; dsimp only [Res.bind]; rw [h4]; dsimp only [Res.bind]; rw [mders_one h5]; dsimp only; rw [h6]; rfl
/-- a deed on an own thing -/
theorem e_mut {i : Nat} {T : String} {G : D → List D → Option (D × D)} {fa : M (List Op)} {os : List Op} {ds : List D} {d0 d1 d2 e : D} (h1 : ownAt ρ i = some d0) (h2 : dTy d0 = T) (h3 : fa ρ = .ok os ρ1) (h4 : vals os = some ds) (h5 : ownAt ρ1 i = some d1) (h6 : G d1 ds = some (d2, e)) : mmut i T G fa ρ = .ok e (ρ1.set i (.own d2)) := by
  unfold mmut; rw [h1]; dsimp only; rw [if_pos h2]; unfold mbind; rw [h3]; dsimp only [Res.bind]; rw [h4, h5]; dsimp only; rw [h6]
end
/-! ### statements -/
section
variable {ρ ρ1 ρ2 : Rho} {t u : SM} {r : SR} {d : D} {f : M D}
theorem s_seq (h1 : t ρ = .next ρ1) (h2 : u ρ1 = r) : sseq t u ρ = r := by
  unfold sseq; rw [h1]; exact h2
theorem s_seqR {q : Rt} (h1 : t ρ = .ret q ρ1) : sseq t u ρ = .ret q ρ1 := by
  unfold sseq; rw [h1]
theorem s_ret (h : f ρ = .ok d ρ1) : sseq (sbind f fun d ρ => .ret (.val d) ρ) u ρ = .ret (.val d) ρ1 := by
  unfold sseq sbind; rw [h]
theorem s_retO (h : f ρ = .ok d ρ1) : sseq (sbind f fun d ρ => .ret (.own d) ρ) u ρ = .ret (.own d) ρ1 := by
  unfold sseq sbind; rw [h]
theorem s_set {i : Nat} (h : f ρ = .ok d ρ1) : sset i f ρ = .next (ρ1.set i (.val d)) := by
  unfold sset sbind; rw [h]
theorem s_setF {i : Nat} (h : f ρ = .ok d ρ1) : ssetF i f ρ = .next (ρ1.set i (.own d)) := by
  unfold ssetF sbind; rw [h]
theorem s_exp (h : f ρ = .ok d ρ1) : sbind f (fun _ => snext) ρ = .next ρ1 := by
  unfold sbind; rw [h]; rfl
theorem s_if {c : M Bool} {k : Bool} (h : c ρ = .ok k ρ1) (h1 : k = true → t ρ1 = r) (h2 : k = false → u ρ1 = r) : sif c t u ρ = r := by
  unfold sif sbind; rw [h]; dsimp only
  cases k with
  | true => rw [if_pos rfl, h1 rfl]
  | false => rw [if_neg Bool.false_ne_true, h2 rfl]
theorem s_for {fi : M (List D)} {ds : List D} {m : Tg} (h : fi ρ = .ok ds ρ1) (h2 : sloop m t ds (demote ρ1) = r) : sfor fi m t ρ = r := by
  unfold sfor sbind; rw [h]; exact h2
theorem s_forR {fi : M (List D)} {ds : List D} {m : Tg} (h : fi ρ = .ok ds ρ1) (h2 : sloop m t ds ρ1 = r) : sforR fi m t ρ = r := by
  unfold sforR sbind; rw [h]; exact h2
theorem s_par {i j : Nat} {f g : M Rt} {p q : Rt} (h : f ρ = .ok p ρ1) (h2 : g ρ1 = .ok q ρ2) : spar i j f g ρ = .next ((ρ2.set i p.sl).set j q.sl) := by
  unfold spar sbind; rw [h]; dsimp only; rw [h2]
theorem s_asg {m : Tg} (h : f ρ = .ok d ρ1) (h2 : m d ρ1 = some ρ2) : sasg f m ρ = .next ρ2 := by
  unfold sasg sbind; rw [h]; dsimp only; rw [h2]
theorem s_putD {i : Nat} {fe fi : M D} {v k d0 : D} {key : Key} {xs : List (D × D)} (h1 : fe ρ = .ok v ρ1) (h2 : ownAt ρ1 i = some d0) (h3 : fi ρ1 = .ok k ρ2) (h4 : keyOf k = some key) (h5 : ownAt ρ2 i = some (.dict xs)) (h6 : xs.length < lineN) : sputD i fe fi ρ = .next (ρ2.set i (.own (.dict (dput xs key v)))) := by
  unfold sputD sbind; rw [h1]; dsimp only; rw [h2, if_pos (show (some d0).isSome = true from rfl), h3]; dsimp only; rw [h4, h5]; dsimp only; rw [if_pos h6]
theorem s_putL {i : Nat} {fe fi : M D} {v d0 : D} {z : Int} {j : Nat} {xs : List D} (h1 : fe ρ = .ok v ρ1) (h2 : ownAt ρ1 i = some d0) (h3 : fi ρ1 = .ok (.int z) ρ2) (h5 : ownAt ρ2 i = some (.list xs)) (h6 : ixN xs.length z = some j) : sputL i fe fi ρ = .next (ρ2.set i (.own (.list (xs.set j v)))) := by
  unfold sputL sbind; rw [h1]; dsimp only; rw [h2, if_pos (show (some d0).isSome = true from rfl), h3]; dsimp only; rw [h5]; dsimp only; rw [h6]
theorem s_fz {i : Nat} (h1 : ρ[i]? = some (.own d)) (h2 : t (ρ.set i (.val d)) = r) : sfz i t ρ = r := by
  unfold sfz; rw [h1]; exact h2
theorem s_retv {i : Nat} (h1 : ρ[i]? = some (.own d)) : sseq (sretv i) u ρ = .ret (.own d) (ρ.set i .emp) := by
  unfold sseq sretv; rw [h1]
theorem s_while_inv {c : M Bool} (I : Nat → Rho → Prop) (J : Rho → Prop) (h : ∀ n ρ, I n ρ → (c ρ = .ok false ρ ∧ J ρ) ∨ (c ρ = .ok true ρ ∧ ∃ k ρ2, n = k + 1 ∧ (t ρ = .next ρ2 ∨ t ρ = .cont ρ2) ∧ I k ρ2)) {n N : Nat} (l : n < N) (i : I n ρ) : ∃ ρ', swhile c t N ρ = .next ρ' ∧ J ρ' := swhile_inv I J h n N ρ l i
end
/-! ### comprehensions: with slots that change, over an own list -/
theorem cloop_chg {α : Type} {m : Tg} {ft : M Bool} {fe : M α} {vs : List Nat} (I : Rho → Prop) (P : α → Prop) : ∀ (ds : List D) (ρ : Rho), I ρ → (∀ d ∈ ds, ∀ ρ, I ρ → ∃ ρ1 ρ2 y, m d ρ = some ρ1 ∧ ft ρ1 = .ok true ρ1 ∧ fe ρ1 = .ok y ρ2 ∧ P y ∧ I (wipeR ρ2 vs)) →
    ∃ ys ρ', cloop (fun _ => True) m ft fe vs ds ρ = .ok ys ρ' ∧ I ρ' ∧ ys.length = ds.length ∧ ∀ y ∈ ys, P y
  | [], ρ, i, _ => ⟨[], ρ, by unfold cloop; rw [if_pos trivial], i, rfl, fun _ h => nomatch h⟩
  | d :: ds, ρ, i, h => by
    obtain ⟨ρ1, ρ2, y, e1, e2, e3, p, i2⟩ := h d List.mem_cons_self ρ i
    obtain ⟨ys, ρ', e4, i3, l, q⟩ := cloop_chg I P ds _ i2 fun x hx => h x (List.mem_cons_of_mem _ hx)
    refine ⟨y :: ys, ρ', ?_, i3, by rw [List.length_cons, List.length_cons, l], fun z hz => ?_⟩
    · unfold cloop
      rw [if_pos trivial, e1]; dsimp only
      rw [e2]; dsimp only
      rw [if_pos rfl, e3]; dsimp only
      rw [e4]
    · rcases List.mem_cons.mp hz with rfl | hz
      · exact p
      · exact q z hz
theorem mlc_chg {m : Tg} {fi : M (List D)} {ft : M Bool} {fe : M D} {vs : List Nat} {ρ ρ0 : Rho} {ds : List D} (I : Rho → Prop) (P : D → Prop) (hi : fi ρ = .ok ds ρ0) (hc : clean vs ρ0 = true) (hl : ds.length ≤ lineN) (i : I ρ0)
    (h : ∀ d ∈ ds, ∀ ρ, I ρ → ∃ ρ1 ρ2 y, m d ρ = some ρ1 ∧ ft ρ1 = .ok true ρ1 ∧ fe ρ1 = .ok y ρ2 ∧ P y ∧ I (wipeR ρ2 vs)) : ∃ ys ρ', mlc fi m ft fe vs ρ = .ok (.list ys) ρ' ∧ I ρ' ∧ ys.length = ds.length ∧ ∀ y ∈ ys, P y := by
  obtain ⟨ys, ρ', e, i2, l, q⟩ := cloop_chg I P ds ρ0 i h
  refine ⟨ys, ρ', ?_, i2, l, q⟩
  unfold mlc mcompL mbind
  rw [hi]; unfold Res.bind; dsimp only
  rw [if_pos ⟨hc, hl⟩, e]; rfl
theorem cloop_valO {α : Type} {ck : Rho → Prop} [DecidablePred ck] {m : Tg} {ft : M Bool} {fe : M α} {vs : List Nat} {p : D → Bool} {f : D → α} {ρ : Rho} (hk : ck ρ) : ∀ (ds : List D), (∀ d ∈ ds, ∃ ρ1, m d ρ = some ρ1 ∧ ft ρ1 = .ok (p d) ρ1 ∧ (p d = true → fe ρ1 = .ok (f d) ρ1) ∧ wipeR ρ1 vs = ρ) →
    cloop ck m ft fe vs ds ρ = .ok ((ds.filter p).map f) ρ
  | [], _ => by
    unfold cloop
    rw [if_pos hk]
    rfl
  | d :: ds, h => by
    obtain ⟨ρ1, e1, e2, e3, e4⟩ := h d List.mem_cons_self
    have r := cloop_valO (p := p) (f := f) hk ds fun x hx => h x (List.mem_cons_of_mem _ hx)
    unfold cloop
    rw [if_pos hk, e1]
    dsimp only
    rw [e2]
    dsimp only
    cases hp : p d with
    | true =>
      rw [if_pos rfl, e3 hp]
      dsimp only
      rw [e4, r, List.filter_cons_of_pos hp]
      rfl
    | false =>
      rw [if_neg Bool.false_ne_true, e4, r, List.filter_cons_of_neg (by rw [hp]; exact Bool.false_ne_true)]
theorem mlcO_val {j : Nat} {m : Tg} {ft : M Bool} {fe : M D} {vs : List Nat} (p : D → Bool) (f : D → D) {ρ : Rho} {ds : List D} (hi : ρ[j]? = some (.own (.list ds))) (hc : clean vs ρ = true) (hl : ds.length ≤ lineN)
    (h : ∀ d ∈ ds, ∃ ρ1, m d ρ = some ρ1 ∧ ft ρ1 = .ok (p d) ρ1 ∧ (p d = true → fe ρ1 = .ok (f d) ρ1) ∧ wipeR ρ1 vs = ρ) : mlcO j m ft fe vs ρ = .ok (.list ((ds.filter p).map f)) ρ := by
  unfold mlcO mcompO mbind
  dsimp only
  rw [hi]
  unfold Res.bind
  dsimp only
  rw [if_pos ⟨hc, hl⟩, cloop_valO hi ds h]
  rfl
/-- without a test -/
theorem mlc_all {m : Tg} {fi : M (List D)} {fe : M D} {vs : List Nat} (f : D → D) {ρ : Rho} {ds : List D} (hi : fi ρ = .ok ds ρ) (hc : clean vs ρ = true) (hl : ds.length ≤ lineN)
    (h : ∀ d ∈ ds, ∃ ρ1, m d ρ = some ρ1 ∧ fe ρ1 = .ok (f d) ρ1 ∧ wipeR ρ1 vs = ρ) : mlc fi m (mret true) fe vs ρ = .ok (.list (ds.map f)) ρ := by
  have r := mlc_val (m := m) (fi := fi) (ft := mret true) (fe := fe) (vs := vs) (p := fun _ => true) (f := f) hi hc hl fun d hd => by
    obtain ⟨ρ1, a, b, c⟩ := h d hd
    exact ⟨ρ1, a, rfl, fun _ => b, c⟩
  rw [r, show ds.filter (fun _ => true) = ds from List.filter_eq_self.mpr fun _ _ => rfl]
theorem mlcO_all {j : Nat} {m : Tg} {fe : M D} {vs : List Nat} (f : D → D) {ρ : Rho} {ds : List D} (hi : ρ[j]? = some (.own (.list ds))) (hc : clean vs ρ = true) (hl : ds.length ≤ lineN)
    (h : ∀ d ∈ ds, ∃ ρ1, m d ρ = some ρ1 ∧ fe ρ1 = .ok (f d) ρ1 ∧ wipeR ρ1 vs = ρ) : mlcO j m (mret true) fe vs ρ = .ok (.list (ds.map f)) ρ := by
  have r := mlcO_val (m := m) (ft := mret true) (fe := fe) (vs := vs) (fun _ => true) f hi hc hl fun d hd => by
    obtain ⟨ρ1, a, b, c⟩ := h d hd
    exact ⟨ρ1, a, rfl, fun _ => b, c⟩
  rw [r, show ds.filter (fun _ => true) = ds from List.filter_eq_self.mpr fun _ _ => rfl]
/-! ### texts, ints: what the operators answer -/
def txt (L : List Str) : D := .list (L.map .str)
def tupS (L : List Str) : D := .tuple (L.map .str)
def okT (s : Str) : Bool := PyData.canLay0 (.str s)
theorem eqv_str (x y : Str) : PyData.eqv (.str x) (.str y) = decide (x = y) := by
  show (x == y) = _
  rw [Bool.eq_iff_iff, beq_iff_eq, decide_eq_true_iff]
theorem shp_str {s : Str} (h : okT s = true) : SeqAt.shaped (.str s) = true := by
  unfold SeqAt.shaped
  rw [show PyData.canLay0 (.str s) = true from h, show PyData.depth (.str s) = 0 from rfl]; rfl
theorem layAll_txt : ∀ {L : List Str}, (∀ s ∈ L, okT s = true) → PyData.canLayAll0 (L.map .str) = true ∧ PyData.depthAll (L.map .str) = 0
  | [], _ => ⟨rfl, rfl⟩
  | x :: L, h => by
    obtain ⟨a, b⟩ := layAll_txt (L := L) fun s hs => h s (List.mem_cons_of_mem _ hs)
    refine ⟨?_, ?_⟩
    · show (PyData.canLay0 (.str x) && PyData.canLayAll0 (L.map .str)) = true
      rw [a, show PyData.canLay0 (.str x) = true from h x List.mem_cons_self]; rfl
    · show max (PyData.depth (.str x)) (PyData.depthAll (L.map .str)) = 0
      rw [b]; rfl
theorem shp_txt {L : List Str} (h : ∀ s ∈ L, okT s = true) : SeqAt.shaped (txt L) = true := by
  obtain ⟨a, b⟩ := layAll_txt h
  unfold SeqAt.shaped txt
  rw [show PyData.canLay0 (.list (L.map .str)) = true from a, show PyData.depth (.list (L.map .str)) = 1 by show PyData.depthAll (L.map .str) + 1 = 1; rw [b]]; rfl
theorem shp_tupS {L : List Str} (h : ∀ s ∈ L, okT s = true) : SeqAt.shaped (tupS L) = true := by
  obtain ⟨a, b⟩ := layAll_txt h
  unfold SeqAt.shaped tupS
  rw [show PyData.canLay0 (.tuple (L.map .str)) = true from a, show PyData.depth (.tuple (L.map .str)) = 1 by show PyData.depthAll (L.map .str) + 1 = 1; rw [b]]; rfl
theorem any_eqv (s : Str) : ∀ (L : List Str), ((L.map PyData.str).any fun z => PyData.eqv z (.str s)) = decide (s ∈ L)
  | [] => rfl
  | x :: L => by
    rw [List.map_cons, List.any_cons, any_eqv s L, eqv_str, Bool.eq_iff_iff, Bool.or_eq_true, decide_eq_true_iff, decide_eq_true_iff, decide_eq_true_iff, List.mem_cons]
    exact ⟨fun h => h.imp (fun h => h.symm) id, fun h => h.imp (fun h => h.symm) id⟩
theorem in_txt {s : Str} {L : List Str} (hs : okT s = true) (h : ∀ s ∈ L, okT s = true) : dIn (.str s) (txt L) = some (.bool (decide (s ∈ L))) := by
  unfold dIn orG
  rw [show gInL (.str s) (txt L) = some (.bool (decide (s ∈ L))) from by
    show (if SeqAt.shaped (.str s) = true ∧ SeqAt.shaped (.list (L.map .str)) = true then _ else _) = _
    rw [if_pos ⟨shp_str hs, shp_txt h⟩, any_eqv]]
theorem notIn_txt {s : Str} {L : List Str} (hs : okT s = true) (h : ∀ s ∈ L, okT s = true) : dNotIn (.str s) (txt L) = some (.bool (!decide (s ∈ L))) := by
  unfold dNotIn orG
  rw [show gNotInL (.str s) (txt L) = some (.bool (!decide (s ∈ L))) from by
    show (if SeqAt.shaped (.str s) = true ∧ SeqAt.shaped (.list (L.map .str)) = true then _ else _) = _
    rw [if_pos ⟨shp_str hs, shp_txt h⟩, any_eqv]]
theorem in_tupS {s : Str} {L : List Str} (hs : okT s = true) (h : ∀ s ∈ L, okT s = true) : dIn (.str s) (tupS L) = some (.bool (decide (s ∈ L))) := by
  unfold dIn orG
  rw [show gInL (.str s) (tupS L) = none from rfl]
  dsimp only
  rw [show gInT (.str s) (tupS L) = some (.bool (decide (s ∈ L))) from by
    show (if SeqAt.shaped (.str s) = true ∧ SeqAt.shaped (.tuple (L.map .str)) = true then _ else _) = _
    rw [if_pos ⟨shp_str hs, shp_tupS h⟩, any_eqv]]
theorem notIn_tupS {s : Str} {L : List Str} (hs : okT s = true) (h : ∀ s ∈ L, okT s = true) : dNotIn (.str s) (tupS L) = some (.bool (!decide (s ∈ L))) := by
  unfold dNotIn orG
  rw [show gNotInL (.str s) (tupS L) = none from rfl]
  dsimp only
  rw [show gNot gInT (.str s) (tupS L) = some (.bool (!decide (s ∈ L))) from by
    unfold gNot
    rw [show gInT (.str s) (tupS L) = some (.bool (decide (s ∈ L))) from by
      show (if SeqAt.shaped (.str s) = true ∧ SeqAt.shaped (.tuple (L.map .str)) = true then _ else _) = _
      rw [if_pos ⟨shp_str hs, shp_tupS h⟩, any_eqv]]]
theorem dlook_keys (s : Str) : ∀ (kv : List (D × D)) (L : List Str), kv.map (·.1) = L.map PyData.str → (dlook kv (.inr s)).isSome = decide (s ∈ L)
  | [], L, h => by
    cases L with
    | nil => rfl
    | cons x L => cases h
  | (k, v) :: kv, [], h => by cases h
  | (k, v) :: kv, x :: L, h => by
    rw [List.map_cons, List.map_cons, List.cons.injEq] at h
    have i := dlook_keys s kv L h.2
    have e : k = .str x := h.1
    subst e
    unfold dlook at i ⊢
    by_cases q : x = s
    · subst q
      rw [List.find?_cons_of_pos (by exact decide_eq_true rfl)]
      exact (decide_eq_true List.mem_cons_self).symm
    · rw [List.find?_cons_of_neg (by show ¬ (decide (x = s) = true); rw [decide_eq_false q]; exact Bool.false_ne_true), i, Bool.eq_iff_iff, decide_eq_true_iff, decide_eq_true_iff, List.mem_cons]
      exact ⟨.inr, fun h => h.resolve_left fun z => q z.symm⟩
theorem in_keys {s : Str} {kv : List (D × D)} {L : List Str} (h : kv.map (·.1) = L.map PyData.str) : dIn (.str s) (.dict kv) = some (.bool (decide (s ∈ L))) := by
  unfold dIn orG
  rw [show gInL (.str s) (.dict kv) = none from rfl]; dsimp only
  rw [show gInT (.str s) (.dict kv) = none from rfl]; dsimp only
  rw [show gInK (.str s) (.dict kv) = some (.bool (decide (s ∈ L))) from by rw [← dlook_keys s kv L h]; rfl]
theorem notIn_keys {s : Str} {kv : List (D × D)} {L : List Str} (h : kv.map (·.1) = L.map PyData.str) : dNotIn (.str s) (.dict kv) = some (.bool (!decide (s ∈ L))) := by
  unfold dNotIn orG
  rw [show gNotInL (.str s) (.dict kv) = none from rfl]; dsimp only
  rw [show gNot gInT (.str s) (.dict kv) = none from rfl]; dsimp only
  rw [show gNot gInK (.str s) (.dict kv) = some (.bool (!decide (s ∈ L))) from by rw [← dlook_keys s kv L h]; rfl]
theorem eq_str (s t : Str) : dEq (.str s) (.str t) = some (.bool (decide (s = t))) := rfl
theorem eq_int (s t : Int) : dEq (.int s) (.int t) = some (.bool (decide (s = t))) := rfl
theorem shp_nil : SeqAt.shaped (.list []) = true := by decide
theorem ne_nil {L : List D} (h : SeqAt.shaped (.list L) = true) : dNe (.list L) (.list []) = some (.bool (!L.isEmpty)) := by
  unfold dNe orG
  rw [show gNot gEqS (.list L) (.list []) = none from rfl]; dsimp only
  unfold gNe
  rw [if_pos ⟨h, shp_nil⟩]
  cases L <;> rfl
theorem eq_nil {L : List D} (h : SeqAt.shaped (.list L) = true) : dEq (.list L) (.list []) = some (.bool L.isEmpty) := by
  unfold dEq orG
  rw [show gEqS (.list L) (.list []) = none from rfl]; dsimp only
  unfold gEq
  rw [if_pos ⟨h, shp_nil⟩]
  cases L <;> rfl
theorem bools_map {α : Type} (p : α → Bool) : ∀ (L : List α), boolsD (L.map fun x => .bool (p x)) = some (L.map p)
  | [] => rfl
  | x :: L => by
    show (boolsD (L.map fun x => .bool (p x))).map _ = _
    rw [bools_map p L]; rfl
theorem any_bools {α : Type} (p : α → Bool) (L : List α) : gAny [.list (L.map fun x => .bool (p x))] = some (.bool (L.any p)) := by
  unfold gAny; dsimp only; rw [bools_map]; show some (PyData.bool _) = _; rw [List.any_map]; rfl
theorem all_bools {α : Type} (p : α → Bool) (L : List α) : gAll [.list (L.map fun x => .bool (p x))] = some (.bool (L.all p)) := by
  unfold gAll; dsimp only; rw [bools_map]; show some (PyData.bool _) = _; rw [List.all_map]; rfl
end VS

set_option Elab.async false
set_option linter.all false
set_option maxRecDepth 100000
namespace VS
open PySem L2
section
variable {α β : Type}
theorem cloop_map {ck : Rho → Prop} [DecidablePred ck] {m : Tg} {ft : M Bool} {fe : M β} {vs : List Nat} {g : α → D} {p : α → Bool} {f : α → β} {ρ : Rho} (hk : ck ρ) : ∀ (L : List α), (∀ x ∈ L, ∃ ρ1, m (g x) ρ = some ρ1 ∧ ft ρ1 = .ok (p x) ρ1 ∧ (p x = true → fe ρ1 = .ok (f x) ρ1) ∧ wipeR ρ1 vs = ρ) →
    cloop ck m ft fe vs (L.map g) ρ = .ok ((L.filter p).map f) ρ
  | [], _ => by
    rw [List.map_nil]
    unfold cloop
    rw [if_pos hk]
    rfl
  | d :: ds, h => by
    obtain ⟨ρ1, e1, e2, e3, e4⟩ := h d List.mem_cons_self
    have r := cloop_map (g := g) (p := p) (f := f) hk ds fun x hx => h x (List.mem_cons_of_mem _ hx)
    rw [List.map_cons]
    unfold cloop
    rw [if_pos hk, e1]
    dsimp only
    rw [e2]
    dsimp only
    cases hp : p d with
    | true =>
      rw [if_pos rfl, e3 hp]
      dsimp only
      rw [e4, r, List.filter_cons_of_pos hp]
      rfl
    | false =>
      rw [if_neg Bool.false_ne_true, e4, r, List.filter_cons_of_neg (by rw [hp]; exact Bool.false_ne_true)]
theorem filter_tt (L : List α) : L.filter (fun _ => true) = L := List.filter_eq_self.mpr fun _ _ => rfl
/-- [f x for x in L if p x] -/
theorem m_lc (g : α → D) (p : α → Bool) (f : α → D) {m : Tg} {fi : M (List D)} {ft : M Bool} {fe : M D} {vs : List Nat} {ρ : Rho} {L : List α} (hi : fi ρ = .ok (L.map g) ρ) (hc : clean vs ρ = true) (hl : L.length ≤ lineN)
    (h : ∀ x ∈ L, ∃ ρ1, m (g x) ρ = some ρ1 ∧ ft ρ1 = .ok (p x) ρ1 ∧ (p x = true → fe ρ1 = .ok (f x) ρ1) ∧ wipeR ρ1 vs = ρ) : mlc fi m ft fe vs ρ = .ok (.list ((L.filter p).map f)) ρ := by
  unfold mlc mcompL mbind
  rw [hi]; unfold Res.bind; dsimp only
  rw [if_pos ⟨hc, by rw [List.length_map]; exact hl⟩, cloop_map trivial L h]; rfl
theorem m_lca (g : α → D) (f : α → D) {m : Tg} {fi : M (List D)} {fe : M D} {vs : List Nat} {ρ : Rho} {L : List α} (hi : fi ρ = .ok (L.map g) ρ) (hc : clean vs ρ = true) (hl : L.length ≤ lineN)
    (h : ∀ x ∈ L, ∃ ρ1, m (g x) ρ = some ρ1 ∧ fe ρ1 = .ok (f x) ρ1 ∧ wipeR ρ1 vs = ρ) : mlc fi m (mret true) fe vs ρ = .ok (.list (L.map f)) ρ := by
  rw [m_lc (L := L) g (fun _ => true) f hi hc hl fun x hx => by
    obtain ⟨ρ1, a, b, c⟩ := h x hx
    exact ⟨ρ1, a, rfl, fun _ => b, c⟩, filter_tt]
theorem m_lcO (g : α → D) (p : α → Bool) (f : α → D) {j : Nat} {m : Tg} {ft : M Bool} {fe : M D} {vs : List Nat} {ρ : Rho} {L : List α} (hi : ρ[j]? = some (.own (.list (L.map g)))) (hc : clean vs ρ = true) (hl : L.length ≤ lineN)
    (h : ∀ x ∈ L, ∃ ρ1, m (g x) ρ = some ρ1 ∧ ft ρ1 = .ok (p x) ρ1 ∧ (p x = true → fe ρ1 = .ok (f x) ρ1) ∧ wipeR ρ1 vs = ρ) : mlcO j m ft fe vs ρ = .ok (.list ((L.filter p).map f)) ρ := by
  unfold mlcO mcompO mbind
  dsimp only
  rw [hi]; unfold Res.bind; dsimp only
  rw [if_pos ⟨hc, by rw [List.length_map]; exact hl⟩, cloop_map hi L h]; rfl
theorem m_lcOa (g : α → D) (f : α → D) {j : Nat} {m : Tg} {fe : M D} {vs : List Nat} {ρ : Rho} {L : List α} (hi : ρ[j]? = some (.own (.list (L.map g)))) (hc : clean vs ρ = true) (hl : L.length ≤ lineN)
    (h : ∀ x ∈ L, ∃ ρ1, m (g x) ρ = some ρ1 ∧ fe ρ1 = .ok (f x) ρ1 ∧ wipeR ρ1 vs = ρ) : mlcO j m (mret true) fe vs ρ = .ok (.list (L.map f)) ρ := by
  rw [m_lcO (L := L) g (fun _ => true) f hi hc hl fun x hx => by
    obtain ⟨ρ1, a, b, c⟩ := h x hx
    exact ⟨ρ1, a, rfl, fun _ => b, c⟩, filter_tt]
theorem e_kv {fk fv : M D} {ρ ρ1 ρ2 : Rho} {d v : D} {k : Key} (h1 : fk ρ = .ok d ρ1) (h2 : keyOf d = some k) (h3 : fv ρ1 = .ok v ρ2) : mkv fk fv ρ = .ok (k, v) ρ2 := by
  unfold mkv mbind; rw [h1]; dsimp only [Res.bind]; rw [h2]; dsimp only; rw [h3]; rfl
theorem m_dc (g : α → D) (f : α → Key × D) {m : Tg} {fi : M (List D)} {fk fv : M D} {vs : List Nat} {ρ : Rho} {L : List α} (hi : fi ρ = .ok (L.map g) ρ) (hc : clean vs ρ = true) (hl : L.length ≤ lineN)
    (h : ∀ x ∈ L, ∃ ρ1, m (g x) ρ = some ρ1 ∧ mkv fk fv ρ1 = .ok (f x) ρ1 ∧ wipeR ρ1 vs = ρ) (nd : (L.map fun x => (f x).1).Nodup) : mdc fi m (mret true) fk fv vs ρ = .ok (.dict (L.map fun x => (kD (f x).1, (f x).2))) ρ := by
  unfold mdc mcompL mbind
  rw [hi]; unfold Res.bind; dsimp only
  rw [if_pos ⟨hc, by rw [List.length_map]; exact hl⟩, cloop_map (p := fun _ => true) (f := f) trivial L fun x hx => by
    obtain ⟨ρ1, a, b, c⟩ := h x hx
    exact ⟨ρ1, a, rfl, fun _ => b, c⟩]
  dsimp only
  rw [filter_tt, dputs_nodup _ [] (fun e he => nomatch he) (by rw [List.map_map]; exact nd), List.map_map]
  rfl
theorem sloop_map {m : Tg} {t : SM} (g : α → D) (I : List α → Rho → Prop) : ∀ (L : List α) (ρ : Rho), I L ρ → (∀ x r ρ, x ∈ L → I (x :: r) ρ → ∃ ρ1 ρ2, m (g x) ρ = some ρ1 ∧ (t ρ1 = .next ρ2 ∨ t ρ1 = .cont ρ2) ∧ I r ρ2) → ∃ ρ', sloop m t (L.map g) ρ = .next ρ' ∧ I [] ρ'
  | [], ρ, i, _ => ⟨ρ, rfl, i⟩
  | d :: ds, ρ, i, h => by
    obtain ⟨ρ1, ρ2, e1, e2, i2⟩ := h d ds ρ List.mem_cons_self i
    obtain ⟨ρ', e3, i3⟩ := sloop_map g I ds ρ2 i2 fun x r ρ hx => h x r ρ (List.mem_cons_of_mem _ hx)
    refine ⟨ρ', ?_, i3⟩
    rw [List.map_cons]
    unfold sloop
    rw [e1]
    dsimp only
    rcases e2 with e2 | e2
    · rw [e2]; exact e3
    · rw [e2]; exact e3
end
theorem mkF_at (ρ0 : Rho) {P : List Nat} {np n : Nat} {t : SM} {ars : List Ar} {r : Rt} {ρ : Rho} {outs : List D} (h1 : ars.length = np) (h2 : okArsB P 0 ars = true) (h0 : ars.map Ar.sl ++ List.replicate (n - np) .emp = ρ0) (h3 : t ρ0 = .ret r ρ) (h4 : outsOf ars ρ = some outs) : mkF P np n t ars = .ret r outs := mkF_ret h1 h2 (by rw [h0]; exact h3) h4
theorem ixN_nat {n i : Nat} (h : i < n) : ixN n (i : Int) = some i := by
  unfold ixN
  rw [if_pos (by omega), if_pos (by omega)]; rfl
theorem ix_list {L : List D} {i : Nat} {d : D} (h : L[i]? = some d) : dIx (.list L) (.int (i : Nat)) = some d := by
  show atI L i = _
  unfold atI
  rw [ixN_nat (List.getElem?_eq_some_iff.mp h).1]; exact h
theorem ix_txt {L : List Str} {i : Nat} {s : Str} (h : L[i]? = some s) : dIx (txt L) (.int (i : Nat)) = some (.str s) := ix_list (by rw [List.getElem?_map, h]; rfl)
theorem app_txt {L : List Str} {s : Str} (h : L.length < lineN) : gAppend (txt L) [.str s] = some (txt (L ++ [s]), .none) := by
  show (if (L.map PyData.str).length < lineN then _ else _) = _
  rw [if_pos (by rw [List.length_map]; exact h)]
  unfold txt; rw [List.map_append]; rfl
theorem app_list {L : List D} {s : D} (h : L.length < lineN) : gAppend (.list L) [s] = some (.list (L ++ [s]), .none) := by
  show (if L.length < lineN then _ else _) = _
  rw [if_pos h]
theorem any_keys (s : Str) : ∀ (kv : List (D × D)) (L : List Str), kv.map (·.1) = L.map PyData.str → kv.any (fun p => keq p.1 (.inr s)) = decide (s ∈ L)
  | [], [], _ => rfl
  | [], _ :: _, h => by cases h
  | _ :: _, [], h => by cases h
  | (k, v) :: kv, x :: L, h => by
    rw [List.map_cons, List.map_cons, List.cons.injEq] at h
    have e : k = .str x := h.1
    subst e
    rw [List.any_cons, any_keys s kv L h.2, Bool.eq_iff_iff, Bool.or_eq_true, decide_eq_true_iff, decide_eq_true_iff, List.mem_cons]
    constructor
    · rintro (q | q)
      · exact .inl (of_decide_eq_true q : x = s).symm
      · exact .inr q
    · rintro (q | q)
      · exact .inl (decide_eq_true q.symm : decide (x = s) = true)
      · exact .inr q
theorem dput_new {kv : List (D × D)} {L : List Str} {s : Str} (v : D) (h : kv.map (·.1) = L.map PyData.str) (n : s ∉ L) : dput kv (.inr s) v = kv ++ [(.str s, v)] := by
  unfold dput
  rw [any_keys s kv L h, decide_eq_false n, if_neg Bool.false_ne_true]; rfl
theorem len_txt (L : List Str) : gLen [txt L] = some (.int L.length) := by
  show some (PyData.int ((L.map PyData.str).length : Nat)) = _
  rw [List.length_map]
theorem lt_nat (i j : Nat) : dLt (.int i) (.int j) = some (.bool (decide (i < j))) := by
  show some (PyData.bool (decide ((i : Int) < j))) = _
  congr 2
  rw [Bool.eq_iff_iff, decide_eq_true_iff, decide_eq_true_iff]; omega
theorem s_augI {i : Nat} {f : Int → Int → Int} {fe : M D} {ρ ρ1 : Rho} {z w : Int} (h1 : ρ[i]? = some (.val (.int z))) (h2 : fe ρ = .ok (.int w) ρ1) : saugI i f fe ρ = .next (ρ1.set i (.val (.int (f z w)))) := by
  unfold saugI; rw [h1]; dsimp only; unfold sbind; rw [h2]
theorem shp_tups_aux : ∀ {Ls : List (List Str)}, (∀ L ∈ Ls, ∀ s ∈ L, okT s = true) → PyData.canLayAll0 (Ls.map tupS) = true ∧ PyData.depthAll (Ls.map tupS) ≤ 1
  | [], _ => ⟨rfl, Nat.zero_le _⟩
  | L :: Ls, h => by
    obtain ⟨a, b⟩ := shp_tups_aux (Ls := Ls) fun x hx => h x (List.mem_cons_of_mem _ hx)
    obtain ⟨c, d⟩ := layAll_txt (h L List.mem_cons_self)
    refine ⟨?_, ?_⟩
    · show (PyData.canLayAll0 (L.map .str) && PyData.canLayAll0 (Ls.map tupS)) = true
      rw [a, c]; rfl
    · show max (PyData.depthAll (L.map .str) + 1) (PyData.depthAll (Ls.map tupS)) ≤ 1
      rw [d]; omega
theorem shp_tups {Ls : List (List Str)} (h : ∀ L ∈ Ls, ∀ s ∈ L, okT s = true) : SeqAt.shaped (.list (Ls.map tupS)) = true := by
  obtain ⟨a, b⟩ := shp_tups_aux h
  unfold SeqAt.shaped
  rw [show PyData.canLay0 (.list (Ls.map tupS)) = true from a, show PyData.depth (.list (Ls.map tupS)) = PyData.depthAll (Ls.map tupS) + 1 from rfl, decide_eq_true (show PyData.depthAll (Ls.map tupS) + 1 ≤ 64 by omega)]; rfl
end VS

set_option Elab.async false
set_option linter.all false
set_option maxRecDepth 100000
namespace G
open PySem L2 VS
/-! ### questions, as data -/
abbrev Atom := Str × List D
def atD (a : Atom) : D := .tuple [.str a.1, .tuple a.2]
def qD (hd : D) (ats : List Atom) : D := .tuple [hd, .tuple (ats.map atD)]
def isS : D → Bool
  | .str _ => true
  | _ => false
def getS : D → Option Str
  | .str s => some s
  | _ => none
def ownS (a : Atom) : List Str := a.2.filterMap getS
def tabs (ats : List Atom) : List Str := ats.map (·.1)
theorem filter_isS : ∀ l : List D, l.filter isS = (l.filterMap getS).map .str
  | [] => rfl
  | .str s :: l => by
    rw [List.filter_cons_of_pos rfl, filter_isS l, List.filterMap_cons_some (show getS (.str s) = some s from rfl)]; rfl
  | .none :: l => by rw [List.filter_cons_of_neg (by decide), filter_isS l]; rfl
  | .bool b :: l => by rw [List.filter_cons_of_neg Bool.false_ne_true, filter_isS l]; rfl
  | .int i :: l => by rw [List.filter_cons_of_neg Bool.false_ne_true, filter_isS l]; rfl
  | .list i :: l => by rw [List.filter_cons_of_neg Bool.false_ne_true, filter_isS l]; rfl
  | .tuple i :: l => by rw [List.filter_cons_of_neg Bool.false_ne_true, filter_isS l]; rfl
  | .dict i :: l => by rw [List.filter_cons_of_neg Bool.false_ne_true, filter_isS l]; rfl
def T12 : List Str := ["u", "v", "w", "x", "y", "z", "r", "a", "t1", "s", "big", "c"]
theorem okT12 {s : Str} (h : s ∈ T12) : okT s = true := (by decide +kernel : ∀ s ∈ T12, okT s = true) s h
structure QOk (ats : List Atom) : Prop where
  nd : (tabs ats).Nodup
  few : ats.length ≤ 6
  pos : ats ≠ []
  short : ∀ a ∈ ats, a.2.length ≤ 4
  okt : ∀ a ∈ ats, a.1 ∈ T12
  okp : ∀ a ∈ ats, ∀ p ∈ a.2, (∃ s ∈ T12, p = .str s) ∨ (∃ i : Int, 0 ≤ i ∧ i < 3 ∧ p = .int i)
def nm (ats : List Atom) (t : Str) : List Str := match ats.find? (fun a => decide (a.1 = t)) with
  | some a => ownS a
  | none => []
def nbL (ats : List Atom) : List (D × D) := ats.map fun a => (.str a.1, txt (ownS a))
def nbD (ats : List Atom) : D := .dict (nbL ats)
theorem nbL_keys (ats : List Atom) : (nbL ats).map (·.1) = (tabs ats).map PyData.str := by
  unfold nbL tabs; rw [List.map_map, List.map_map]; rfl
theorem find_tab : ∀ {ats : List Atom}, (tabs ats).Nodup → ∀ {a : Atom}, a ∈ ats → ats.find? (fun b => decide (b.1 = a.1)) = some a
  | [], _, a, h => nomatch h
  | b :: ats, nd, a, h => by
    have nd' : b.1 ∉ tabs ats ∧ (tabs ats).Nodup := List.nodup_cons.mp nd
    rcases List.mem_cons.mp h with rfl | h
    · exact List.find?_cons_of_pos (p := fun b : Atom => decide (b.1 = a.1)) (decide_eq_true rfl)
    · have : b.1 ≠ a.1 := fun q => nd'.1 (by rw [q]; exact List.mem_map_of_mem h)
      rw [List.find?_cons_of_neg (by rw [decide_eq_false this]; exact Bool.false_ne_true), find_tab nd'.2 h]
theorem nm_of {ats : List Atom} (nd : (tabs ats).Nodup) {a : Atom} (h : a ∈ ats) : nm ats a.1 = ownS a := by
  unfold nm; rw [find_tab nd h]
theorem find_map_key (t : Str) : ∀ (ats : List Atom), (nbL ats).find? (fun p => keq p.1 (.inr t)) = (ats.find? fun a => decide (a.1 = t)).map fun a => (.str a.1, txt (ownS a))
  | [] => rfl
  | a :: ats => by
    show ((PyData.str a.1, txt (ownS a)) :: nbL ats).find? _ = _
    by_cases h : a.1 = t
    · rw [List.find?_cons_of_pos (by exact decide_eq_true h), List.find?_cons_of_pos (by exact decide_eq_true h)]; rfl
    · rw [List.find?_cons_of_neg (by show ¬ (decide (a.1 = t) = true); rw [decide_eq_false h]; exact Bool.false_ne_true), List.find?_cons_of_neg (by rw [decide_eq_false h]; exact Bool.false_ne_true), find_map_key t ats]
theorem ix_nb {ats : List Atom} {t : Str} (h : t ∈ tabs ats) : dIx (nbD ats) (.str t) = some (txt (nm ats t)) := by
  show dlook (nbL ats) (.inr t) = _
  unfold dlook nm
  rw [find_map_key]
  cases e : ats.find? fun a => decide (a.1 = t) with
  | some a => rfl
  | none =>
    obtain ⟨a, ha, q⟩ := List.mem_map.mp h
    exact absurd (decide_eq_true q) (List.find?_eq_none.mp e a ha)
theorem nm_ok {ats : List Atom} (ok : QOk ats) (t : Str) : ∀ n ∈ nm ats t, okT n = true := by
  unfold nm
  cases e : ats.find? fun a => decide (a.1 = t) with
  | none => exact fun n h => nomatch h
  | some a =>
    intro n h
    have ha := List.mem_of_find?_eq_some e
    obtain ⟨p, hp, q⟩ := List.mem_filterMap.mp h
    rcases ok.okp a ha p hp with ⟨s, hs, rfl⟩ | ⟨i, _, _, rfl⟩
    · cases q; exact okT12 hs
    · cases q
theorem nm_len {ats : List Atom} (ok : QOk ats) (t : Str) : (nm ats t).length ≤ 4 := by
  unfold nm
  cases e : ats.find? fun a => decide (a.1 = t) with
  | none => exact Nat.zero_le _
  | some a => exact Nat.le_trans (List.length_filterMap_le _ _) (ok.short a (List.mem_of_find?_eq_some e))
theorem tab_ok {ats : List Atom} (ok : QOk ats) {t : Str} (h : t ∈ tabs ats) : okT t = true := by
  obtain ⟨a, ha, rfl⟩ := List.mem_map.mp h
  exact okT12 (ok.okt a ha)
theorem own_ok {ats : List Atom} (ok : QOk ats) {a : Atom} (h : a ∈ ats) : ∀ n ∈ ownS a, okT n = true := by
  rw [← nm_of ok.nd h]; exact nm_ok ok _
theorem own_len {ats : List Atom} (ok : QOk ats) {a : Atom} (h : a ∈ ats) : (ownS a).length ≤ 4 := by
  rw [← nm_of ok.nd h]; exact nm_len ok _
theorem tabs_len (ats : List Atom) : (tabs ats).length = ats.length := List.length_map _
/-! ### chains -/
def Adj (W : List Str) (ats : List Atom) (s t : Str) : Prop := s ∈ tabs ats ∧ t ∈ tabs ats ∧ ∃ n, n ∉ W ∧ n ∈ nm ats s ∧ n ∈ nm ats t
theorem Adj.symm {W : List Str} {ats : List Atom} {s t : Str} (h : Adj W ats s t) : Adj W ats t s := ⟨h.2.1, h.1, let ⟨n, o, a, b⟩ := h.2.2; ⟨n, o, b, a⟩⟩
inductive Conn (W : List Str) (ats : List Atom) (s : Str) : Str → Prop
  | refl : Conn W ats s s
  | step {t u : Str} : Conn W ats s t → Adj W ats t u → Conn W ats s u
theorem Conn.trans {W : List Str} {ats : List Atom} {s t u : Str} (h : Conn W ats s t) (k : Conn W ats t u) : Conn W ats s u := by
  induction k with
  | refl => exact h
  | step _ a ih => exact .step ih a
theorem Conn.symm {W : List Str} {ats : List Atom} {s t : Str} (h : Conn W ats s t) : Conn W ats t s := by
  induction h with
  | refl => exact .refl
  | step _ a ih => exact Conn.trans (.step .refl a.symm) ih
theorem nodup_len : ∀ (L M : List Str), L.Nodup → (∀ x ∈ L, x ∈ M) → L.length ≤ M.length
  | [], _, _, _ => Nat.zero_le _
  | x :: L, M, nd, h => by
    have nd' := List.nodup_cons.mp nd
    have a := nodup_len L (M.filter fun y => decide (y ≠ x)) nd'.2 fun y hy => List.mem_filter.mpr ⟨h y (List.mem_cons_of_mem _ hy), decide_eq_true fun q => nd'.1 (q ▸ hy)⟩
    have b : (M.filter fun y => decide (y ≠ x)).length < M.length := List.length_filter_lt_length_iff_exists.mpr ⟨x, h x List.mem_cons_self, by simp⟩
    rw [List.length_cons]; omega
/-- the state of a walk over chains -/
structure BI (W : List Str) (ats : List Atom) (s : Str) (p : Nat) (L : List Str) : Prop where
  nd : L.Nodup
  sub : ∀ t ∈ L, t ∈ tabs ats
  sta : s ∈ L
  snd : ∀ t ∈ L, Conn W ats s t
  cl : ∀ (i : Nat) (t u : Str), i < p → L[i]? = some t → Adj W ats t u → u ∈ L
  le : p ≤ L.length
  hd : L[0]? = some s
structure BJ (W : List Str) (ats : List Atom) (s : Str) (p : Nat) (c : Str) (L : List Str) (r : List Atom) : Prop where
  b : BI W ats s p L
  at' : L[p]? = some c
  dn : ∀ a ∈ ats, a ∉ r → Adj W ats c a.1 → a.1 ∈ L
section
variable {W : List Str} {ats : List Atom} {s c : Str} {p : Nat} {L : List Str} {a : Atom} {r : List Atom}
theorem BI.zero (h : s ∈ tabs ats) : BI W ats s 0 [s] where
  nd := List.nodup_cons.mpr ⟨List.not_mem_nil, List.nodup_nil⟩
  sub := fun t ht => by cases List.mem_singleton.mp ht; exact h
  sta := List.mem_singleton.mpr rfl
  snd := fun t ht => by cases List.mem_singleton.mp ht; exact .refl
  cl := fun i t u h => absurd h (Nat.not_lt_zero _)
  le := Nat.zero_le _
  hd := rfl
theorem BI.len (h : BI W ats s p L) : L.length ≤ ats.length := by
  rw [← tabs_len ats]; exact nodup_len _ _ h.nd h.sub
theorem BI.start (h : BI W ats s p L) (e : L[p]? = some c) : BJ W ats s p c L ats := ⟨h, e, fun a h1 h2 => absurd h1 h2⟩
theorem BJ.skip (h : BJ W ats s p c L (a :: r)) (k : Adj W ats c a.1 → a.1 ∈ L) : BJ W ats s p c L r := ⟨h.b, h.at', fun b hb n q => by
  by_cases e : b = a
  · subst e; exact k q
  · exact h.dn b hb (fun z => (List.mem_cons.mp z).elim e n) q⟩
theorem BJ.ctab (h : BJ W ats s p c L r) : c ∈ tabs ats := h.b.sub c (List.mem_of_getElem? h.at')
theorem BJ.add (h : BJ W ats s p c L (a :: r)) (ha : a ∈ ats) (n : a.1 ∉ L) (q : Adj W ats c a.1) : BJ W ats s p c (L ++ [a.1]) r := by
  have hp : p < L.length := (List.getElem?_eq_some_iff.mp h.at').1
  refine ⟨⟨?_, ?_, List.mem_append_left _ h.b.sta, ?_, ?_, ?_, by rw [List.getElem?_append_left (by omega)]; exact h.b.hd⟩, ?_, ?_⟩
  · exact List.nodup_append.mpr ⟨h.b.nd, List.nodup_cons.mpr ⟨List.not_mem_nil, List.nodup_nil⟩, fun x hx y hy => by
      cases List.mem_singleton.mp hy; intro z; exact n (z ▸ hx)⟩
  · intro t ht
    rcases List.mem_append.mp ht with ht | ht
    · exact h.b.sub t ht
    · cases List.mem_singleton.mp ht; exact q.2.1
  · intro t ht
    rcases List.mem_append.mp ht with ht | ht
    · exact h.b.snd t ht
    · cases List.mem_singleton.mp ht
      exact .step (h.b.snd c (List.mem_of_getElem? h.at')) q
  · intro i t u hi e k
    rw [List.getElem?_append_left (by omega)] at e
    exact List.mem_append_left _ (h.b.cl i t u hi e k)
  · rw [List.length_append]; omega
  · rw [List.getElem?_append_left hp]; exact h.at'
  · intro b hb hn k
    by_cases e : b = a
    · subst e; exact List.mem_append_right _ (List.mem_singleton.mpr rfl)
    · exact List.mem_append_left _ (h.dn b hb (fun z => (List.mem_cons.mp z).elim e hn) k)
theorem BJ.end (h : BJ W ats s p c L []) : BI W ats s (p + 1) L where
  nd := h.b.nd
  sub := h.b.sub
  sta := h.b.sta
  snd := h.b.snd
  cl := fun i t u hi e k => by
    by_cases q : i < p
    · exact h.b.cl i t u q e k
    · have : i = p := by omega
      subst this
      rw [h.at'] at e; cases e
      obtain ⟨a, ha, rfl⟩ := List.mem_map.mp k.2.1
      exact h.dn a ha List.not_mem_nil k
  le := (List.getElem?_eq_some_iff.mp h.at').1
  hd := h.b.hd
theorem BI.done (h : BI W ats s p L) (e : L.length ≤ p) (t : Str) : t ∈ L ↔ Conn W ats s t := by
  refine ⟨h.snd t, fun k => ?_⟩
  induction k with
  | refl => exact h.sta
  | step _ q ih =>
    obtain ⟨i, hi⟩ := List.mem_iff_getElem?.mp ih
    have : i < L.length := (List.getElem?_eq_some_iff.mp hi).1
    exact h.cl i _ _ (by omega) hi q
end
/-- who found a table, as reached tells it -/
def Pk (W : List Str) (ats : List Atom) (kv : List (D × D)) (L : List Str) : Prop := ∀ (i : Nat) (t : Str), 0 < i → L[i]? = some t → ∃ (j : Nat) (c : Str), j < i ∧ L[j]? = some c ∧ dlook kv (.inr t) = some (.str c) ∧ Adj W ats c t
theorem Pk.one {W : List Str} {ats : List Atom} (kv : List (D × D)) (s : Str) : Pk W ats kv [s] := fun i t h e => by
  cases i with
  | zero => omega
  | succ i => cases e
theorem dlook_app {kv : List (D × D)} {t : Str} {d : D} (e : D × D) (h : dlook kv (.inr t) = some d) : dlook (kv ++ [e]) (.inr t) = some d := by
  unfold dlook at h ⊢
  rw [List.find?_append]
  obtain ⟨p, hp, rfl⟩ := Option.map_eq_some_iff.mp h
  rw [hp]; rfl
theorem dlook_last {kv : List (D × D)} {L : List Str} {t : Str} (v : D) (ek : kv.map (·.1) = L.map PyData.str) (n : t ∉ L) : dlook (kv ++ [(.str t, v)]) (.inr t) = some v := by
  have h := dlook_keys t kv L ek
  rw [decide_eq_false n] at h
  unfold dlook at h ⊢
  rw [List.find?_append]
  cases e : kv.find? fun p => keq p.1 (.inr t) with
  | some p => rw [e] at h; cases h
  | none => rw [Option.none_or, List.find?_cons_of_pos (by exact decide_eq_true rfl)]; rfl
theorem Pk.add {W : List Str} {ats : List Atom} {kv : List (D × D)} {L : List Str} {p : Nat} {c t : Str} (h : Pk W ats kv L) (ek : kv.map (·.1) = L.map PyData.str) (e : L[p]? = some c) (n : t ∉ L) (q : Adj W ats c t) : Pk W ats (kv ++ [(.str t, .str c)]) (L ++ [t]) := by
  have adj := q
  clear q
  have hp : p < L.length := (List.getElem?_eq_some_iff.mp e).1
  intro i u hi q
  by_cases li : i < L.length
  · rw [List.getElem?_append_left li] at q
    obtain ⟨j, b, lj, ej, d, a⟩ := h i u hi q
    exact ⟨j, b, lj, by rw [List.getElem?_append_left (by omega)]; exact ej, dlook_app _ d, a⟩
  · have l1 := (List.getElem?_eq_some_iff.mp q).1
    rw [List.length_append] at l1
    have ei : i = L.length := by change i < L.length + 1 at l1; omega
    subst ei
    rw [List.getElem?_append_right (Nat.le_refl _), Nat.sub_self] at q
    cases q
    exact ⟨p, c, hp, by rw [List.getElem?_append_left hp]; exact e, dlook_last _ ek n, adj⟩
/-! ### pieces -/
noncomputable instance connDec (W : List Str) (ats : List Atom) (s t : Str) : Decidable (Conn W ats s t) := Classical.propDecidable _
noncomputable def cls (ats : List Atom) (s : Str) : List Str := (tabs ats).filter fun t => decide (Conn [] ats s t)
noncomputable def pcF (ats : List Atom) (acc : List (List Str)) (t : Str) : List (List Str) := if (acc.any fun p => decide (t ∈ p)) = true then acc else acc ++ [cls ats t]
noncomputable def pcs (ats : List Atom) : List (List Str) := (tabs ats).foldl (pcF ats) []
theorem pcF_mono (ats : List Atom) (acc : List (List Str)) (t : Str) : ∀ p ∈ acc, p ∈ pcF ats acc t := by
  intro p h; unfold pcF; split
  · exact h
  · exact List.mem_append_left _ h
theorem mem_cls {ats : List Atom} {s t : Str} : t ∈ cls ats s ↔ t ∈ tabs ats ∧ Conn [] ats s t := by
  unfold cls; rw [List.mem_filter, decide_eq_true_iff]
theorem pcF_cov {ats : List Atom} (acc : List (List Str)) {t : Str} (h : t ∈ tabs ats) : ∃ p ∈ pcF ats acc t, t ∈ p := by
  unfold pcF; split
  · rename_i q
    obtain ⟨p, hp, k⟩ := List.any_eq_true.mp q
    exact ⟨p, hp, of_decide_eq_true k⟩
  · exact ⟨_, List.mem_append_right _ (List.mem_singleton.mpr rfl), mem_cls.mpr ⟨h, .refl⟩⟩
theorem pcF_cls {ats : List Atom} {acc : List (List Str)} {t : Str} (h : t ∈ tabs ats) (k : ∀ p ∈ acc, ∃ s ∈ tabs ats, p = cls ats s) : ∀ p ∈ pcF ats acc t, ∃ s ∈ tabs ats, p = cls ats s := by
  unfold pcF; split
  · exact k
  · intro p hp
    rcases List.mem_append.mp hp with hp | hp
    · exact k p hp
    · exact ⟨t, h, List.mem_singleton.mp hp⟩
theorem pcs_fold {ats : List Atom} : ∀ (ts : List Str) (acc : List (List Str)), (∀ t ∈ ts, t ∈ tabs ats) → (∀ p ∈ acc, ∃ s ∈ tabs ats, p = cls ats s) →
    (∀ p ∈ ts.foldl (pcF ats) acc, ∃ s ∈ tabs ats, p = cls ats s) ∧ (∀ p ∈ acc, p ∈ ts.foldl (pcF ats) acc) ∧ (∀ t ∈ ts, ∃ p ∈ ts.foldl (pcF ats) acc, t ∈ p)
  | [], acc, _, k => ⟨k, fun _ h => h, fun _ h => nomatch h⟩
  | t :: ts, acc, h, k => by
    have ht := h t List.mem_cons_self
    obtain ⟨a, b, c⟩ := pcs_fold ts (pcF ats acc t) (fun u hu => h u (List.mem_cons_of_mem _ hu)) (pcF_cls ht k)
    refine ⟨a, fun p hp => b p (pcF_mono ats acc t p hp), fun u hu => ?_⟩
    rcases List.mem_cons.mp hu with rfl | hu
    · obtain ⟨p, hp, q⟩ := pcF_cov acc ht
      exact ⟨p, b p hp, q⟩
    · exact c u hu
theorem pcs_cls (ats : List Atom) : ∀ p ∈ pcs ats, ∃ s ∈ tabs ats, p = cls ats s := (pcs_fold (tabs ats) [] (fun _ h => h) (fun _ h => nomatch h)).1
theorem pcs_cov {ats : List Atom} {t : Str} (h : t ∈ tabs ats) : ∃ p ∈ pcs ats, t ∈ p := (pcs_fold (tabs ats) [] (fun _ h => h) (fun _ h => nomatch h)).2.2 t h
theorem pcs_conn {ats : List Atom} {s t : Str} (hs : s ∈ tabs ats) (ht : t ∈ tabs ats) : (∃ p ∈ pcs ats, s ∈ p ∧ t ∈ p) ↔ Conn [] ats s t := by
  constructor
  · rintro ⟨p, hp, h1, h2⟩
    obtain ⟨u, hu, rfl⟩ := pcs_cls ats p hp
    exact ((mem_cls.mp h1).2.symm).trans (mem_cls.mp h2).2
  · intro k
    obtain ⟨p, hp, h1⟩ := pcs_cov hs
    obtain ⟨u, hu, rfl⟩ := pcs_cls ats p hp
    exact ⟨_, hp, h1, mem_cls.mpr ⟨ht, (mem_cls.mp h1).2.trans k⟩⟩
theorem pcF_len (ats : List Atom) (acc : List (List Str)) (t : Str) : (pcF ats acc t).length ≤ acc.length + 1 := by
  unfold pcF; split
  · omega
  · rw [List.length_append]; exact Nat.le_refl _
theorem pcs_len_fold (ats : List Atom) : ∀ (ts : List Str) (acc : List (List Str)), (ts.foldl (pcF ats) acc).length ≤ acc.length + ts.length
  | [], acc => Nat.le_refl _
  | t :: ts, acc => by
    have := pcs_len_fold ats ts (pcF ats acc t)
    have := pcF_len ats acc t
    rw [List.foldl_cons, List.length_cons]; omega
theorem pcs_len (ats : List Atom) : (pcs ats).length ≤ ats.length := by
  have := pcs_len_fold ats (tabs ats) []
  rw [tabs_len] at this; simpa [pcs] using this
theorem pcs_ne {ats : List Atom} (ok : QOk ats) : pcs ats ≠ [] := by
  intro e
  cases ats with
  | nil => exact ok.pos rfl
  | cons a r =>
    obtain ⟨p, hp, _⟩ := pcs_cov (ats := a :: r) (t := a.1) List.mem_cons_self
    rw [e] at hp; cases hp
theorem cls_len (ats : List Atom) (s : Str) : (cls ats s).length ≤ ats.length := by
  rw [← tabs_len ats]; exact List.length_filter_le _ _
theorem pc_ok {ats : List Atom} (ok : QOk ats) {p : List Str} (h : p ∈ pcs ats) : ∀ s ∈ p, okT s = true := by
  obtain ⟨u, hu, rfl⟩ := pcs_cls ats p h
  exact fun s hs => tab_ok ok (mem_cls.mp hs).1
end G

set_option Elab.async false
set_option linter.all false
set_option maxRecDepth 100000
namespace G
open PySem L2 VS
theorem tyIs_str (d : D) : tyIs (dty d) "str" = isS d := by
  cases d <;> rfl
theorem e_isS {f : M Op} {a : Op} {x : D} {ρ ρ1 : Rho} (h1 : f ρ = .ok a ρ1) (h2 : mder a ρ1 = .ok x ρ1) : mtest (misi "str" f) ρ = .ok (isS x) ρ1 := by
  rw [← tyIs_str]; exact e_test (e_isi h1 h2)
theorem own_txt (a : Atom) : PyData.list ((a.2.filter isS).map fun d => d) = txt (ownS a) := by
  rw [List.map_id', filter_isS]; rfl
theorem lineN_big {n : Nat} (h : n ≤ 1000) : n ≤ lineN := by unfold lineN; omega
theorem lineN_lt {n : Nat} (h : n ≤ 1000) : n < lineN := by unfold lineN; omega
theorem e_itI_nb {f : M D} {ρ ρ1 : Rho} {ats : List Atom} (h : f ρ = .ok (nbD ats) ρ1) : mitI f ρ = .ok (ats.map fun a => .tuple [.str a.1, txt (ownS a)]) ρ1 := by
  rw [e_itI h]; unfold nbL; rw [List.map_map]; rfl
theorem e_itK_nb {f : M D} {ρ ρ1 : Rho} {ats : List Atom} (h : f ρ = .ok (nbD ats) ρ1) : mitK f ρ = .ok (ats.map fun a => .str a.1) ρ1 := by
  rw [e_itK h]; unfold nbL; rw [List.map_map]; rfl
theorem e_itK_tab {f : M D} {ρ ρ1 : Rho} {ats : List Atom} (h : f ρ = .ok (nbD ats) ρ1) : mitK f ρ = .ok ((tabs ats).map .str) ρ1 := by
  rw [e_itK h, nbL_keys]
def nw (W : List Str) (ats : List Atom) (t : Str) : List Str := (nm ats t).filter fun n => !decide (n ∈ W)
section
variable {h0 : D} {ats : List Atom} (ok : QOk ats)
include ok
theorem names_val : F_names_by_table [.v (qD h0 ats)] = .ret (.own (nbD ats)) [] := by
  refine mkF_at [.val (qD h0 ats), .emp, .emp, .emp] rfl rfl rfl (ρ := [.val (qD h0 ats), .emp, .emp, .emp]) ?_ rfl
  refine s_retO ?_
  refine m_dc (L := ats) atD (fun a => (.inr a.1, txt (ownS a))) rfl rfl (lineN_big (by have := ok.few; omega)) (fun a ha => ⟨[.val (qD h0 ats), .emp, .val (.str a.1), .val (.tuple a.2)], rfl, ?_, rfl⟩) ?_
  · refine e_kv rfl rfl ?_
    rw [← own_txt]
    exact mlc_val (p := isS) (f := fun d => d) rfl rfl (lineN_big (by have := ok.short a ha; omega)) fun d hd => ⟨[.val (qD h0 ats), .val d, .val (.str a.1), .val (.tuple a.2)], rfl, e_isS rfl rfl, fun _ => rfl, rfl⟩
  · exact List.pairwise_map.mpr ((List.pairwise_map.mp ok.nd).imp fun h q => h (Sum.inr.inj q))
theorem own_val : F__law_own_names [.v (qD h0 ats)] = .ret (.own (nbD ats)) [] := by
  have lp := sloop_map (m := mTup [(mName 2), (mName 3)]) (t := (sseq (sputD 1 (mlc (mitT (mvar 3)) (mName 4) (mtest (misi "str" (mopd 4))) (mvar 4) [4]) (mvar 2))
  snext)) atD (fun (r : List Atom) (ρ : Rho) => ∃ (dn : List Atom) (j2 j3 : Sl), dn ++ r = ats ∧ ρ = [.val (qD h0 ats), .own (.dict (nbL dn)), j2, j3, .emp]) ats [.val (qD h0 ats), .own (.dict []), .emp, .emp, .emp] ⟨[], .emp, .emp, rfl, rfl⟩ ?_
  · obtain ⟨ρ', e, dn, j2, j3, q, rfl⟩ := lp
    rw [List.append_nil] at q; subst q
    refine mkF_at [.val (qD h0 dn), .emp, .emp, .emp, .emp] rfl rfl rfl (ρ := [.val (qD h0 dn), .emp, j2, j3, .emp]) ?_ rfl
    refine s_seq (s_setF rfl) (s_seq (s_for (ρ1 := [.val (qD h0 dn), .own (.dict []), .emp, .emp, .emp]) rfl e) ?_)
    exact s_retv rfl
  · rintro a r ρ ha ⟨dn, j2, j3, q, rfl⟩
    refine ⟨[.val (qD h0 ats), .own (.dict (nbL dn)), .val (.str a.1), .val (.tuple a.2), .emp], [.val (qD h0 ats), .own (.dict (nbL (dn ++ [a]))), .val (.str a.1), .val (.tuple a.2), .emp], rfl, .inl ?_, dn ++ [a], _, _, by rw [List.append_assoc]; exact q, rfl⟩
    have nin : a.1 ∉ tabs dn := by
      have nd := ok.nd
      rw [← q] at nd
      unfold tabs at nd ⊢
      rw [List.map_append] at nd
      exact fun hm => (List.nodup_append.mp nd).2.2 _ hm _ List.mem_cons_self rfl
    have lc : mlc (mitT (mvar 3)) (mName 4) (mtest (misi "str" (mopd 4))) (mvar 4) [4] [.val (qD h0 ats), .own (.dict (nbL dn)), .val (.str a.1), .val (.tuple a.2), .emp] = .ok (txt (ownS a)) [.val (qD h0 ats), .own (.dict (nbL dn)), .val (.str a.1), .val (.tuple a.2), .emp] := by
      rw [← own_txt]
      exact mlc_val (p := isS) (f := fun d => d) rfl rfl (lineN_big (by have := ok.short a ha; omega)) fun d hd => ⟨[.val (qD h0 ats), .own (.dict (nbL dn)), .val (.str a.1), .val (.tuple a.2), .val d], rfl, e_isS rfl rfl, fun _ => rfl, rfl⟩
    refine s_seq (s_putD lc rfl rfl rfl rfl ?_) ?_
    · refine lineN_lt ?_
      have : dn.length + (a :: r).length = ats.length := by rw [← q, List.length_append]
      have := ok.few
      unfold nbL; rw [List.length_map]; omega
    · rw [dput_new (L := tabs dn) _ (nbL_keys dn) nin]
      unfold nbL
      rw [List.map_append]
      rfl
/-! ### reached -/
theorem adj_iff {W : List Str} {c : Str} (hc : c ∈ tabs ats) {a : Atom} (ha : a ∈ ats) : Adj W ats c a.1 ↔ ∃ n ∈ ownS a, n ∈ nw W ats c := by
  unfold Adj nw
  rw [nm_of ok.nd ha]
  exact ⟨fun ⟨_, _, n, o, x, y⟩ => ⟨n, y, List.mem_filter.mpr ⟨x, by rw [decide_eq_false o]; rfl⟩⟩, fun ⟨n, y, x⟩ => ⟨hc, List.mem_map_of_mem ha, n, by have := (List.mem_filter.mp x).2; simpa using this, (List.mem_filter.mp x).1, y⟩⟩
omit ok in
theorem nw_ok (ok : QOk ats) (W : List Str) (t : Str) : ∀ n ∈ nw W ats t, okT n = true := fun n hn => nm_ok ok t n (List.mem_filter.mp hn).1
theorem reached_val {W : List Str} (hW : ∀ n ∈ W, okT n = true) {s : Str} (hs : s ∈ tabs ats) : ∃ (kv : List (D × D)) (L : List Str), F_reached [.v (nbD ats), .v (.str s), .v (txt W)] = .ret (.own (.dict kv)) [] ∧ kv.map (·.1) = L.map PyData.str ∧ (∀ t, t ∈ L ↔ Conn W ats s t) ∧ L[0]? = some s ∧ L.length ≤ ats.length ∧ Pk W ats kv L ∧ ∀ t ∈ L, t ∈ tabs ats := by
  have WW := swhile_inv (c := mtest (mbin dLt (mopd 5) (mv (mcb gLen (mcons (mopd 4) mnil))))) (t := (sseq (sset 6 (mlc (mitL (mbin dIx (mopd 0) (mv (mbin dIx (mopd 4) (mopd 5))))) (mName 9) (mtest (mbin dNotIn (mopd 9) (mopd 2))) (mvar 9) [9]))
  (sseq (sfor (mitI (mvar 0)) (mTup [(mName 7), (mName 8)]) (sseq (sif (mandT (mtest (mbin dNotIn (mopd 7) (mopd 3))) (mtest (mcb gAny (mcons (mv (mlc (mitL (mvar 8)) (mName 9) (mret true) (mbin dIn (mopd 9) (mopd 6)) [9])) mnil)))) (sseq (sputD 3 (mbin dIx (mopd 4) (mopd 5)) (mvar 7))
  (sseq (sbind (mmut 4 "list" gAppend (mcons (mopd 7) mnil)) fun _ => snext)
  snext)) snext)
  snext))
  (sseq (saugI 5 (· + ·) (mret (.int 1)))
  snext)))) (fun (n : Nat) (ρ : Rho) => ∃ (kv : List (D × D)) (L : List Str) (p : Nat) (j6 j7 j8 : Sl), n + p = ats.length ∧ BI W ats s p L ∧ kv.map (·.1) = L.map PyData.str ∧ Pk W ats kv L ∧ ρ = [.val (nbD ats), .val (.str s), .val (txt W), .own (.dict kv), .own (txt L), .val (.int (p : Nat)), j6, j7, j8, .emp])
    (fun (ρ : Rho) => ∃ (kv : List (D × D)) (L : List Str) (p : Nat) (j6 j7 j8 : Sl), L.length ≤ p ∧ BI W ats s p L ∧ kv.map (·.1) = L.map PyData.str ∧ Pk W ats kv L ∧ ρ = [.val (nbD ats), .val (.str s), .val (txt W), .own (.dict kv), .own (txt L), .val (.int (p : Nat)), j6, j7, j8, .emp]) ?_ ats.length 100
      [.val (nbD ats), .val (.str s), .val (txt W), .own (.dict [(.str s, .none)]), .own (txt [s]), .val (.int 0), .emp, .emp, .emp, .emp] (by have := ok.few; omega) ⟨_, [s], 0, _, _, _, rfl, BI.zero hs, rfl, Pk.one _ s, rfl⟩
  · obtain ⟨ρ', e, kv, L, p, j6, j7, j8, le, bi, ek, pk, rfl⟩ := WW
    refine ⟨kv, L, ?_, ek, bi.done le, bi.hd, bi.len, pk, bi.sub⟩
    refine mkF_at [.val (nbD ats), .val (.str s), .val (txt W), .emp, .emp, .emp, .emp, .emp, .emp, .emp] rfl rfl rfl (ρ := [.val (nbD ats), .val (.str s), .val (txt W), .emp, .own (txt L), .val (.int (p : Nat)), j6, j7, j8, .emp]) ?_ rfl
    exact s_seq (s_setF rfl) (s_seq (s_setF rfl) (s_seq (s_set rfl) (s_seq e (s_retv rfl))))
  · rintro n ρ ⟨kv, L, p, j6, j7, j8, hn, bi, ek, pk, rfl⟩
    have tst : mtest (mbin dLt (mopd 5) (mv (mcb gLen (mcons (mopd 4) mnil)))) [.val (nbD ats), .val (.str s), .val (txt W), .own (.dict kv), .own (txt L), .val (.int (p : Nat)), j6, j7, j8, .emp] = .ok (decide (p < L.length)) [.val (nbD ats), .val (.str s), .val (txt W), .own (.dict kv), .own (txt L), .val (.int (p : Nat)), j6, j7, j8, .emp] :=
      e_test (e_bin rfl (e_v (e_cb1 rfl rfl (len_txt L))) rfl rfl (lt_nat _ _))
    by_cases hp : ¬ p < L.length
    · left
      rw [decide_eq_false hp] at tst
      exact ⟨tst, kv, L, p, j6, j7, j8, by omega, bi, ek, pk, rfl⟩
    right
    have hp := Classical.not_not.mp hp
    rw [decide_eq_true hp] at tst
    refine ⟨tst, ?_⟩
    have hl := bi.len
    have hf := ok.few
    obtain ⟨c, hc⟩ : ∃ c, L[p]? = some c := ⟨_, List.getElem?_eq_getElem hp⟩
    have ct : c ∈ tabs ats := bi.sub c (List.mem_of_getElem? hc)
    have ix : ∀ (kv : List (D × D)) (L : List Str) (j6 j7 j8 j9 : Sl), L[p]? = some c → mbin dIx (mopd 4) (mopd 5) [.val (nbD ats), .val (.str s), .val (txt W), .own (.dict kv), .own (txt L), .val (.int (p : Nat)), j6, j7, j8, j9] = .ok (.str c) [.val (nbD ats), .val (.str s), .val (txt W), .own (.dict kv), .own (txt L), .val (.int (p : Nat)), j6, j7, j8, j9] :=
      fun kv L j6 j7 j8 j9 h => e_bin rfl rfl rfl rfl (ix_txt h)
    have own : mlc (mitL (mbin dIx (mopd 0) (mv (mbin dIx (mopd 4) (mopd 5))))) (mName 9) (mtest (mbin dNotIn (mopd 9) (mopd 2))) (mvar 9) [9] [.val (nbD ats), .val (.str s), .val (txt W), .own (.dict kv), .own (txt L), .val (.int (p : Nat)), j6, j7, j8, .emp] = .ok (txt (nw W ats c)) [.val (nbD ats), .val (.str s), .val (txt W), .own (.dict kv), .own (txt L), .val (.int (p : Nat)), j6, j7, j8, .emp] := by
      have r := m_lc (L := nm ats c) (m := mName 9) (fi := mitL (mbin dIx (mopd 0) (mv (mbin dIx (mopd 4) (mopd 5))))) (ft := mtest (mbin dNotIn (mopd 9) (mopd 2))) (fe := mvar 9) (vs := [9]) PyData.str (fun x => !decide (x ∈ W)) PyData.str (ρ := [.val (nbD ats), .val (.str s), .val (txt W), .own (.dict kv), .own (txt L), .val (.int (p : Nat)), j6, j7, j8, .emp])
        (e_itL (e_bin rfl (e_v (ix kv L j6 j7 j8 .emp hc)) rfl rfl (ix_nb ct))) rfl (lineN_big (by have := nm_len ok c; omega)) fun x hx => ⟨[.val (nbD ats), .val (.str s), .val (txt W), .own (.dict kv), .own (txt L), .val (.int (p : Nat)), j6, j7, j8, .val (.str x)], rfl, e_test (e_bin rfl rfl rfl rfl (notIn_txt (L := W) (nm_ok ok c x hx) hW)), fun _ => rfl, rfl⟩
      exact r
    have lp := sloop_map (m := mTup [(mName 7), (mName 8)]) (t := (sseq (sif (mandT (mtest (mbin dNotIn (mopd 7) (mopd 3))) (mtest (mcb gAny (mcons (mv (mlc (mitL (mvar 8)) (mName 9) (mret true) (mbin dIn (mopd 9) (mopd 6)) [9])) mnil)))) (sseq (sputD 3 (mbin dIx (mopd 4) (mopd 5)) (mvar 7))
  (sseq (sbind (mmut 4 "list" gAppend (mcons (mopd 7) mnil)) fun _ => snext)
  snext)) snext)
  snext)) (fun a : Atom => .tuple [.str a.1, txt (ownS a)]) (fun (r : List Atom) (ρ : Rho) => ∃ (kv : List (D × D)) (L : List Str) (j7 j8 : Sl), BJ W ats s p c L r ∧ kv.map (·.1) = L.map PyData.str ∧ Pk W ats kv L ∧ ρ = [.val (nbD ats), .val (.str s), .val (txt W), .own (.dict kv), .own (txt L), .val (.int (p : Nat)), .val (txt (nw W ats c)), j7, j8, .emp]) ats
      [.val (nbD ats), .val (.str s), .val (txt W), .own (.dict kv), .own (txt L), .val (.int (p : Nat)), .val (txt (nw W ats c)), j7.demote, j8.demote, .emp] ⟨kv, L, _, _, bi.start hc, ek, pk, rfl⟩ ?_
    · obtain ⟨ρ', e, kv', L', j7', j8', bj, ek', pk', rfl⟩ := lp
      have b2 := bj.end
      have := b2.le
      have := b2.len
      refine ⟨ats.length - (p + 1), [.val (nbD ats), .val (.str s), .val (txt W), .own (.dict kv'), .own (txt L'), .val (.int (p + 1 : Nat)), .val (txt (nw W ats c)), j7', j8', .emp], by omega, .inl ?_, kv', L', p + 1, _, _, _, by omega, b2, ek', pk', rfl⟩
      exact s_seq (s_set own) (s_seq (s_for (e_itI_nb rfl) e) (s_seq (s_augI rfl rfl) rfl))
    · rintro a r ρ ha ⟨kv, L, j7, j8, bj, ek, pk, rfl⟩
      have lL := bj.b.len
      refine ⟨[.val (nbD ats), .val (.str s), .val (txt W), .own (.dict kv), .own (txt L), .val (.int (p : Nat)), .val (txt (nw W ats c)), .val (.str a.1), .val (txt (ownS a)), .emp], ?_⟩
      have any : mcb gAny (mcons (mv (mlc (mitL (mvar 8)) (mName 9) (mret true) (mbin dIn (mopd 9) (mopd 6)) [9])) mnil) [.val (nbD ats), .val (.str s), .val (txt W), .own (.dict kv), .own (txt L), .val (.int (p : Nat)), .val (txt (nw W ats c)), .val (.str a.1), .val (txt (ownS a)), .emp] = .ok (.bool ((ownS a).any fun n => decide (n ∈ nw W ats c))) [.val (nbD ats), .val (.str s), .val (txt W), .own (.dict kv), .own (txt L), .val (.int (p : Nat)), .val (txt (nw W ats c)), .val (.str a.1), .val (txt (ownS a)), .emp] := by
        refine e_cb1 (e_v (m_lca (L := ownS a) PyData.str (fun n => .bool (decide (n ∈ nw W ats c))) rfl rfl (lineN_big (by have := own_len ok ha; omega)) fun n hn => ⟨[.val (nbD ats), .val (.str s), .val (txt W), .own (.dict kv), .own (txt L), .val (.int (p : Nat)), .val (txt (nw W ats c)), .val (.str a.1), .val (txt (ownS a)), .val (.str n)], rfl, e_bin rfl rfl rfl rfl (in_txt (own_ok ok ha n hn) (nw_ok ok W c)), rfl⟩)) rfl (any_bools _ _)
      have tst := e_and (f := mtest (mbin dNotIn (mopd 7) (mopd 3))) (ρ := [.val (nbD ats), .val (.str s), .val (txt W), .own (.dict kv), .own (txt L), .val (.int (p : Nat)), .val (txt (nw W ats c)), .val (.str a.1), .val (txt (ownS a)), .emp]) (e_test (e_bin rfl rfl rfl rfl (notIn_keys (s := a.1) ek))) (fun _ => e_test any)
      cases hb : (!decide (a.1 ∈ L)) && ((ownS a).any fun n => decide (n ∈ nw W ats c)) with
      | true =>
        obtain ⟨q1, q2⟩ := Bool.and_eq_true_iff.mp hb
        have n1 : a.1 ∉ L := by simpa using q1
        obtain ⟨n, hn, q3⟩ := List.any_eq_true.mp q2
        have adj := (adj_iff ok ct ha).mpr ⟨n, hn, of_decide_eq_true q3⟩
        refine ⟨[.val (nbD ats), .val (.str s), .val (txt W), .own (.dict (kv ++ [(.str a.1, .str c)])), .own (txt (L ++ [a.1])), .val (.int (p : Nat)), .val (txt (nw W ats c)), .val (.str a.1), .val (txt (ownS a)), .emp], rfl, .inl ?_, _, _, _, _, bj.add ha n1 adj, by rw [List.map_append, List.map_append, ek]; rfl, pk.add ek bj.at' n1 adj, rfl⟩
        refine s_seq (s_if tst (fun _ => s_seq (s_putD (ix kv L _ _ _ _ bj.at') rfl rfl rfl rfl ?_) (s_seq (s_exp (e_mut rfl rfl (e_one rfl) rfl rfl (app_txt (lineN_lt (by omega))))) rfl)) (fun z => by rw [hb] at z; cases z)) ?_
        · have : kv.length = L.length := by have := congrArg List.length ek; rwa [List.length_map, List.length_map] at this
          exact lineN_lt (by omega)
        · rw [dput_new _ ek n1]; rfl
      | false =>
        refine ⟨[.val (nbD ats), .val (.str s), .val (txt W), .own (.dict kv), .own (txt L), .val (.int (p : Nat)), .val (txt (nw W ats c)), .val (.str a.1), .val (txt (ownS a)), .emp], rfl, .inl ?_, _, _, _, _, bj.skip ?_, ek, pk, rfl⟩
        · exact s_seq (s_if tst (fun z => by rw [hb] at z; cases z) (fun _ => rfl)) rfl
        · intro k
          obtain ⟨n, hn, q⟩ := (adj_iff ok ct ha).mp k
          rw [List.any_eq_true.mpr ⟨n, hn, decide_eq_true q⟩, Bool.and_true] at hb
          simpa using hb
end
end G

set_option Elab.async false
set_option linter.all false
set_option maxRecDepth 100000
namespace G
open PySem L2 VS
theorem len_nil_map {α : Type} (L : List α) (f : α → D) : (L.map f).isEmpty = L.isEmpty := by cases L <;> rfl
theorem isEmpty_filter {α : Type} (L : List α) (p : α → Bool) : (!(L.filter p).isEmpty) = L.any p := by
  induction L with
  | nil => rfl
  | cons x L ih =>
    rw [List.any_cons, ← ih]
    cases h : p x with
    | true => rw [List.filter_cons_of_pos h]; rfl
    | false => rw [List.filter_cons_of_neg (by rw [h]; exact Bool.false_ne_true)]; rfl
section
variable {h0 : D} {ats : List Atom} (ok : QOk ats)
include ok
theorem lreached_val {W : List Str} (hW : ∀ n ∈ W, okT n = true) {s : Str} (hs : s ∈ tabs ats) : ∃ (L : List Str), F__law_reached [.v (nbD ats), .v (.str s), .v (txt W)] = .ret (.own (txt L)) [] ∧ (∀ t ∈ L, t ∈ tabs ats) ∧ ∀ t, t ∈ L ↔ Conn W ats s t := by
  have WW := swhile_inv (c := mtest (mbin dLt (mopd 4) (mv (mcb gLen (mcons (mopd 3) mnil))))) (t := (sseq (sset 5 (mlc (mitL (mbin dIx (mopd 0) (mv (mbin dIx (mopd 3) (mopd 4))))) (mName 7) (mtest (mbin dNotIn (mopd 7) (mopd 2))) (mvar 7) [7]))
  (sseq (sfor (mitK (mvar 0)) (mName 6) (sseq (sif (mandT (mtest (mbin dNotIn (mopd 6) (mopd 3))) (mtest (mbin dNe (mv (mlc (mitL (mbin dIx (mopd 0) (mopd 6))) (mName 7) (mtest (mbin dIn (mopd 7) (mopd 5))) (mvar 7) [7])) (mv (mlst mnil))))) (sseq (sbind (mmut 3 "list" gAppend (mcons (mopd 6) mnil)) fun _ => snext)
  snext) snext)
  snext))
  (sseq (sset 4 (mbin dAdd (mopd 4) (mv (mret (.int 1)))))
  snext)))) (fun (n : Nat) (ρ : Rho) => ∃ (L : List Str) (p : Nat) (j5 j6 : Sl), n + p = ats.length ∧ BI W ats s p L ∧ ρ = [.val (nbD ats), .val (.str s), .val (txt W), .own (txt L), .val (.int (p : Nat)), j5, j6, .emp])
    (fun (ρ : Rho) => ∃ (L : List Str) (p : Nat) (j5 j6 : Sl), L.length ≤ p ∧ BI W ats s p L ∧ ρ = [.val (nbD ats), .val (.str s), .val (txt W), .own (txt L), .val (.int (p : Nat)), j5, j6, .emp]) ?_ ats.length 100
      [.val (nbD ats), .val (.str s), .val (txt W), .own (txt [s]), .val (.int 0), .emp, .emp, .emp] (by have := ok.few; omega) ⟨[s], 0, _, _, rfl, BI.zero hs, rfl⟩
  · obtain ⟨ρ', e, L, p, j5, j6, le, bi, rfl⟩ := WW
    refine ⟨L, ?_, bi.sub, bi.done le⟩
    refine mkF_at [.val (nbD ats), .val (.str s), .val (txt W), .emp, .emp, .emp, .emp, .emp] rfl rfl rfl (ρ := [.val (nbD ats), .val (.str s), .val (txt W), .emp, .val (.int (p : Nat)), j5, j6, .emp]) ?_ rfl
    exact s_seq (s_par (e_ro (e_lst (e_one rfl) (by show 1 ≤ 1000; omega) rfl)) (e_rv rfl)) (s_seq e (s_retv rfl))
  · rintro n ρ ⟨L, p, j5, j6, hn, bi, rfl⟩
    have tst : mtest (mbin dLt (mopd 4) (mv (mcb gLen (mcons (mopd 3) mnil)))) [.val (nbD ats), .val (.str s), .val (txt W), .own (txt L), .val (.int (p : Nat)), j5, j6, .emp] = .ok (decide (p < L.length)) [.val (nbD ats), .val (.str s), .val (txt W), .own (txt L), .val (.int (p : Nat)), j5, j6, .emp] :=
      e_test (e_bin rfl (e_v (e_cb1 rfl rfl (len_txt L))) rfl rfl (lt_nat _ _))
    by_cases hp : ¬ p < L.length
    · left
      rw [decide_eq_false hp] at tst
      exact ⟨tst, L, p, j5, j6, by omega, bi, rfl⟩
    right
    have hp := Classical.not_not.mp hp
    rw [decide_eq_true hp] at tst
    refine ⟨tst, ?_⟩
    have hl := bi.len
    have hf := ok.few
    obtain ⟨c, hc⟩ : ∃ c, L[p]? = some c := ⟨_, List.getElem?_eq_getElem hp⟩
    have ct : c ∈ tabs ats := bi.sub c (List.mem_of_getElem? hc)
    have own : mlc (mitL (mbin dIx (mopd 0) (mv (mbin dIx (mopd 3) (mopd 4))))) (mName 7) (mtest (mbin dNotIn (mopd 7) (mopd 2))) (mvar 7) [7] [.val (nbD ats), .val (.str s), .val (txt W), .own (txt L), .val (.int (p : Nat)), j5, j6, .emp] = .ok (txt (nw W ats c)) [.val (nbD ats), .val (.str s), .val (txt W), .own (txt L), .val (.int (p : Nat)), j5, j6, .emp] := by
      have r := m_lc (L := nm ats c) (m := mName 7) (fi := mitL (mbin dIx (mopd 0) (mv (mbin dIx (mopd 3) (mopd 4))))) (ft := mtest (mbin dNotIn (mopd 7) (mopd 2))) (fe := mvar 7) (vs := [7]) PyData.str (fun x => !decide (x ∈ W)) PyData.str (ρ := [.val (nbD ats), .val (.str s), .val (txt W), .own (txt L), .val (.int (p : Nat)), j5, j6, .emp])
        (e_itL (e_bin rfl (e_v (e_bin rfl rfl rfl rfl (ix_txt hc))) rfl rfl (ix_nb ct))) rfl (lineN_big (by have := nm_len ok c; omega)) fun x hx => ⟨[.val (nbD ats), .val (.str s), .val (txt W), .own (txt L), .val (.int (p : Nat)), j5, j6, .val (.str x)], rfl, e_test (e_bin rfl rfl rfl rfl (notIn_txt (L := W) (nm_ok ok c x hx) hW)), fun _ => rfl, rfl⟩
      exact r
    have lp := sloop_map (m := mName 6) (t := (sseq (sif (mandT (mtest (mbin dNotIn (mopd 6) (mopd 3))) (mtest (mbin dNe (mv (mlc (mitL (mbin dIx (mopd 0) (mopd 6))) (mName 7) (mtest (mbin dIn (mopd 7) (mopd 5))) (mvar 7) [7])) (mv (mlst mnil))))) (sseq (sbind (mmut 3 "list" gAppend (mcons (mopd 6) mnil)) fun _ => snext)
  snext) snext)
  snext)) (fun a : Atom => .str a.1) (fun (r : List Atom) (ρ : Rho) => ∃ (L : List Str) (j6 : Sl), BJ W ats s p c L r ∧ ρ = [.val (nbD ats), .val (.str s), .val (txt W), .own (txt L), .val (.int (p : Nat)), .val (txt (nw W ats c)), j6, .emp]) ats
      [.val (nbD ats), .val (.str s), .val (txt W), .own (txt L), .val (.int (p : Nat)), .val (txt (nw W ats c)), j6.demote, .emp] ⟨L, _, bi.start hc, rfl⟩ ?_
    · obtain ⟨ρ', e, L', j6', bj, rfl⟩ := lp
      have b2 := bj.end
      have := b2.le
      have := b2.len
      refine ⟨ats.length - (p + 1), [.val (nbD ats), .val (.str s), .val (txt W), .own (txt L'), .val (.int (p + 1 : Nat)), .val (txt (nw W ats c)), j6', .emp], by omega, .inl ?_, L', p + 1, _, _, by omega, b2, rfl⟩
      exact s_seq (s_set own) (s_seq (s_for (e_itK_nb rfl) e) (s_seq (s_set (e_bin rfl rfl rfl rfl rfl)) rfl))
    · rintro a r ρ ha ⟨L, j6, bj, rfl⟩
      have lL := bj.b.len
      refine ⟨[.val (nbD ats), .val (.str s), .val (txt W), .own (txt L), .val (.int (p : Nat)), .val (txt (nw W ats c)), .val (.str a.1), .emp], ?_⟩
      have ne : mbin dNe (mv (mlc (mitL (mbin dIx (mopd 0) (mopd 6))) (mName 7) (mtest (mbin dIn (mopd 7) (mopd 5))) (mvar 7) [7])) (mv (mlst mnil)) [.val (nbD ats), .val (.str s), .val (txt W), .own (txt L), .val (.int (p : Nat)), .val (txt (nw W ats c)), .val (.str a.1), .emp] = .ok (.bool ((ownS a).any fun n => decide (n ∈ nw W ats c))) [.val (nbD ats), .val (.str s), .val (txt W), .own (txt L), .val (.int (p : Nat)), .val (txt (nw W ats c)), .val (.str a.1), .emp] := by
        rw [← isEmpty_filter]
        refine e_bin (e_v (m_lc (L := ownS a) PyData.str (fun n => decide (n ∈ nw W ats c)) PyData.str (e_itL (e_bin rfl rfl rfl rfl ?_)) rfl (lineN_big (by have := own_len ok ha; omega)) fun n hn => ⟨[.val (nbD ats), .val (.str s), .val (txt W), .own (txt L), .val (.int (p : Nat)), .val (txt (nw W ats c)), .val (.str a.1), .val (.str n)], rfl, e_test (e_bin rfl rfl rfl rfl (in_txt (own_ok ok ha n hn) (nw_ok ok W c))), fun _ => rfl, rfl⟩)) rfl rfl rfl ?_
        · rw [ix_nb (List.mem_map_of_mem ha), nm_of ok.nd ha]; rfl
        · rw [← len_nil_map _ PyData.str]
          exact ne_nil (shp_txt (L := (ownS a).filter _) fun n hn => own_ok ok ha n (List.mem_filter.mp hn).1)
      have tst := e_and (f := mtest (mbin dNotIn (mopd 6) (mopd 3))) (ρ := [.val (nbD ats), .val (.str s), .val (txt W), .own (txt L), .val (.int (p : Nat)), .val (txt (nw W ats c)), .val (.str a.1), .emp]) (e_test (e_bin rfl rfl rfl rfl (notIn_txt (s := a.1) (L := L) (okT12 (ok.okt a ha)) fun t ht => tab_ok ok (bj.b.sub t ht)))) (fun _ => e_test ne)
      cases hb : (!decide (a.1 ∈ L)) && ((ownS a).any fun n => decide (n ∈ nw W ats c)) with
      | true =>
        obtain ⟨q1, q2⟩ := Bool.and_eq_true_iff.mp hb
        have n1 : a.1 ∉ L := by simpa using q1
        obtain ⟨n, hn, q3⟩ := List.any_eq_true.mp q2
        have adj := (adj_iff ok ct ha).mpr ⟨n, hn, of_decide_eq_true q3⟩
        refine ⟨[.val (nbD ats), .val (.str s), .val (txt W), .own (txt (L ++ [a.1])), .val (.int (p : Nat)), .val (txt (nw W ats c)), .val (.str a.1), .emp], rfl, .inl ?_, _, _, bj.add ha n1 adj, rfl⟩
        exact s_seq (s_if tst (fun _ => s_seq (s_exp (e_mut rfl rfl (e_one rfl) rfl rfl (app_txt (lineN_lt (by omega))))) rfl) (fun z => by rw [hb] at z; cases z)) rfl
      | false =>
        refine ⟨[.val (nbD ats), .val (.str s), .val (txt W), .own (txt L), .val (.int (p : Nat)), .val (txt (nw W ats c)), .val (.str a.1), .emp], rfl, .inl ?_, _, _, bj.skip ?_, rfl⟩
        · exact s_seq (s_if tst (fun z => by rw [hb] at z; cases z) (fun _ => rfl)) rfl
        · intro k
          obtain ⟨n, hn, q⟩ := (adj_iff ok ct ha).mp k
          rw [List.any_eq_true.mpr ⟨n, hn, decide_eq_true q⟩, Bool.and_true] at hb
          simpa using hb
/-! ### pieces -/
theorem cls_of {s : Str} {L : List Str} (h : ∀ t, t ∈ L ↔ Conn [] ats s t) : (tabs ats).filter (fun t => decide (t ∈ L)) = cls ats s := by
  unfold cls
  congr 1
  funext t
  rw [Bool.eq_iff_iff, decide_eq_true_iff, decide_eq_true_iff]
  exact h t
theorem acc_len {acc : List (List Str)} {r : List Atom} (h : (tabs r).foldl (pcF ats) acc = pcs ats) : acc.length ≤ 6 := by
  have mono : ∀ (ts : List Str) (acc : List (List Str)), acc.length ≤ (ts.foldl (pcF ats) acc).length := by
    intro ts
    induction ts with
    | nil => exact fun _ => Nat.le_refl _
    | cons t ts ih =>
      intro acc
      refine Nat.le_trans ?_ (ih _)
      unfold pcF; split
      · exact Nat.le_refl _
      · rw [List.length_append]; omega
  have := mono (tabs r) acc
  rw [h] at this
  have := pcs_len ats
  have := ok.few
  omega
theorem lpieces_val : F__law_all_pieces [.v (qD h0 ats)] = .ret (.val (.tuple ((pcs ats).map tupS))) [] := by
  have few := ok.few
  have lp := sloop_map (m := mName 1) (t := (sseq (sif (mtest (mbin dEq (mv (mlcO 3 (mName 5) (mtest (mbin dIn (mopd 1) (mopd 5))) (mvar 5) [5])) (mv (mlst mnil)))) (sseq (sset 4 (mcallF F__law_reached (mcons (mopd 2) (mcons (mopd 1) (mcons (mv (mlst mnil)) mnil)))))
  (sseq (sbind (mmut 3 "list" gAppend (mcons (mv (mcb gTup (mcons (mv (mlc (mitK (mvar 2)) (mName 6) (mtest (mbin dIn (mopd 6) (mopd 4))) (mvar 6) [6])) mnil))) mnil)) fun _ => snext)
  snext)) snext)
  snext)) (fun a : Atom => .str a.1) (fun (r : List Atom) (ρ : Rho) => ∃ (acc : List (List Str)) (j1 j4 : Sl), (tabs r).foldl (pcF ats) acc = pcs ats ∧ (∀ p ∈ acc, ∃ s ∈ tabs ats, p = cls ats s) ∧ ρ = [.val (qD h0 ats), j1, .val (nbD ats), .own (.list (acc.map tupS)), j4, .emp, .emp]) ats
      [.val (qD h0 ats), .emp, .val (nbD ats), .own (.list []), .emp, .emp, .emp] ⟨[], _, _, rfl, fun _ h => (nomatch h), rfl⟩ ?_
  · obtain ⟨ρ', e, acc, j1, j4, q, _, rfl⟩ := lp
    have q : acc = pcs ats := q
    subst q
    refine mkF_at [.val (qD h0 ats), .emp, .emp, .emp, .emp, .emp, .emp] rfl rfl rfl (ρ := [.val (qD h0 ats), j1, .val (nbD ats), .own (.list ((pcs ats).map tupS)), j4, .emp, .emp]) ?_ rfl
    refine s_seq (s_par (e_rv (mcallF_val (e_one rfl) rfl rfl (own_val ok) rfl)) (e_ro rfl)) (s_seq (s_for (e_itK_nb rfl) e) (s_ret (e_cb1 rfl rfl rfl)))
  · rintro a r ρ ha ⟨acc, j1, j4, q, ca, rfl⟩
    have at' : a.1 ∈ tabs ats := List.mem_map_of_mem ha
    have al := acc_len ok q
    have aok : ∀ L ∈ acc, ∀ s ∈ L, okT s = true := fun L hL s hs => by
      obtain ⟨u, _, rfl⟩ := ca L hL
      exact tab_ok ok (mem_cls.mp hs).1
    refine ⟨[.val (qD h0 ats), .val (.str a.1), .val (nbD ats), .own (.list (acc.map tupS)), j4, .emp, .emp], ?_⟩
    have tst : mtest (mbin dEq (mv (mlcO 3 (mName 5) (mtest (mbin dIn (mopd 1) (mopd 5))) (mvar 5) [5])) (mv (mlst mnil))) [.val (qD h0 ats), .val (.str a.1), .val (nbD ats), .own (.list (acc.map tupS)), j4, .emp, .emp] = .ok (!(acc.any fun p => decide (a.1 ∈ p))) [.val (qD h0 ats), .val (.str a.1), .val (nbD ats), .own (.list (acc.map tupS)), j4, .emp, .emp] := by
      rw [← isEmpty_filter, Bool.not_not]
      refine e_test (e_bin (e_v (m_lcO (L := acc) tupS (fun p => decide (a.1 ∈ p)) tupS rfl rfl (lineN_big (by omega)) fun p hp => ⟨[.val (qD h0 ats), .val (.str a.1), .val (nbD ats), .own (.list (acc.map tupS)), j4, .val (tupS p), .emp], rfl, e_test (e_bin rfl rfl rfl rfl (in_tupS (okT12 (ok.okt a ha)) (aok p hp))), fun _ => rfl, rfl⟩)) rfl rfl rfl ?_)
      rw [← len_nil_map _ tupS]
      exact eq_nil (shp_tups fun L hL => aok L (List.mem_filter.mp hL).1)
    cases hb : acc.any fun p => decide (a.1 ∈ p) with
    | true =>
      refine ⟨[.val (qD h0 ats), .val (.str a.1), .val (nbD ats), .own (.list (acc.map tupS)), j4, .emp, .emp], rfl, .inl (s_seq (s_if tst (fun z => by rw [hb] at z; cases z) fun _ => rfl) rfl), acc, _, _, ?_, ca, rfl⟩
      rw [← q]
      show (tabs r).foldl (pcF ats) acc = (tabs r).foldl (pcF ats) (pcF ats acc a.1)
      rw [show pcF ats acc a.1 = acc from if_pos hb]
    | false =>
      obtain ⟨L, eR, ls, hL⟩ := lreached_val ok (W := []) (fun _ h => nomatch h) at'
      have hc : mcb gTup (mcons (mv (mlc (mitK (mvar 2)) (mName 6) (mtest (mbin dIn (mopd 6) (mopd 4))) (mvar 6) [6])) mnil) [.val (qD h0 ats), .val (.str a.1), .val (nbD ats), .own (.list (acc.map tupS)), .val (txt L), .emp, .emp] = .ok (tupS (cls ats a.1)) [.val (qD h0 ats), .val (.str a.1), .val (nbD ats), .own (.list (acc.map tupS)), .val (txt L), .emp, .emp] := by
        rw [← cls_of ok hL]
        exact e_cb1 (e_v (m_lc (L := tabs ats) PyData.str (fun t => decide (t ∈ L)) PyData.str (e_itK_tab rfl) rfl (lineN_big (by rw [tabs_len]; omega)) fun t ht => ⟨[.val (qD h0 ats), .val (.str a.1), .val (nbD ats), .own (.list (acc.map tupS)), .val (txt L), .emp, .val (.str t)], rfl, e_test (e_bin rfl rfl rfl rfl (in_txt (tab_ok ok ht) fun t ht => tab_ok ok (ls t ht))), fun _ => rfl, rfl⟩)) rfl rfl
      refine ⟨[.val (qD h0 ats), .val (.str a.1), .val (nbD ats), .own (.list ((acc ++ [cls ats a.1]).map tupS)), .val (txt L), .emp, .emp], rfl, .inl (s_seq (s_if tst (fun _ => s_seq (s_set (mcallF_val (e_three rfl rfl rfl) rfl rfl eR rfl)) (s_seq (s_exp (e_mut rfl rfl (e_one (e_v hc)) rfl rfl (app_list (L := acc.map tupS) (lineN_lt (by rw [List.length_map]; omega))))) rfl)) fun z => by rw [hb] at z; cases z) ?_), acc ++ [cls ats a.1], _, _, ?_, ?_, rfl⟩
      · rw [List.map_append]; rfl
      · rw [← q]
        show _ = (tabs r).foldl (pcF ats) (pcF ats acc a.1)
        rw [show pcF ats acc a.1 = acc ++ [cls ats a.1] from if_neg (by rw [hb]; exact Bool.false_ne_true)]
      · intro p hp
        rcases List.mem_append.mp hp with hp | hp
        · exact ca p hp
        · exact ⟨a.1, at', List.mem_singleton.mp hp⟩
end
end G

set_option Elab.async false
set_option linter.all false
set_option maxRecDepth 100000
namespace VS
open PySem L2
section
variable {α : Type}
/-- a for that may return, at the first item that does not do -/
theorem sloop_all {m : Tg} {t : SM} (g : α → D) (I J : Rho → Prop) (r : Rt) (p : α → Prop) : ∀ (L : List α) (ρ : Rho), I ρ → (∀ x ∈ L, ∀ ρ, I ρ → ∃ ρ1, m (g x) ρ = some ρ1 ∧ ((p x ∧ ∃ ρ2, t ρ1 = .next ρ2 ∧ I ρ2) ∨ (¬ p x ∧ ∃ ρ2, t ρ1 = .ret r ρ2 ∧ J ρ2))) →
    ((∀ x ∈ L, p x) ∧ ∃ ρ', sloop m t (L.map g) ρ = .next ρ' ∧ I ρ') ∨ ((∃ x ∈ L, ¬ p x) ∧ ∃ ρ', sloop m t (L.map g) ρ = .ret r ρ' ∧ J ρ')
  | [], ρ, i, _ => .inl ⟨fun _ h => (nomatch h), ρ, rfl, i⟩
  | x :: L, ρ, i, h => by
    obtain ⟨ρ1, e1, e2⟩ := h x List.mem_cons_self ρ i
    rcases e2 with ⟨px, ρ2, e2, i2⟩ | ⟨px, ρ2, e2, j2⟩
    · rcases sloop_all g I J r p L ρ2 i2 (fun y hy => h y (List.mem_cons_of_mem _ hy)) with ⟨a, ρ', e, j⟩ | ⟨⟨y, hy, ny⟩, ρ', e, j⟩
      · refine .inl ⟨fun y hy => (List.mem_cons.mp hy).elim (fun z => z ▸ px) (a y), ρ', ?_, j⟩
        rw [List.map_cons]; unfold sloop; rw [e1]; dsimp only; rw [e2]; exact e
      · refine .inr ⟨⟨y, List.mem_cons_of_mem _ hy, ny⟩, ρ', ?_, j⟩
        rw [List.map_cons]; unfold sloop; rw [e1]; dsimp only; rw [e2]; exact e
    · refine .inr ⟨⟨x, List.mem_cons_self, px⟩, ρ2, ?_, j2⟩
      rw [List.map_cons]; unfold sloop; rw [e1]; dsimp only; rw [e2]
/-- a for that may return -/
theorem sloop_or {m : Tg} {t : SM} (g : α → D) (I : Rho → Prop) (J : Rt → Rho → Prop) : ∀ (L : List α) (ρ : Rho), I ρ → (∀ x ∈ L, ∀ ρ, I ρ → ∃ ρ1, m (g x) ρ = some ρ1 ∧ ((∃ ρ2, t ρ1 = .next ρ2 ∧ I ρ2) ∨ (∃ r ρ2, t ρ1 = .ret r ρ2 ∧ J r ρ2))) →
    (∃ ρ', sloop m t (L.map g) ρ = .next ρ' ∧ I ρ') ∨ (∃ r ρ', sloop m t (L.map g) ρ = .ret r ρ' ∧ J r ρ')
  | [], ρ, i, _ => .inl ⟨ρ, rfl, i⟩
  | x :: L, ρ, i, h => by
    obtain ⟨ρ1, e1, e2⟩ := h x List.mem_cons_self ρ i
    rcases e2 with ⟨ρ2, e2, i2⟩ | ⟨r, ρ2, e2, j2⟩
    · rcases sloop_or g I J L ρ2 i2 (fun y hy => h y (List.mem_cons_of_mem _ hy)) with ⟨ρ', e, j⟩ | ⟨r, ρ', e, j⟩
      · refine .inl ⟨ρ', ?_, j⟩
        rw [List.map_cons]; unfold sloop; rw [e1]; dsimp only; rw [e2]; exact e
      · refine .inr ⟨r, ρ', ?_, j⟩
        rw [List.map_cons]; unfold sloop; rw [e1]; dsimp only; rw [e2]; exact e
    · refine .inr ⟨r, ρ2, ?_, j2⟩
      rw [List.map_cons]; unfold sloop; rw [e1]; dsimp only; rw [e2]
theorem enumD_map (f : α → D) : ∀ (L : List α) (n : Nat), enumD n (L.map f) = (L.zipIdx n).map fun q => .tuple [.int (q.2 : Nat), f q.1]
  | [], _ => rfl
  | x :: L, n => by
    show PyData.tuple [.int (n : Nat), f x] :: enumD (n + 1) (L.map f) = _
    rw [enumD_map f L (n + 1)]; rfl
theorem zipD_map (f : α → D) : ∀ (L M : List α), zipD (L.map f) (M.map f) = (L.zip M).map fun q => .tuple [f q.1, f q.2]
  | [], _ => by cases ‹List α› <;> rfl
  | _ :: _, [] => rfl
  | x :: L, y :: M => by
    show PyData.tuple [f x, f y] :: zipD (L.map f) (M.map f) = _
    rw [zipD_map f L M]; rfl
end
section
variable {ρ ρ1 ρ2 : Rho} {f g : M Op} {a b : Op} {x y d : D}
theorem e_itEt {f : M Op} {xs : List D} (h : f ρ = .ok a ρ1) (h2 : a = .v (.tuple xs)) : mitEt (mcons f mnil) ρ = .ok (enumD 0 xs) ρ1 := by
  subst h2
  unfold mitEt mbind; rw [e_one h]; rfl
theorem e_itZt {xs ys : List D} (h : f ρ = .ok (.v (.tuple xs)) ρ1) (h2 : g ρ1 = .ok (.v (.tuple ys)) ρ2) : mitZ (mcons f (mcons g mnil)) ρ = .ok (zipD xs ys) ρ2 := by
  unfold mitZ mbind; rw [e_two h h2]; rfl
theorem e_R2 {f : M (List Op)} {i j : Int} (h : f ρ = .ok [.v (.int i), .v (.int j)] ρ1) (h2 : rgOk i = true) (h3 : rgOk j = true) : mitR2 f ρ = .ok (rangeD i j) ρ1 := by
  unfold mitR2 mbind; rw [h]; dsimp only [Res.bind]; rw [if_pos ⟨h2, h3⟩]; rfl
theorem strsOf_map : ∀ (L : List Str), strsOf (L.map .str) = some L
  | [] => rfl
  | x :: L => by
    show (strsOf (L.map .str)).map _ = _
    rw [strsOf_map L]; rfl
theorem e_lenset {L : List Str} (h : f ρ = .ok a ρ1) (h2 : mder a ρ1 = .ok (tupS L) ρ1) (h3 : L.length < 1000) : mlenset f ρ = .ok (.int (ddS L).length) ρ1 := by
  unfold mlenset mbind; rw [h]; dsimp only [Res.bind]; rw [h2]; unfold tupS; dsimp only; rw [strsOf_map]; dsimp only; rw [if_pos h3]; rfl
end
theorem cutD_all (xs : List D) (k : Nat) : cutD xs none (some (k : Int)) = xs.take k := by
  unfold cutD
  rw [HT.sIx_none, HT.sIx_nat, List.drop_zero, Nat.sub_zero]
  by_cases h : k ≤ xs.length
  · rw [Nat.min_eq_left h]
  · rw [Nat.min_eq_right (by omega), List.take_of_length_le (Nat.le_refl _), List.take_of_length_le (by omega)]
theorem cutD_from (xs : List D) (k : Nat) : cutD xs (some (k : Int)) none = xs.drop k := by
  unfold cutD
  rw [HT.sIx_none, HT.sIx_nat]
  by_cases h : k ≤ xs.length
  · rw [Nat.min_eq_left h, List.take_of_length_le (by rw [List.length_drop]; exact Nat.le_refl _)]
  · rw [Nat.min_eq_right (by omega), List.drop_eq_nil_of_le (Nat.le_refl _), List.drop_eq_nil_of_le (by omega), List.take_nil]
theorem cutD_init (xs : List D) : cutD xs none (some (-1)) = xs.dropLast := by
  unfold cutD
  rw [HT.sIx_none]
  show (xs.drop 0).take ((-1 + (xs.length : Int)).toNat - 0) = _
  rw [List.drop_zero, Nat.sub_zero, List.dropLast_eq_take]
  congr 1
  omega
theorem cutD_lastOne (xs : List D) : cutD xs (some (-1)) none = xs.drop (xs.length - 1) := by
  unfold cutD
  rw [HT.sIx_none]
  show (xs.drop (-1 + (xs.length : Int)).toNat).take (xs.length - (-1 + (xs.length : Int)).toNat) = _
  rw [show (-1 + (xs.length : Int)).toNat = xs.length - 1 by omega, List.take_of_length_le (by rw [List.length_drop]; exact Nat.le_refl _)]
theorem sl_take (L : List Str) (k : Nat) : dSl (tupS L) none (some (k : Int)) = some (tupS (L.take k)) := by
  show some (PyData.tuple (cutD (L.map .str) none (some (k : Int)))) = _
  rw [cutD_all, ← List.map_take]; rfl
theorem sl_drop (L : List Str) (k : Nat) : dSl (tupS L) (some (k : Int)) none = some (tupS (L.drop k)) := by
  show some (PyData.tuple (cutD (L.map .str) (some (k : Int)) none)) = _
  rw [cutD_from, ← List.map_drop]; rfl
theorem sl_init (L : List Str) : dSl (tupS L) none (some (-1)) = some (tupS L.dropLast) := by
  show some (PyData.tuple (cutD (L.map .str) none (some (-1)))) = _
  rw [cutD_init, ← List.map_dropLast]; rfl
theorem ix_tupS {L : List Str} {i : Nat} {s : Str} (h : L[i]? = some s) : dIx (tupS L) (.int (i : Nat)) = some (.str s) := by
  show atI (L.map PyData.str) (i : Nat) = _
  unfold atI
  rw [List.length_map, ixN_nat (List.getElem?_eq_some_iff.mp h).1]
  show (L.map PyData.str)[i]? = _
  rw [List.getElem?_map, h]; rfl
theorem ix_last {L : List Str} {s : Str} (h : L.getLast? = some s) : dIx (tupS L) (.int (-1)) = some (.str s) := by
  have ne : L ≠ [] := by rintro rfl; cases h
  have hl : 0 < L.length := List.length_pos_iff.mpr ne
  show atI (L.map PyData.str) (-1) = _
  unfold atI
  have e : ixN (L.map PyData.str).length (-1) = some (L.length - 1) := by
    rw [List.length_map]
    unfold ixN
    rw [if_neg (by decide), if_pos (by omega)]
    congr 1; omega
  rw [e]
  show (L.map PyData.str)[L.length - 1]? = _
  rw [List.getElem?_map, ← List.getLast?_eq_getElem?, h]; rfl
theorem app_tupS {L M : List Str} (h : L.length + M.length ≤ 1000) : dAdd (tupS L) (tupS M) = some (tupS (L ++ M)) := by
  have e : gCatT (tupS L) (tupS M) = some (tupS (L ++ M)) := by
    show (if (L.map PyData.str).length + (M.map PyData.str).length ≤ lineN then some (PyData.tuple (L.map PyData.str ++ M.map PyData.str)) else none) = _
    rw [if_pos (by rw [List.length_map, List.length_map]; unfold lineN; omega), ← List.map_append]; rfl
  unfold dAdd orG
  rw [show gI (· + ·) (tupS L) (tupS M) = none from rfl]; dsimp only
  rw [show gAddS (tupS L) (tupS M) = none from rfl]; dsimp only
  rw [show gCat (tupS L) (tupS M) = none from rfl]; dsimp only
  rw [e]
theorem ne_str (s t : Str) : dNe (.str s) (.str t) = some (.bool (!decide (s = t))) := rfl
theorem ne_int (s t : Int) : dNe (.int s) (.int t) = some (.bool (!decide (s = t))) := rfl
theorem len_tupS (L : List Str) : gLen [tupS L] = some (.int L.length) := by
  show some (PyData.int ((L.map PyData.str).length : Nat)) = _
  rw [List.length_map]
end VS

set_option Elab.async false
set_option linter.all false
set_option maxRecDepth 100000
namespace G
open PySem L2 VS
theorem s_retvV {i : Nat} {u : SM} {d : D} {ρ : Rho} (h1 : ρ[i]? = some (.val d)) : sseq (sretv i) u ρ = .ret (.val d) ρ := by
  unfold sseq sretv; rw [h1]
theorem sloop_find {α β : Type} {m : Tg} {t : SM} (g : α → D) (I : Rho → Prop) (J : β → Rt → Rho → Prop) (o : α → Option β) : ∀ (L : List α) (ρ : Rho), I ρ → (∀ x ∈ L, ∀ ρ, I ρ → ∃ ρ1, m (g x) ρ = some ρ1 ∧ ((o x = none ∧ ∃ ρ2, t ρ1 = .next ρ2 ∧ I ρ2) ∨ (∃ b r ρ2, o x = some b ∧ t ρ1 = .ret r ρ2 ∧ J b r ρ2))) →
    (L.findSome? o = none ∧ ∃ ρ', sloop m t (L.map g) ρ = .next ρ' ∧ I ρ') ∨ (∃ b r ρ', L.findSome? o = some b ∧ sloop m t (L.map g) ρ = .ret r ρ' ∧ J b r ρ')
  | [], ρ, i, _ => .inl ⟨rfl, ρ, rfl, i⟩
  | x :: L, ρ, i, h => by
    obtain ⟨ρ1, e1, e2⟩ := h x List.mem_cons_self ρ i
    rcases e2 with ⟨o1, ρ2, e2, i2⟩ | ⟨b, r, ρ2, o1, e2, j2⟩
    · rcases sloop_find g I J o L ρ2 i2 (fun y hy => h y (List.mem_cons_of_mem _ hy)) with ⟨oo, ρ', e, j⟩ | ⟨b, r, ρ', oo, e, j⟩
      · refine .inl ⟨by rw [List.findSome?_cons, o1]; exact oo, ρ', ?_, j⟩
        rw [List.map_cons]; unfold sloop; rw [e1]; dsimp only; rw [e2]; exact e
      · refine .inr ⟨b, r, ρ', by rw [List.findSome?_cons, o1]; exact oo, ?_, j⟩
        rw [List.map_cons]; unfold sloop; rw [e1]; dsimp only; rw [e2]; exact e
    · refine .inr ⟨b, r, ρ2, by rw [List.findSome?_cons, o1], ?_, j2⟩
      rw [List.map_cons]; unfold sloop; rw [e1]; dsimp only; rw [e2]
/-! ### parts: whether one table parts two others -/
noncomputable def PB (ats : List Atom) (a m b : Str) : Bool := !decide (Conn (nm ats m) ats a b)
def partD (ats : List Atom) (P : List Str) : D := .tuple [.tuple [], .tuple ((ats.filter fun a => decide (a.1 ∈ P)).map atD)]
theorem lst_of {L : List Str} {ts : List Str} (h : ∀ t ∈ L, t ∈ ts) {i : Nat} {a : Str} (e : L[i]? = some a) : a ∈ ts := h a (List.mem_of_getElem? e)
theorem mem_zip {L : List Str} {q : Str × Nat} (h : q ∈ L.zipIdx) : L[q.2]? = some q.1 := List.mem_zipIdx_iff_getElem?.mp h
theorem zip_mem {L : List Str} {i : Nat} {a : Str} (h : L[i]? = some a) : (a, i) ∈ L.zipIdx := List.mem_zipIdx_iff_getElem?.mpr h
theorem mem_take {L : List Str} {k : Nat} {a : Str} : a ∈ L.take k ↔ ∃ i, i < k ∧ L[i]? = some a := by
  rw [List.mem_iff_getElem?]
  constructor
  · rintro ⟨i, e⟩
    have li := (List.getElem?_eq_some_iff.mp e).1
    rw [List.length_take] at li
    rw [List.getElem?_take_of_lt (by omega)] at e
    exact ⟨i, by omega, e⟩
  · rintro ⟨i, li, e⟩
    exact ⟨i, by rw [List.getElem?_take_of_lt li]; exact e⟩
theorem mem_drop {L : List Str} {k : Nat} {a : Str} : a ∈ L.drop k ↔ ∃ i, k ≤ i ∧ L[i]? = some a := by
  rw [List.mem_iff_getElem?]
  constructor
  · rintro ⟨i, e⟩
    rw [List.getElem?_drop] at e
    exact ⟨k + i, by omega, e⟩
  · rintro ⟨i, li, e⟩
    refine ⟨i - k, ?_⟩
    rw [List.getElem?_drop, show k + (i - k) = i by omega]; exact e
/-- the last table of a line parts no wrong two -/
def FP (ats : List Atom) (M : List Str) (l : Str) : Prop := ∀ (i j : Nat) (a m : Str), i < j → M[i]? = some a → M[j]? = some m → PB ats a m l = true
noncomputable instance fpDec (ats : List Atom) (M : List Str) (l : Str) : Decidable (FP ats M l) := Classical.propDecidable _
/-- of any three the middle one parts the other two -/
def LP (ats : List Atom) (L : List Str) : Prop := ∀ (i j k : Nat) (a m c : Str), i < j → j < k → L[i]? = some a → L[j]? = some m → L[k]? = some c → PB ats a m c = true
noncomputable instance lpDec (ats : List Atom) (L : List Str) : Decidable (LP ats L) := Classical.propDecidable _
def LnD (ats : List Atom) (d : D) : Prop := d = .none ∨ ∃ K : List Str, d = tupS K ∧ (∀ t ∈ K, t ∈ tabs ats) ∧ K.length ≤ 6
/-- the first line that begins so and has the rest -/
noncomputable def LB (ats : List Atom) : Nat → List Str → List Str → Option (List Str)
  | 0, _, _ => none
  | n + 1, L, R => if R.isEmpty = true then some L else R.findSome? fun t => if decide (FP ats L t) = true then LB ats n (L ++ [t]) (R.filter fun x => !decide (x = t)) else none
def lnD : Option (List Str) → D
  | none => .none
  | some K => tupS K
section
variable {h0 : D} {ats : List Atom} (ok : QOk ats)
include ok
theorem lpart_val {P : List Str} (hP : ∀ s ∈ P, okT s = true) : F__law_part_by [.v (qD h0 ats), .v (tupS P)] = .ret (.val (partD ats P)) [] := by
  have few := ok.few
  refine mkF_at [.val (qD h0 ats), .val (tupS P), .emp] rfl rfl rfl (ρ := [.val (qD h0 ats), .val (tupS P), .emp]) (s_ret (e_tup (e_two (e_v (e_tup rfl (by show 0 ≤ 1000; omega) rfl)) (e_v (e_cb1 (e_v (m_lc (L := ats) atD (fun a => decide (a.1 ∈ P)) atD rfl rfl (lineN_big (by omega)) fun a ha => ⟨[.val (qD h0 ats), .val (tupS P), .val (atD a)], rfl, e_test (e_bin (e_v (e_bin rfl rfl rfl rfl rfl)) rfl rfl rfl (in_tupS (okT12 (ok.okt a ha)) hP)), fun _ => rfl, rfl⟩)) rfl rfl))) (by show 2 ≤ 1000; omega) rfl)) rfl
theorem dpart_val {a m : Str} (ha : a ∈ tabs ats) (hm : m ∈ tabs ats) (b : Str) : F_does_part [.v (nbD ats), .v (.str a), .v (.str m), .v (.str b)] = .ret (.val (.bool (PB ats a m b))) [] := by
  obtain ⟨kv, L, eR, ek, hL, _⟩ := reached_val ok (nm_ok ok m) ha
  refine mkF_at [.val (nbD ats), .val (.str a), .val (.str m), .val (.str b)] rfl rfl rfl (ρ := [.val (nbD ats), .val (.str a), .val (.str m), .val (.str b)]) (s_ret (e_bin rfl (e_v (mcallF_val (e_three rfl rfl (e_v (e_bin rfl rfl rfl rfl (ix_nb hm)))) rfl rfl eR rfl)) rfl rfl ?_)) rfl
  rw [notIn_keys ek]
  unfold PB
  congr 4
  exact propext (hL b)
theorem ldpart_val {a m b : Str} (ha : a ∈ tabs ats) (hm : m ∈ tabs ats) (hb : b ∈ tabs ats) : F__law_does_part [.v (nbD ats), .v (.str a), .v (.str m), .v (.str b)] = .ret (.val (.bool (PB ats a m b))) [] := by
  obtain ⟨L, eR, ls, hL⟩ := lreached_val ok (nm_ok ok m) ha
  refine mkF_at [.val (nbD ats), .val (.str a), .val (.str m), .val (.str b)] rfl rfl rfl (ρ := [.val (nbD ats), .val (.str a), .val (.str m), .val (.str b)]) (s_ret (e_bin rfl (e_v (mcallF_val (e_three rfl rfl (e_v (e_bin rfl rfl rfl rfl (ix_nb hm)))) rfl rfl eR rfl)) rfl rfl ?_)) rfl
  rw [notIn_txt (tab_ok ok hb) fun t ht => tab_ok ok (ls t ht)]
  unfold PB
  congr 4
  exact propext (hL b)
theorem fits_val {M : List Str} {l : Str} (hM : ∀ t ∈ M, t ∈ tabs ats) (hl : l ∈ tabs ats) : F_fits_line [.v (nbD ats), .v (tupS (M ++ [l]))] = .ret (.val (.bool (decide (FP ats M l)))) [] := by
  have hML : ∀ t ∈ M ++ [l], t ∈ tabs ats := fun t ht => (List.mem_append.mp ht).elim (hM t) fun z => List.mem_singleton.mp z ▸ hl
  have lp := sloop_all (m := mTup [(mName 3), (mName 4)]) (t := (sseq (sfor (mitT (mslice (mopd 1) (mret none) (mpart (mvar 3)))) (mName 5) (sseq (sif (mnotT (mtest (mcallV F_does_part (mcons (mopd 0) (mcons (mopd 5) (mcons (mopd 4) (mcons (mopd 2) mnil))))))) (sseq (sbind (mret (.bool false)) fun d ρ => .ret (.val d) ρ)
  snext) snext)
  snext))
  snext)) (fun q : Str × Nat => .tuple [.int (q.2 : Nat), .str q.1]) (fun (ρ : Rho) => ∃ (j3 j4 j5 : Sl), ρ = [.val (nbD ats), .val (tupS (M ++ [l])), .val (.str l), j3, j4, j5]) (fun ρ => outsOf [.v (nbD ats), .v (tupS (M ++ [l]))] ρ = some []) (.val (.bool false)) (fun q => ∀ a ∈ (M ++ [l]).take q.2, PB ats a q.1 l = true) M.zipIdx [.val (nbD ats), .val (tupS (M ++ [l])), .val (.str l), .emp, .emp, .emp] ⟨_, _, _, rfl⟩ ?_
  · have it : mitEt (mcons (mv (mslice (mopd 1) (mret none) (mpart (mret (.int (-1)))))) mnil) [.val (nbD ats), .val (tupS (M ++ [l])), .val (.str l), .emp, .emp, .emp] = .ok (M.zipIdx.map fun q : Str × Nat => .tuple [.int (q.2 : Nat), .str q.1]) [.val (nbD ats), .val (tupS (M ++ [l])), .val (.str l), .emp, .emp, .emp] := by
      rw [← enumD_map PyData.str M 0]
      refine e_itEt (e_v (e_slice rfl rfl (e_part rfl) rfl (sl_init _))) ?_
      rw [List.dropLast_concat]; rfl
    have st : sset 2 (mbin dIx (mopd 1) (mv (mret (.int (-1))))) [.val (nbD ats), .val (tupS (M ++ [l])), .emp, .emp, .emp, .emp] = .next [.val (nbD ats), .val (tupS (M ++ [l])), .val (.str l), .emp, .emp, .emp] := s_set (ρ1 := [.val (nbD ats), .val (tupS (M ++ [l])), .emp, .emp, .emp, .emp]) (d := .str l) (e_bin rfl rfl rfl rfl (ix_last (by rw [List.getLast?_concat])))
    rcases lp with ⟨all, ρ', e, j3, j4, j5, rfl⟩ | ⟨⟨q, hq, nq⟩, ρ', e, ho⟩
    · have hf : FP ats M l := fun i j a m hij ea em => all (m, j) (zip_mem em) a (mem_take.mpr ⟨i, hij, by rw [List.getElem?_append_left (List.getElem?_eq_some_iff.mp ea).1]; exact ea⟩)
      rw [decide_eq_true hf]
      exact mkF_at [.val (nbD ats), .val (tupS (M ++ [l])), .emp, .emp, .emp, .emp] rfl rfl rfl (s_seq st (s_seq (s_for it e) (s_ret rfl))) rfl
    · rw [decide_eq_false (fun h : FP ats M l => nq fun a ha => by
        have eq := mem_zip hq
        have lq := (List.getElem?_eq_some_iff.mp eq).1
        obtain ⟨i, hi, ea⟩ := mem_take.mp ha
        rw [List.getElem?_append_left (by omega)] at ea
        exact h i q.2 a q.1 hi ea eq)]
      exact mkF_at [.val (nbD ats), .val (tupS (M ++ [l])), .emp, .emp, .emp, .emp] rfl rfl rfl (s_seq st (s_seqR (s_for it e))) ho
  · rintro ⟨m, j⟩ hq ρ ⟨j3, j4, j5, rfl⟩
    have hm : m ∈ tabs ats := lst_of hM (mem_zip hq)
    refine ⟨[.val (nbD ats), .val (tupS (M ++ [l])), .val (.str l), .val (.int (j : Nat)), .val (.str m), j5], rfl, ?_⟩
    have lp2 := sloop_all (m := mName 5) (t := (sseq (sif (mnotT (mtest (mcallV F_does_part (mcons (mopd 0) (mcons (mopd 5) (mcons (mopd 4) (mcons (mopd 2) mnil))))))) (sseq (sbind (mret (.bool false)) fun d ρ => .ret (.val d) ρ)
  snext) snext)
  snext)) PyData.str (fun (ρ : Rho) => ∃ (j5 : Sl), ρ = [.val (nbD ats), .val (tupS (M ++ [l])), .val (.str l), .val (.int (j : Nat)), .val (.str m), j5]) (fun ρ => outsOf [.v (nbD ats), .v (tupS (M ++ [l]))] ρ = some []) (.val (.bool false)) (fun a => PB ats a m l = true) ((M ++ [l]).take j) [.val (nbD ats), .val (tupS (M ++ [l])), .val (.str l), .val (.int (j : Nat)), .val (.str m), j5.demote] ⟨_, rfl⟩ (by
      rintro a ha ρ ⟨j5, rfl⟩
      have hat : a ∈ tabs ats := hML a (List.mem_of_mem_take ha)
      let ρ1 : Rho := [.val (nbD ats), .val (tupS (M ++ [l])), .val (.str l), .val (.int (j : Nat)), .val (.str m), .val (.str a)]
      have tst : mnotT (mtest (mcallV F_does_part (mcons (mopd 0) (mcons (mopd 5) (mcons (mopd 4) (mcons (mopd 2) mnil)))))) ρ1 = .ok (!PB ats a m l) ρ1 := e_not (e_test (mcallV_val (e_four rfl rfl rfl rfl) rfl rfl (dpart_val ok hat hm l) rfl))
      refine ⟨ρ1, rfl, ?_⟩
      cases hb : PB ats a m l with
      | true => exact .inl ⟨rfl, ρ1, s_seq (s_if tst (fun z => by rw [hb] at z; cases z) fun _ => rfl) rfl, _, rfl⟩
      | false => exact .inr ⟨by simp, ρ1, s_seqR (s_if tst (fun _ => s_ret rfl) fun z => by rw [hb] at z; cases z), rfl⟩)
    have it2 : mitT (mslice (mopd 1) (mret none) (mpart (mvar 3))) [.val (nbD ats), .val (tupS (M ++ [l])), .val (.str l), .val (.int (j : Nat)), .val (.str m), j5] = .ok (((M ++ [l]).take j).map .str) [.val (nbD ats), .val (tupS (M ++ [l])), .val (.str l), .val (.int (j : Nat)), .val (.str m), j5] := e_itT (e_slice rfl rfl (e_part rfl) rfl (sl_take _ _))
    rcases lp2 with ⟨all, ρ', e, j5', rfl⟩ | ⟨⟨a, ha, na⟩, ρ', e, ho⟩
    · exact .inl ⟨all, _, s_seq (s_for it2 e) rfl, _, _, _, rfl⟩
    · exact .inr ⟨fun h => na (h a ha), ρ', s_seqR (s_for it2 e), ho⟩
theorem isend_val {M : List Str} {l : Str} (hM : ∀ t ∈ M, t ∈ tabs ats) (lM : M.length ≤ 1000) (hl : l ∈ tabs ats) : F__law_is_end [.v (nbD ats), .v (tupS M), .v (.str l)] = .ret (.val (.bool (decide (FP ats M l)))) [] := by
  let ρ0 : Rho := [.val (nbD ats), .val (tupS M), .val (.str l), .emp, .emp, .emp]
  have lp := sloop_all (m := mTup [(mName 3), (mName 4)]) (t := (sseq (sif (mtest (mbin dNeNil (mv (mlc (mitT (mslice (mopd 1) (mret none) (mpart (mvar 3)))) (mName 5) (mnotT (mtest (mcallV F__law_does_part (mcons (mopd 0) (mcons (mopd 5) (mcons (mopd 4) (mcons (mopd 2) mnil))))))) (mvar 5) [5])) (mv (mlst mnil)))) (sseq (sbind (mret (.bool false)) fun d ρ => .ret (.val d) ρ)
  snext) snext)
  snext)) (fun q : Str × Nat => .tuple [.int (q.2 : Nat), .str q.1]) (fun (ρ : Rho) => ∃ (j3 j4 : Sl), ρ = [.val (nbD ats), .val (tupS M), .val (.str l), j3, j4, .emp]) (fun ρ => outsOf [.v (nbD ats), .v (tupS M), .v (.str l)] ρ = some []) (.val (.bool false)) (fun q => ∀ a ∈ M.take q.2, PB ats a q.1 l = true) M.zipIdx ρ0 ⟨_, _, rfl⟩ ?_
  · have it : mitEt (mcons (mopd 1) mnil) ρ0 = .ok (M.zipIdx.map fun q : Str × Nat => .tuple [.int (q.2 : Nat), .str q.1]) ρ0 := by
      rw [← enumD_map PyData.str M 0]
      exact e_itEt (a := .v (tupS M)) rfl rfl
    rcases lp with ⟨all, ρ', e, j3, j4, rfl⟩ | ⟨⟨q, hq, nq⟩, ρ', e, ho⟩
    · have hf : FP ats M l := fun i j a m hij ea em => all (m, j) (zip_mem em) a (mem_take.mpr ⟨i, hij, ea⟩)
      rw [decide_eq_true hf]
      exact mkF_at ρ0 rfl rfl rfl (s_seq (s_for it e) (s_ret rfl)) rfl
    · rw [decide_eq_false (fun h : FP ats M l => nq fun a ha => by
        obtain ⟨i, hi, ea⟩ := mem_take.mp ha
        exact h i q.2 a q.1 hi ea (mem_zip hq))]
      exact mkF_at ρ0 rfl rfl rfl (s_seqR (s_for it e)) ho
  · rintro ⟨m, j⟩ hq ρ ⟨j3, j4, rfl⟩
    have hm : m ∈ tabs ats := lst_of hM (mem_zip hq)
    let ρ1 : Rho := [.val (nbD ats), .val (tupS M), .val (.str l), .val (.int (j : Nat)), .val (.str m), .emp]
    have tst : mtest (mbin dNeNil (mv (mlc (mitT (mslice (mopd 1) (mret none) (mpart (mvar 3)))) (mName 5) (mnotT (mtest (mcallV F__law_does_part (mcons (mopd 0) (mcons (mopd 5) (mcons (mopd 4) (mcons (mopd 2) mnil))))))) (mvar 5) [5])) (mv (mlst mnil))) ρ1 = .ok ((M.take j).any fun a => !PB ats a m l) ρ1 := by
      rw [← isEmpty_filter, ← len_nil_map _ PyData.str]
      refine e_test (e_bin (e_v (m_lc (L := M.take j) PyData.str (fun a => !PB ats a m l) PyData.str (e_itT (e_slice rfl rfl (e_part rfl) rfl (sl_take _ _))) rfl (lineN_big (by rw [List.length_take]; omega)) fun a ha => ⟨[.val (nbD ats), .val (tupS M), .val (.str l), .val (.int (j : Nat)), .val (.str m), .val (.str a)], rfl, e_not (e_test (mcallV_val (e_four rfl rfl rfl rfl) rfl rfl (ldpart_val ok (hM a (List.mem_of_mem_take ha)) hm hl) rfl)), fun _ => rfl, rfl⟩)) rfl rfl rfl rfl)
    refine ⟨ρ1, rfl, ?_⟩
    cases hb : (M.take j).any fun a => !PB ats a m l with
    | false => exact .inl ⟨fun a ha => (by
        cases hp : PB ats a m l with
        | true => rfl
        | false => rw [List.any_eq_true.mpr ⟨a, ha, by rw [hp]; rfl⟩] at hb; cases hb), ρ1, s_seq (s_if tst (fun z => by rw [hb] at z; cases z) fun _ => rfl) rfl, _, _, rfl⟩
    | true => exact .inr ⟨fun h => (by
        obtain ⟨a, ha, z⟩ := List.any_eq_true.mp hb
        rw [h a ha] at z; cases z), ρ1, s_seqR (s_if tst (fun _ => s_ret rfl) fun z => by rw [hb] at z; cases z), rfl⟩
/-! ### the told line -/
theorem behind_val : ∀ (n : Nat) (L R : List Str), (∀ t ∈ L, t ∈ tabs ats) → (∀ t ∈ R, t ∈ tabs ats) → R.length < n → L.length + R.length ≤ 6 → F_line_behind n [.v (nbD ats), .v (tupS L), .v (tupS R)] = .ret (.val (lnD (LB ats n L R))) []
  | 0, L, R, _, _, h, _ => absurd h (Nat.not_lt_zero _)
  | n + 1, L, R, hL, hR, hn, hs => by
    let ρ0 : Rho := [.val (nbD ats), .val (tupS L), .val (tupS R), .emp, .emp, .emp, .emp]
    have tst : mtest (mbin dEqNil (mopd 2) (mv (mtup mnil))) ρ0 = .ok (R.map PyData.str).isEmpty ρ0 := e_test (e_bin rfl (e_v (e_tup rfl (by show 0 ≤ 1000; omega) rfl)) rfl rfl rfl)
    rw [len_nil_map] at tst
    unfold LB
    cases hE : R.isEmpty with
    | true =>
      rw [if_pos rfl]
      exact mkF_at ρ0 rfl rfl rfl (ρ := ρ0) (s_seqR (s_if tst (fun _ => s_retvV rfl) fun z => by rw [hE] at z; cases z)) rfl
    | false =>
      rw [if_neg Bool.false_ne_true]
      have lp := sloop_find (m := mName 3) (t := (sseq (sset 4 (mbin dAdd (mopd 1) (mv (mtup (mcons (mopd 3) mnil)))))
  (sseq (sif (mtest (mcallV F_fits_line (mcons (mopd 0) (mcons (mopd 4) mnil)))) (sseq (sset 5 (mcallV (F_line_behind n) (mcons (mopd 0) (mcons (mopd 4) (mcons (mv (mcb gTup (mcons (mv (mlc (mitT (mvar 2)) (mName 6) (mtest (mbin dNe (mopd 6) (mopd 3))) (mvar 6) [6])) mnil))) mnil)))))
  (sseq (sif (mtest (mbin gNotN (mopd 5) (mv (mret .none)))) (sseq (sretv 5)
  snext) snext)
  snext)) snext)
  snext))) PyData.str (fun (ρ : Rho) => ∃ (j3 j4 j5 : Sl), ρ = [.val (nbD ats), .val (tupS L), .val (tupS R), j3, j4, j5, .emp]) (fun (K : List Str) r ρ => r = .val (tupS K) ∧ outsOf [.v (nbD ats), .v (tupS L), .v (tupS R)] ρ = some []) (fun t => if decide (FP ats L t) = true then LB ats n (L ++ [t]) (R.filter fun x => !decide (x = t)) else none) R ρ0 ⟨_, _, _, rfl⟩ (by
        rintro t ht ρ ⟨j3, j4, j5, rfl⟩
        have htt := hR t ht
        refine ⟨[.val (nbD ats), .val (tupS L), .val (tupS R), .val (.str t), j4, j5, .emp], rfl, ?_⟩
        have s4 : sset 4 (mbin dAdd (mopd 1) (mv (mtup (mcons (mopd 3) mnil)))) [.val (nbD ats), .val (tupS L), .val (tupS R), .val (.str t), j4, j5, .emp] = .next [.val (nbD ats), .val (tupS L), .val (tupS R), .val (.str t), .val (tupS (L ++ [t])), j5, .emp] := s_set (ρ1 := [.val (nbD ats), .val (tupS L), .val (tupS R), .val (.str t), j4, j5, .emp]) (d := tupS (L ++ [t])) (e_bin rfl (e_v (e_tup (e_one rfl) (by show 1 ≤ 1000; omega) rfl)) rfl rfl (app_tupS (M := [t]) (by show L.length + 1 ≤ 1000; omega)))
        let ρ2 : Rho := [.val (nbD ats), .val (tupS L), .val (tupS R), .val (.str t), .val (tupS (L ++ [t])), j5, .emp]
        have tf : mtest (mcallV F_fits_line (mcons (mopd 0) (mcons (mopd 4) mnil))) ρ2 = .ok (decide (FP ats L t)) ρ2 := e_test (mcallV_val (e_two rfl rfl) rfl rfl (fits_val ok hL htt) rfl)
        cases hf : decide (FP ats L t) with
        | false => exact .inl ⟨if_neg Bool.false_ne_true, ρ2, s_seq s4 (s_seq (s_if tf (fun z => by rw [hf] at z; cases z) fun _ => rfl) rfl), _, _, _, rfl⟩
        | true =>
          have shorter : (R.filter fun x => !decide (x = t)).length < R.length := List.length_filter_lt_length_iff_exists.mpr ⟨t, ht, by simp⟩
          have fc : mcb gTup (mcons (mv (mlc (mitT (mvar 2)) (mName 6) (mtest (mbin dNe (mopd 6) (mopd 3))) (mvar 6) [6])) mnil) ρ2 = .ok (tupS (R.filter fun x => !decide (x = t))) ρ2 := e_cb1 (e_v (m_lc (L := R) PyData.str (fun x => !decide (x = t)) PyData.str rfl rfl (lineN_big (by omega)) fun x hx => ⟨[.val (nbD ats), .val (tupS L), .val (tupS R), .val (.str t), .val (tupS (L ++ [t])), j5, .val (.str x)], rfl, e_test (e_bin rfl rfl rfl rfl (ne_str x t)), fun _ => rfl, rfl⟩)) rfl rfl
          have ed := behind_val n (L ++ [t]) (R.filter fun x => !decide (x = t)) (fun u hu => (List.mem_append.mp hu).elim (hL u) fun z => List.mem_singleton.mp z ▸ htt) (fun u hu => hR u (List.mem_filter.mp hu).1) (by omega) (by rw [List.length_append]; show L.length + 1 + _ ≤ 6; omega)
          rw [if_pos rfl]
          cases hB : LB ats n (L ++ [t]) (R.filter fun x => !decide (x = t)) with
          | none =>
            rw [hB] at ed
            let ρ3 : Rho := [.val (nbD ats), .val (tupS L), .val (tupS R), .val (.str t), .val (tupS (L ++ [t])), .val .none, .emp]
            have s5 : sset 5 (mcallV (F_line_behind n) (mcons (mopd 0) (mcons (mopd 4) (mcons (mv (mcb gTup (mcons (mv (mlc (mitT (mvar 2)) (mName 6) (mtest (mbin dNe (mopd 6) (mopd 3))) (mvar 6) [6])) mnil))) mnil)))) ρ2 = .next ρ3 := s_set (ρ1 := ρ2) (d := .none) (mcallV_val (e_three rfl rfl (e_v fc)) rfl rfl ed rfl)
            exact .inl ⟨rfl, ρ3, s_seq s4 (s_seq (s_if tf (fun _ => s_seq s5 (s_seq (s_if (k := false) (e_test (e_bin rfl rfl rfl rfl rfl)) (fun z => by cases z) fun _ => rfl) rfl)) fun z => by rw [hf] at z; cases z) rfl), _, _, _, rfl⟩
          | some K =>
            rw [hB] at ed
            let ρ3 : Rho := [.val (nbD ats), .val (tupS L), .val (tupS R), .val (.str t), .val (tupS (L ++ [t])), .val (tupS K), .emp]
            have s5 : sset 5 (mcallV (F_line_behind n) (mcons (mopd 0) (mcons (mopd 4) (mcons (mv (mcb gTup (mcons (mv (mlc (mitT (mvar 2)) (mName 6) (mtest (mbin dNe (mopd 6) (mopd 3))) (mvar 6) [6])) mnil))) mnil)))) ρ2 = .next ρ3 := s_set (ρ1 := ρ2) (d := tupS K) (mcallV_val (e_three rfl rfl (e_v fc)) rfl rfl ed rfl)
            exact .inr ⟨K, .val (tupS K), ρ3, rfl, s_seq s4 (s_seqR (s_if tf (fun _ => s_seq s5 (s_seqR (s_if (k := true) (e_test (e_bin rfl rfl rfl rfl rfl)) (fun _ => s_retvV rfl) fun z => by cases z))) fun z => by rw [hf] at z; cases z)), rfl, rfl⟩)
      rcases lp with ⟨oo, ρ', e, j3, j4, j5, rfl⟩ | ⟨K, r, ρ', oo, e, rfl, ho⟩
      · rw [oo]
        exact mkF_at ρ0 rfl rfl rfl (s_seq (s_if tst (fun z => by rw [hE] at z; cases z) fun _ => rfl) (s_seq (s_for (ρ1 := ρ0) rfl e) (s_ret rfl))) rfl
      · rw [oo]
        exact mkF_at ρ0 rfl rfl rfl (s_seq (s_if tst (fun z => by rw [hE] at z; cases z) fun _ => rfl) (s_seqR (s_for (ρ1 := ρ0) rfl e))) ho
theorem line_val {T : List Str} (hT : ∀ t ∈ T, t ∈ tabs ats) (l : T.length ≤ 6) : F_line_of [.v (qD h0 ats), .v (tupS T)] = .ret (.val (lnD (LB ats 8 [] T))) [] :=
  mkF_at [.val (qD h0 ats), .val (tupS T)] rfl rfl rfl (ρ := [.val (qD h0 ats), .val (tupS T)]) (s_ret (mcallV_val (e_three (e_v (mcallF_val (e_one rfl) rfl rfl (names_val ok) rfl)) (e_v (e_tup rfl (by show 0 ≤ 1000; omega) rfl)) rfl) rfl rfl (behind_val ok 8 [] T (fun _ h => nomatch h) hT (by omega) (by show 0 + _ ≤ 6; omega)) rfl)) rfl
theorem grown_val : ∀ (n : Nat) (L R : List Str), (∀ t ∈ L, t ∈ tabs ats) → (∀ t ∈ R, t ∈ tabs ats) → R.length < n → L.length + R.length ≤ 6 → F__law_grown n [.v (nbD ats), .v (tupS L), .v (tupS R)] = .ret (.val (lnD (LB ats n L R))) []
  | 0, L, R, _, _, h, _ => absurd h (Nat.not_lt_zero _)
  | n + 1, L, R, hL, hR, hn, hs => by
    let ρ0 : Rho := [.val (nbD ats), .val (tupS L), .val (tupS R), .emp, .emp, .emp]
    have tst : mtest (mbin dEqNil (mopd 2) (mv (mtup mnil))) ρ0 = .ok (R.map PyData.str).isEmpty ρ0 := e_test (e_bin rfl (e_v (e_tup rfl (by show 0 ≤ 1000; omega) rfl)) rfl rfl rfl)
    rw [len_nil_map] at tst
    unfold LB
    cases hE : R.isEmpty with
    | true =>
      rw [if_pos rfl]
      exact mkF_at ρ0 rfl rfl rfl (ρ := ρ0) (s_seqR (s_if tst (fun _ => s_retvV rfl) fun z => by rw [hE] at z; cases z)) rfl
    | false =>
      rw [if_neg Bool.false_ne_true]
      have lp := sloop_find (m := mName 3) (t := (sseq (sif (mtest (mcallV F__law_is_end (mcons (mopd 0) (mcons (mopd 1) (mcons (mopd 3) mnil))))) (sseq (sset 4 (mcallV (F__law_grown n) (mcons (mopd 0) (mcons (mv (mbin dAdd (mopd 1) (mv (mtup (mcons (mopd 3) mnil))))) (mcons (mv (mcb gTup (mcons (mv (mlc (mitT (mvar 2)) (mName 5) (mtest (mbin dNe (mopd 5) (mopd 3))) (mvar 5) [5])) mnil))) mnil)))))
  (sseq (sif (mtest (mbin gNotN (mopd 4) (mv (mret .none)))) (sseq (sretv 4)
  snext) snext)
  snext)) snext)
  snext)) PyData.str (fun (ρ : Rho) => ∃ (j3 j4 : Sl), ρ = [.val (nbD ats), .val (tupS L), .val (tupS R), j3, j4, .emp]) (fun (K : List Str) r ρ => r = .val (tupS K) ∧ outsOf [.v (nbD ats), .v (tupS L), .v (tupS R)] ρ = some []) (fun t => if decide (FP ats L t) = true then LB ats n (L ++ [t]) (R.filter fun x => !decide (x = t)) else none) R ρ0 ⟨_, _, rfl⟩ (by
        rintro t ht ρ ⟨j3, j4, rfl⟩
        have htt := hR t ht
        let ρ2 : Rho := [.val (nbD ats), .val (tupS L), .val (tupS R), .val (.str t), j4, .emp]
        refine ⟨ρ2, rfl, ?_⟩
        have tf : mtest (mcallV F__law_is_end (mcons (mopd 0) (mcons (mopd 1) (mcons (mopd 3) mnil)))) ρ2 = .ok (decide (FP ats L t)) ρ2 := e_test (mcallV_val (e_three rfl rfl rfl) rfl rfl (isend_val ok hL (by omega) htt) rfl)
        cases hf : decide (FP ats L t) with
        | false => exact .inl ⟨if_neg Bool.false_ne_true, ρ2, s_seq (s_if tf (fun z => by rw [hf] at z; cases z) fun _ => rfl) rfl, _, _, rfl⟩
        | true =>
          have shorter : (R.filter fun x => !decide (x = t)).length < R.length := List.length_filter_lt_length_iff_exists.mpr ⟨t, ht, by simp⟩
          have fa : mbin dAdd (mopd 1) (mv (mtup (mcons (mopd 3) mnil))) ρ2 = .ok (tupS (L ++ [t])) ρ2 := e_bin rfl (e_v (e_tup (e_one rfl) (by show 1 ≤ 1000; omega) rfl)) rfl rfl (app_tupS (M := [t]) (by show L.length + 1 ≤ 1000; omega))
          have fc : mcb gTup (mcons (mv (mlc (mitT (mvar 2)) (mName 5) (mtest (mbin dNe (mopd 5) (mopd 3))) (mvar 5) [5])) mnil) ρ2 = .ok (tupS (R.filter fun x => !decide (x = t))) ρ2 := e_cb1 (e_v (m_lc (L := R) PyData.str (fun x => !decide (x = t)) PyData.str rfl rfl (lineN_big (by omega)) fun x hx => ⟨[.val (nbD ats), .val (tupS L), .val (tupS R), .val (.str t), j4, .val (.str x)], rfl, e_test (e_bin rfl rfl rfl rfl (ne_str x t)), fun _ => rfl, rfl⟩)) rfl rfl
          have ed := grown_val n (L ++ [t]) (R.filter fun x => !decide (x = t)) (fun u hu => (List.mem_append.mp hu).elim (hL u) fun z => List.mem_singleton.mp z ▸ htt) (fun u hu => hR u (List.mem_filter.mp hu).1) (by omega) (by rw [List.length_append]; show L.length + 1 + _ ≤ 6; omega)
          rw [if_pos rfl]
          cases hB : LB ats n (L ++ [t]) (R.filter fun x => !decide (x = t)) with
          | none =>
            rw [hB] at ed
            let ρ3 : Rho := [.val (nbD ats), .val (tupS L), .val (tupS R), .val (.str t), .val .none, .emp]
            have s5 : sset 4 (mcallV (F__law_grown n) (mcons (mopd 0) (mcons (mv (mbin dAdd (mopd 1) (mv (mtup (mcons (mopd 3) mnil))))) (mcons (mv (mcb gTup (mcons (mv (mlc (mitT (mvar 2)) (mName 5) (mtest (mbin dNe (mopd 5) (mopd 3))) (mvar 5) [5])) mnil))) mnil)))) ρ2 = .next ρ3 := s_set (ρ1 := ρ2) (d := .none) (mcallV_val (e_three rfl (e_v fa) (e_v fc)) rfl rfl ed rfl)
            exact .inl ⟨rfl, ρ3, s_seq (s_if tf (fun _ => s_seq s5 (s_seq (s_if (k := false) (e_test (e_bin rfl rfl rfl rfl rfl)) (fun z => by cases z) fun _ => rfl) rfl)) fun z => by rw [hf] at z; cases z) rfl, _, _, rfl⟩
          | some K =>
            rw [hB] at ed
            let ρ3 : Rho := [.val (nbD ats), .val (tupS L), .val (tupS R), .val (.str t), .val (tupS K), .emp]
            have s5 : sset 4 (mcallV (F__law_grown n) (mcons (mopd 0) (mcons (mv (mbin dAdd (mopd 1) (mv (mtup (mcons (mopd 3) mnil))))) (mcons (mv (mcb gTup (mcons (mv (mlc (mitT (mvar 2)) (mName 5) (mtest (mbin dNe (mopd 5) (mopd 3))) (mvar 5) [5])) mnil))) mnil)))) ρ2 = .next ρ3 := s_set (ρ1 := ρ2) (d := tupS K) (mcallV_val (e_three rfl (e_v fa) (e_v fc)) rfl rfl ed rfl)
            exact .inr ⟨K, .val (tupS K), ρ3, rfl, s_seqR (s_if tf (fun _ => s_seq s5 (s_seqR (s_if (k := true) (e_test (e_bin rfl rfl rfl rfl rfl)) (fun _ => s_retvV rfl) fun z => by cases z))) fun z => by rw [hf] at z; cases z), rfl, rfl⟩)
      rcases lp with ⟨oo, ρ', e, j3, j4, rfl⟩ | ⟨K, r, ρ', oo, e, rfl, ho⟩
      · rw [oo]
        exact mkF_at ρ0 rfl rfl rfl (s_seq (s_if tst (fun z => by rw [hE] at z; cases z) fun _ => rfl) (s_seq (s_for (ρ1 := ρ0) rfl e) (s_ret rfl))) rfl
      · rw [oo]
        exact mkF_at ρ0 rfl rfl rfl (s_seq (s_if tst (fun z => by rw [hE] at z; cases z) fun _ => rfl) (s_seqR (s_for (ρ1 := ρ0) rfl e))) ho
theorem lline_val {T : List Str} (hT : ∀ t ∈ T, t ∈ tabs ats) (l : T.length ≤ 6) : F__law_first_line [.v (qD h0 ats), .v (tupS T)] = .ret (.val (lnD (LB ats 8 [] T))) [] :=
  mkF_at [.val (qD h0 ats), .val (tupS T)] rfl rfl rfl (ρ := [.val (qD h0 ats), .val (tupS T)]) (s_ret (mcallV_val (e_three (e_v (mcallF_val (e_one rfl) rfl rfl (own_val ok) rfl)) (e_v (e_tup rfl (by show 0 ≤ 1000; omega) rfl)) (e_v (e_cb1 rfl rfl rfl))) rfl rfl (grown_val ok 8 [] T (fun _ h => nomatch h) hT (by omega) (by show 0 + _ ≤ 6; omega)) rfl)) rfl
end
end G

set_option Elab.async false
set_option linter.all false
set_option maxRecDepth 100000
namespace G
open PySem L2 VS
theorem e_orT {f g : M Bool} {ρ ρ1 : Rho} (h : f ρ = .ok true ρ1) : morT f g ρ = .ok true ρ1 := by
  unfold morT mbind; rw [h]; rfl
theorem e_orF {f g : M Bool} {ρ ρ1 : Rho} {r : Res Bool} (h : f ρ = .ok false ρ1) (h2 : g ρ1 = r) : morT f g ρ = r := by
  unfold morT mbind; rw [h]; exact h2
/-! ### any things -/
def T14 : List Str := T12 ++ (["", "nope"] : List Str)
theorem okT14 {s : Str} (h : s ∈ T14) : okT s = true := (by decide +kernel : ∀ s ∈ T14, okT s = true) s h
mutual
def lv : D → Bool
  | .none => true
  | .bool _ => true
  | .int i => decide (i = 0)
  | .str s => decide (s ∈ T14)
  | .list xs => lvs xs
  | .tuple xs => lvs xs
  | .dict kv => kv.isEmpty
def lvs : List D → Bool
  | [] => true
  | x :: xs => lv x && lvs xs
end
theorem lvs_iff : ∀ {xs : List D}, lvs xs = true ↔ ∀ x ∈ xs, lv x = true
  | [] => ⟨fun _ _ h => (nomatch h), fun _ => rfl⟩
  | x :: xs => by
    show (lv x && lvs xs) = true ↔ _
    rw [Bool.and_eq_true, lvs_iff]
    exact ⟨fun ⟨a, b⟩ y hy => (List.mem_cons.mp hy).elim (fun z => z ▸ a) (b y), fun h => ⟨h x List.mem_cons_self, fun y hy => h y (List.mem_cons_of_mem _ hy)⟩⟩
def isT : D → Bool
  | .tuple _ => true
  | _ => false
theorem tyIs_tup (d : D) : tyIs (dty d) "tuple" = isT d := by cases d <;> rfl
theorem e_isT {f : M Op} {a : Op} {x : D} {ρ ρ1 : Rho} (h1 : f ρ = .ok a ρ1) (h2 : mder a ρ1 = .ok x ρ1) : mtest (misi "tuple" f) ρ = .ok (isT x) ρ1 := by
  rw [← tyIs_tup]; exact e_test (e_isi h1 h2)
theorem isT_iff {d : D} (h : isT d = true) : ∃ xs, d = .tuple xs := by
  cases d with
  | tuple xs => exact ⟨xs, rfl⟩
  | none => cases h
  | bool _ => cases h
  | int _ => cases h
  | str _ => cases h
  | list _ => cases h
  | dict _ => cases h
theorem e_isSV {f : M Op} {a : Op} {x : D} {ρ ρ1 : Rho} (h1 : f ρ = .ok a ρ1) (h2 : mder a ρ1 = .ok x ρ1) : misi "str" f ρ = .ok (.bool (isS x)) ρ1 := by
  rw [← tyIs_str]; exact e_isi h1 h2
def okE (T : List Str) : D → Bool
  | .str s => decide (s ∈ T)
  | _ => false
theorem okE_isS (T : List Str) (x : D) : (isS x && okE T x) = okE T x := by cases x <;> rfl
theorem isS_iff {d : D} (h : isS d = true) : ∃ s, d = .str s := by
  cases d with
  | str s => exact ⟨s, rfl⟩
  | none => cases h
  | bool _ => cases h
  | int _ => cases h
  | tuple _ => cases h
  | list _ => cases h
  | dict _ => cases h
theorem all_okE {T : List Str} : ∀ {xs : List D}, xs.all (okE T) = true → ∃ L : List Str, xs = L.map .str ∧ ∀ t ∈ L, t ∈ T
  | [], _ => ⟨[], rfl, fun _ h => nomatch h⟩
  | x :: xs, h => by
    rw [List.all_cons, Bool.and_eq_true] at h
    obtain ⟨L, rfl, hL⟩ := all_okE h.2
    have h1 := h.1
    obtain ⟨s, rfl⟩ := isS_iff (d := x) (by rw [← okE_isS] at h1; exact (Bool.and_eq_true_iff.mp h1).1)
    exact ⟨s :: L, rfl, fun t ht => (List.mem_cons.mp ht).elim (fun z => z ▸ of_decide_eq_true h1) (hL t)⟩
theorem okE_all {T L : List Str} (h : ∀ t ∈ L, t ∈ T) : (L.map PyData.str).all (okE T) = true := by
  rw [List.all_map, List.all_eq_true]
  exact fun t ht => decide_eq_true (h t ht)
theorem getS_map : ∀ L : List Str, (L.map PyData.str).filterMap getS = L
  | [] => rfl
  | x :: L => by rw [List.map_cons, List.filterMap_cons_some (show getS (.str x) = some x from rfl), getS_map L]
def AT (T : List Str) (d : D) : Bool := match d with
  | .tuple xs => xs.all (okE T) && decide ((ddS (xs.filterMap getS)).length = xs.length)
  | _ => false
theorem AT_tup {T : List Str} {d : D} (h : AT T d = true) : ∃ L, d = tupS L ∧ ∀ t ∈ L, t ∈ T := by
  cases d with
  | tuple xs =>
    obtain ⟨L, rfl, hL⟩ := all_okE (Bool.and_eq_true_iff.mp h).1
    exact ⟨L, rfl, hL⟩
  | none => cases h
  | bool _ => cases h
  | int _ => cases h
  | str _ => cases h
  | list _ => cases h
  | dict _ => cases h
theorem AT_not {T : List Str} {d : D} (h : isT d = false) : AT T d = false := by cases d <;> first | rfl | cases h
theorem tupS_inj {L M : List Str} (h : tupS L = tupS M) : L = M := by
  have := PyData.tuple.inj h
  have q := congrArg (List.filterMap getS) this
  rwa [getS_map, getS_map] at q
theorem any_filter_nil {α : Type} (L : List α) (p : α → Bool) (f : α → D) : (!((L.filter p).map f).isEmpty) = L.any p := by rw [len_nil_map, isEmpty_filter]
theorem eq_len (a b : Nat) : dEq (.int a) (.int b) = some (.bool (decide (a = b))) := by
  rw [eq_int]
  congr 3
  exact propext ⟨fun h => by omega, fun h => by omega⟩
theorem ne_len (a b : Nat) : dNe (.int a) (.int b) = some (.bool (!decide (a = b))) := by
  rw [ne_int]
  congr 4
  exact propext ⟨fun h => by omega, fun h => by omega⟩
theorem len_tup (xs : List D) : gLen [.tuple xs] = some (.int xs.length) := rfl
section
variable {T : List Str} (hT : ∀ t ∈ T, okT t = true) {d : D}
include hT
theorem are_val (hd : lv d = true) (hw : ∀ xs, d = .tuple xs → xs.length ≤ 900) : F_are_tables [.v (tupS T), .v d] = .ret (.val (.bool (AT T d))) [] := by
  let ρ0 : Rho := [.val (tupS T), .val d, .emp]
  have i1 : mnotT (mtest (misi "tuple" (mopd 1))) ρ0 = .ok (!isT d) ρ0 := e_not (e_isT rfl rfl)
  cases hq : isT d with
  | false =>
    rw [hq] at i1
    rw [AT_not hq]
    exact mkF_at ρ0 rfl rfl rfl (ρ := ρ0) (s_seqR (s_if (e_orT i1) (fun _ => s_ret rfl) fun z => by cases z)) rfl
  | true =>
    rw [hq] at i1
    obtain ⟨xs, rfl⟩ := isT_iff hq
    have lx := hw xs rfl
    have hx := lvs_iff.mp (show lvs xs = true from hd)
    have i2 : mnotT (mtest (mcb gAll (mcons (mv (mlc (mitT (mvar 1)) (mName 2) (mret true) (mandV (misi "str" (mopd 2)) (mbin dIn (mopd 2) (mopd 0))) [2])) mnil))) ρ0 = .ok (!xs.all (okE T)) ρ0 := by
      refine e_not (e_test (e_cb1 (e_v (mlc_all (fun x => .bool (okE T x)) rfl rfl (lineN_big (by omega)) fun x hx' => ⟨[.val (tupS T), .val (.tuple xs), .val x], rfl, ?_, rfl⟩)) rfl (all_bools _ _)))
      rw [← okE_isS]
      refine e_andV (e_isSV rfl rfl) fun z => ?_
      obtain ⟨s, rfl⟩ := isS_iff z
      exact e_bin rfl rfl rfl rfl (in_tupS (okT14 (of_decide_eq_true (hx _ hx'))) hT)
    cases ha : xs.all (okE T) with
    | false =>
      rw [ha] at i2
      rw [show AT T (.tuple xs) = false by show (xs.all (okE T) && _) = false; rw [ha]; rfl]
      exact mkF_at ρ0 rfl rfl rfl (ρ := ρ0) (s_seqR (s_if (e_orF i1 i2) (fun _ => s_ret rfl) fun z => by cases z)) rfl
    | true =>
      rw [ha] at i2
      obtain ⟨L, rfl, hL⟩ := all_okE ha
      rw [List.length_map] at lx
      refine mkF_at ρ0 rfl rfl rfl (ρ := ρ0) (s_seq (s_if (e_orF i1 i2) (fun z => by cases z) fun _ => rfl) (s_ret (e_bin (e_v (e_lenset (L := L) rfl rfl (by omega))) (e_v (e_cb1 rfl rfl (len_tupS L))) rfl rfl ?_))) rfl
      rw [eq_len]
      show _ = some (PyData.bool ((L.map PyData.str).all (okE T) && decide ((ddS ((L.map PyData.str).filterMap getS)).length = (L.map PyData.str).length)))
      rw [ha, getS_map, List.length_map]; rfl
end
/-! ### the judge of lines -/
noncomputable def SL (ats : List Atom) (T : List Str) (d : D) : Bool := match d with
  | .tuple xs => AT T (.tuple xs) && (decide (xs.length = T.length) && decide (LP ats (xs.filterMap getS)))
  | _ => false
theorem SL_AT {ats : List Atom} {T : List Str} {d : D} (h : AT T d = false) : SL ats T d = false := by
  cases d with
  | tuple xs => show (AT T (.tuple xs) && _) = false; rw [h]; rfl
  | none => rfl
  | bool _ => rfl
  | int _ => rfl
  | str _ => rfl
  | list _ => rfl
  | dict _ => rfl
theorem SL_tup {ats : List Atom} {T L : List Str} (h : AT T (tupS L) = true) : SL ats T (tupS L) = (decide (L.length = T.length) && decide (LP ats L)) := by
  show (AT T (tupS L) && (decide ((L.map PyData.str).length = T.length) && decide (LP ats ((L.map PyData.str).filterMap getS)))) = _
  rw [h, getS_map, List.length_map]; rfl
noncomputable instance preDec (ats : List Atom) (L : List Str) (i : Nat) : Decidable (∀ x, L[i]? = some x → FP ats (L.take i) x) := Classical.propDecidable _
theorem pre_line (ats : List Atom) (L : List Str) : ((List.range L.length).all fun i => decide (∀ x, L[i]? = some x → FP ats (L.take i) x)) = decide (LP ats L) := by
  rw [Bool.eq_iff_iff, List.all_eq_true, decide_eq_true_iff]
  constructor
  · intro h i j k a m c hij hjk ea em ec
    have q := of_decide_eq_true (h k (List.mem_range.mpr (List.getElem?_eq_some_iff.mp ec).1)) c ec
    exact q i j a m hij (by rw [List.getElem?_take_of_lt (by omega)]; exact ea) (by rw [List.getElem?_take_of_lt (by omega)]; exact em)
  · intro h k hk
    refine decide_eq_true fun x ex i j a m hij ea em => ?_
    have lj := (List.getElem?_eq_some_iff.mp em).1
    rw [List.length_take] at lj
    rw [List.getElem?_take_of_lt (by omega)] at ea em
    exact h i j k a m x hij (by omega) ea em ex
section
variable {h0 : D} {ats : List Atom} (ok : QOk ats)
include ok
theorem shline_val {T : List Str} (hT : ∀ t ∈ T, t ∈ tabs ats) (lT : T.length ≤ 6) {d : D} (hd : lv d = true) (hw : ∀ xs, d = .tuple xs → xs.length ≤ 900) : F_shows_line [.v (qD h0 ats), .v (tupS T), .v d] = .ret (.val (.bool (SL ats T d))) [] := by
  let ρ0 : Rho := [.val (qD h0 ats), .val (tupS T), .val d, .emp, .emp]
  have i1 : mnotT (mtest (mcallV F_are_tables (mcons (mopd 1) (mcons (mopd 2) mnil)))) ρ0 = .ok (!AT T d) ρ0 := e_not (e_test (mcallV_val (e_two rfl rfl) rfl rfl (are_val (fun t ht => tab_ok ok (hT t ht)) hd hw) rfl))
  cases ha : AT T d with
  | false =>
    rw [ha] at i1
    rw [SL_AT ha]
    exact mkF_at ρ0 rfl rfl rfl (ρ := ρ0) (s_seqR (s_if (e_orT i1) (fun _ => s_ret rfl) fun z => by cases z)) rfl
  | true =>
    rw [ha] at i1
    obtain ⟨L, rfl, hL⟩ := AT_tup ha
    rw [SL_tup ha]
    have i2 := e_orF i1 (e_test (e_bin (f := mv (mcb gLen (mcons (mopd 2) mnil))) (g := mv (mcb gLen (mcons (mopd 1) mnil))) (e_v (e_cb1 rfl rfl (len_tupS L))) (e_v (e_cb1 rfl rfl (len_tupS T))) rfl rfl (ne_len L.length T.length)))
    cases hl : decide (L.length = T.length) with
    | false =>
      rw [hl] at i2
      exact mkF_at ρ0 rfl rfl rfl (ρ := ρ0) (s_seqR (s_if i2 (fun _ => s_ret rfl) fun z => by cases z)) rfl
    | true =>
      rw [hl] at i2
      have hl := of_decide_eq_true hl
      let ρ1 : Rho := [.val (qD h0 ats), .val (tupS T), .val (tupS L), .val (nbD ats), .emp]
      have s3 : sset 3 (mcallF F_names_by_table (mcons (mopd 0) mnil)) ρ0 = .next ρ1 := s_set (ρ1 := ρ0) (d := nbD ats) (mcallF_val (e_one rfl) rfl rfl (names_val ok) rfl)
      refine mkF_at ρ0 rfl rfl rfl (ρ := ρ1) (s_seq (s_if i2 (fun z => by cases z) fun _ => rfl) (s_seq s3 (s_ret ?_))) rfl
      rw [Bool.true_and, ← pre_line]
      refine e_cb1 (e_v (m_lca (L := List.range L.length) (fun i : Nat => .int (1 + (i : Int))) (fun i => .bool (decide (∀ x, L[i]? = some x → FP ats (L.take i) x))) ?_ rfl (lineN_big (by rw [List.length_range]; omega)) fun i hi => ⟨[.val (qD h0 ats), .val (tupS T), .val (tupS L), .val (nbD ats), .val (.int (1 + (i : Int)))], rfl, ?_, rfl⟩)) rfl (all_bools _ _)
      · have e := e_R2 (f := mcons (mv (mret (.int 1))) (mcons (mv (mbin dAdd (mv (mcb gLen (mcons (mopd 2) mnil))) (mv (mret (.int 1))))) mnil)) (ρ := ρ1) (i := 1) (j := (L.length : Int) + 1) (e_two rfl (e_v (e_bin (e_v (e_cb1 rfl rfl (len_tupS L))) rfl rfl rfl rfl))) rfl (by
          unfold rgOk
          rw [decide_eq_true (by omega : -(2 ^ 62) ≤ (L.length : Int) + 1), decide_eq_true (by omega : (L.length : Int) + 1 < 2 ^ 62)]; rfl)
        rw [e]
        unfold rangeD
        rw [show ((L.length : Int) + 1 - 1).toNat = L.length by omega]
      · have li := List.mem_range.mp hi
        have ei : L[i]? = some L[i] := List.getElem?_eq_getElem li
        have et : L.take (i + 1) = L.take i ++ [L[i]] := by rw [List.take_succ, ei]; rfl
        have fv := fits_val ok (M := L.take i) (l := L[i]) (fun t ht => hT t (hL t (List.mem_of_mem_take ht))) (hT _ (hL _ (List.getElem_mem li)))
        have eb : decide (∀ x, L[i]? = some x → FP ats (L.take i) x) = decide (FP ats (L.take i) L[i]) := by
          rw [Bool.eq_iff_iff, decide_eq_true_iff, decide_eq_true_iff]
          exact ⟨fun h => h _ ei, fun h x ex => by rw [ei] at ex; cases ex; exact h⟩
        rw [eb]
        have ds : dSl (tupS L) none (some (1 + (i : Int))) = some (tupS (L.take i ++ [L[i]])) := by
          rw [show (1 + (i : Int)) = ((i + 1 : Nat) : Int) by omega, sl_take, et]
        exact mcallV_val (e_two rfl (e_v (e_slice rfl rfl (e_part rfl) rfl ds))) rfl rfl fv rfl
end
end G

set_option Elab.async false
set_option linter.all false
set_option maxRecDepth 100000
namespace G
open PySem L2 VS
/-! ### chains judged -/
def Lk (ats : List Atom) (past a b : Str) : Prop := ∃ n ∈ nm ats a, n ∈ nm ats b ∧ n ∉ nm ats past
def CH (ats : List Atom) (one other past : Str) (d : D) : Prop := ∃ L : List Str, d = tupS L ∧ 2 ≤ L.length ∧ (∀ t ∈ L, t ∈ tabs ats) ∧ L[0]? = some one ∧ L.getLast? = some other ∧ ∀ q ∈ L.zip (L.drop 1), Lk ats past q.1 q.2
noncomputable instance chDec (ats : List Atom) (one other past : Str) (d : D) : Decidable (CH ats one other past d) := Classical.propDecidable _
theorem CH_not {ats : List Atom} {one other past : Str} {d : D} (h : isT d = false) : ¬ CH ats one other past d := by
  rintro ⟨L, rfl, _⟩; cases h
theorem zip_l {L : List Str} {q : Str × Str} (h : q ∈ L.zip (L.drop 1)) : q.1 ∈ L ∧ q.2 ∈ L := ⟨(List.of_mem_zip h).1, List.mem_of_mem_drop (List.of_mem_zip h).2⟩
theorem any_lk {ats : List Atom} {past a b : Str} : ((nm ats a).any fun n => decide (n ∈ nm ats b) && !decide (n ∈ nm ats past)) = true ↔ Lk ats past a b := by
  rw [List.any_eq_true]
  constructor
  · rintro ⟨n, hn, h⟩
    obtain ⟨x, y⟩ := Bool.and_eq_true_iff.mp h
    exact ⟨n, hn, of_decide_eq_true x, by simpa using y⟩
  · rintro ⟨n, hn, h1, h2⟩
    exact ⟨n, hn, by rw [decide_eq_true h1, decide_eq_false h2]; rfl⟩
section
variable {h0 : D} {ats : List Atom} (ok : QOk ats)
include ok
theorem chain_val {one other past : Str} (hp : past ∈ tabs ats) {d : D} (hd : lv d = true) (hw : ∀ xs, d = .tuple xs → xs.length ≤ 900) : F_is_chain [.v (nbD ats), .v (.str one), .v (.str other), .v (.str past), .v d] = .ret (.val (.bool (decide (CH ats one other past d)))) [] := by
  let ρ0 : Rho := [.val (nbD ats), .val (.str one), .val (.str other), .val (.str past), .val d, .emp, .emp, .emp, .emp]
  have key : ∀ b : Bool, (∃ ρ, t_is_chain ρ0 = .ret (.val (.bool b)) ρ ∧ outsOf [.v (nbD ats), .v (.str one), .v (.str other), .v (.str past), .v d] ρ = some []) → (CH ats one other past d ↔ b = true) → F_is_chain [.v (nbD ats), .v (.str one), .v (.str other), .v (.str past), .v d] = .ret (.val (.bool (decide (CH ats one other past d)))) [] := by
    rintro b ⟨ρ, e, q⟩ h
    rw [show decide (CH ats one other past d) = b by rw [Bool.eq_iff_iff, decide_eq_true_iff]; exact h]
    exact mkF_at ρ0 rfl rfl rfl e q
  have i1 : mnotT (mtest (misi "tuple" (mopd 4))) ρ0 = .ok (!isT d) ρ0 := e_not (e_isT rfl rfl)
  cases hq : isT d with
  | false =>
    rw [hq] at i1
    exact key false ⟨ρ0, s_seqR (s_if (e_orT i1) (fun _ => s_ret rfl) fun z => by cases z), rfl⟩ ⟨fun h => absurd h (CH_not hq), fun h => by cases h⟩
  | true =>
  rw [hq] at i1
  obtain ⟨xs, rfl⟩ := isT_iff hq
  have lx := hw xs rfl
  have hx := lvs_iff.mp (show lvs xs = true from hd)
  have i2 := e_orF i1 (e_test (e_bin (f := mv (mcb gLen (mcons (mopd 4) mnil))) (g := mv (mret (.int 2))) (e_v (e_cb1 rfl rfl (len_tup xs))) rfl rfl rfl (lt_nat xs.length 2)))
  cases h2 : decide (xs.length < 2) with
  | true =>
    rw [h2] at i2
    refine key false ⟨ρ0, s_seqR (s_if i2 (fun _ => s_ret rfl) fun z => by cases z), rfl⟩ ⟨?_, fun h => by cases h⟩
    rintro ⟨L, e, l2, _⟩
    have := PyData.tuple.inj e
    subst this
    rw [List.length_map] at h2
    have := of_decide_eq_true h2
    omega
  | false =>
  rw [h2] at i2
  have h2' : 2 ≤ xs.length := by have := of_decide_eq_false h2; omega
  have i3 : mnotT (mtest (mcb gAll (mcons (mv (mlc (mitT (mvar 4)) (mName 7) (mret true) (mandV (misi "str" (mopd 7)) (mbin dIn (mopd 7) (mopd 0))) [7])) mnil))) ρ0 = .ok (!xs.all (okE (tabs ats))) ρ0 := by
    refine e_not (e_test (e_cb1 (e_v (mlc_all (fun x => .bool (okE (tabs ats) x)) rfl rfl (lineN_big (by omega)) fun x hx' => ⟨[.val (nbD ats), .val (.str one), .val (.str other), .val (.str past), .val (.tuple xs), .emp, .emp, .val x, .emp], rfl, ?_, rfl⟩)) rfl (all_bools _ _)))
    rw [← okE_isS]
    refine e_andV (e_isSV rfl rfl) fun z => ?_
    obtain ⟨s, rfl⟩ := isS_iff z
    exact e_bin rfl rfl rfl rfl (in_keys (nbL_keys ats))
  have p1 := fun r (h : ((sseq (sif (morT (mtest (mbin dNe (mv (mbin dIx (mopd 4) (mv (mret (.int 0))))) (mopd 1))) (mtest (mbin dNe (mv (mbin dIx (mopd 4) (mv (mret (.int (-1)))))) (mopd 2)))) (sseq (sbind (mret (.bool false)) fun d ρ => .ret (.val d) ρ)
  snext) snext)
  (sseq (sfor (mitZ (mcons (mopd 4) (mcons (mv (mslice (mopd 4) (mpart (mret (.int 1))) (mret none))) mnil))) (mTup [(mName 5), (mName 6)]) (sseq (sif (mnotT (mtest (mcb gAny (mcons (mv (mlc (mitL (mbin dIx (mopd 0) (mopd 5))) (mName 8) (mret true) (mandV (mbin dIn (mopd 8) (mv (mbin dIx (mopd 0) (mopd 6)))) (mbin dNotIn (mopd 8) (mv (mbin dIx (mopd 0) (mopd 3))))) [8])) mnil)))) (sseq (sbind (mret (.bool false)) fun d ρ => .ret (.val d) ρ)
  snext) snext)
  snext))
  (sseq (sbind (mret (.bool true)) fun d ρ => .ret (.val d) ρ)
  snext))) : SM) ρ0 = r) (i3' : mnotT (mtest (mcb gAll (mcons (mv (mlc (mitT (mvar 4)) (mName 7) (mret true) (mandV (misi "str" (mopd 7)) (mbin dIn (mopd 7) (mopd 0))) [7])) mnil))) ρ0 = .ok false ρ0) => (s_seq (s_if i2 (fun z => by cases z) fun _ => rfl) (s_seq (s_if i3' (fun z => by cases z) fun _ => rfl) h) : t_is_chain ρ0 = r)
  cases ha : xs.all (okE (tabs ats)) with
  | false =>
    rw [ha] at i3
    refine key false ⟨ρ0, s_seq (s_if i2 (fun z => by cases z) fun _ => rfl) (s_seqR (s_if i3 (fun _ => s_ret rfl) fun z => by cases z)), rfl⟩ ⟨?_, fun h => by cases h⟩
    rintro ⟨L, e, _, hL, _⟩
    have := PyData.tuple.inj e
    subst this
    rw [okE_all hL] at ha; cases ha
  | true =>
  rw [ha] at i3
  obtain ⟨L, rfl, hL⟩ := all_okE ha
  rw [List.length_map] at lx h2'
  obtain ⟨a0, e0⟩ : ∃ a, L[0]? = some a := ⟨_, List.getElem?_eq_getElem (by omega)⟩
  obtain ⟨aL, eL⟩ : ∃ a, L.getLast? = some a := by
    rw [List.getLast?_eq_getElem?]
    exact ⟨_, List.getElem?_eq_getElem (by omega)⟩
  have i4 : morT (mtest (mbin dNe (mv (mbin dIx (mopd 4) (mv (mret (.int 0))))) (mopd 1))) (mtest (mbin dNe (mv (mbin dIx (mopd 4) (mv (mret (.int (-1)))))) (mopd 2))) ρ0 = .ok ((!decide (a0 = one)) || (!decide (aL = other))) ρ0 := e_or (e_test (e_bin (e_v (e_bin rfl rfl rfl rfl (ix_tupS (i := 0) e0))) rfl rfl rfl (ne_str _ _))) fun _ => e_test (e_bin (e_v (e_bin rfl rfl rfl rfl (ix_last eL))) rfl rfl rfl (ne_str _ _))
  cases h4 : (!decide (a0 = one)) || (!decide (aL = other)) with
  | true =>
    rw [h4] at i4
    refine key false ⟨ρ0, p1 _ (s_seqR (s_if i4 (fun _ => s_ret rfl) fun z => by cases z)) i3, rfl⟩ ⟨?_, fun h => by cases h⟩
    rintro ⟨M, e, _, _, m0, mL, _⟩
    cases tupS_inj (show tupS L = tupS M from e)
    rw [e0] at m0; rw [eL] at mL
    cases m0; cases mL
    rw [decide_eq_true rfl, decide_eq_true rfl] at h4; cases h4
  | false =>
  rw [h4] at i4
  obtain ⟨h5, h6⟩ := Bool.or_eq_false_iff.mp h4
  have h5 : a0 = one := by simpa using h5
  have h6 : aL = other := by simpa using h6
  subst h5 h6
  have lp := sloop_all (m := mTup [(mName 5), (mName 6)]) (t := (sseq (sif (mnotT (mtest (mcb gAny (mcons (mv (mlc (mitL (mbin dIx (mopd 0) (mopd 5))) (mName 8) (mret true) (mandV (mbin dIn (mopd 8) (mv (mbin dIx (mopd 0) (mopd 6)))) (mbin dNotIn (mopd 8) (mv (mbin dIx (mopd 0) (mopd 3))))) [8])) mnil)))) (sseq (sbind (mret (.bool false)) fun d ρ => .ret (.val d) ρ)
  snext) snext)
  snext)) (fun q : Str × Str => .tuple [.str q.1, .str q.2]) (fun (ρ : Rho) => ∃ (j5 j6 : Sl), ρ = [.val (nbD ats), .val (.str a0), .val (.str aL), .val (.str past), .val (tupS L), j5, j6, .emp, .emp]) (fun ρ => outsOf [.v (nbD ats), .v (.str a0), .v (.str aL), .v (.str past), .v (tupS L)] ρ = some []) (.val (.bool false)) (fun q => Lk ats past q.1 q.2) (L.zip (L.drop 1)) ρ0 ⟨_, _, rfl⟩ (by
    rintro ⟨a, b⟩ hab ρ ⟨j5, j6, rfl⟩
    obtain ⟨ha1, hb1⟩ := zip_l hab
    have ta := hL a ha1
    have tb := hL b hb1
    let ρ1 : Rho := [.val (nbD ats), .val (.str a0), .val (.str aL), .val (.str past), .val (tupS L), .val (.str a), .val (.str b), .emp, .emp]
    have an : mnotT (mtest (mcb gAny (mcons (mv (mlc (mitL (mbin dIx (mopd 0) (mopd 5))) (mName 8) (mret true) (mandV (mbin dIn (mopd 8) (mv (mbin dIx (mopd 0) (mopd 6)))) (mbin dNotIn (mopd 8) (mv (mbin dIx (mopd 0) (mopd 3))))) [8])) mnil))) ρ1 = .ok (!((nm ats a).any fun n => decide (n ∈ nm ats b) && !decide (n ∈ nm ats past))) ρ1 :=
      e_not (e_test (e_cb1 (e_v (m_lca (L := nm ats a) PyData.str (fun n => .bool (decide (n ∈ nm ats b) && !decide (n ∈ nm ats past))) (e_itL (e_bin rfl rfl rfl rfl (ix_nb ta))) rfl (lineN_big (by have := nm_len ok a; omega)) fun n hn => ⟨[.val (nbD ats), .val (.str a0), .val (.str aL), .val (.str past), .val (tupS L), .val (.str a), .val (.str b), .emp, .val (.str n)], rfl, e_andV (e_bin rfl (e_v (e_bin rfl rfl rfl rfl (ix_nb tb))) rfl rfl (in_txt (nm_ok ok a n hn) (nm_ok ok b))) fun _ => e_bin rfl (e_v (e_bin rfl rfl rfl rfl (ix_nb hp))) rfl rfl (notIn_txt (nm_ok ok a n hn) (nm_ok ok past)), rfl⟩)) rfl (any_bools _ _)))
    refine ⟨ρ1, rfl, ?_⟩
    cases hk : (nm ats a).any fun n => decide (n ∈ nm ats b) && !decide (n ∈ nm ats past) with
    | true =>
      rw [hk] at an
      exact .inl ⟨any_lk.mp hk, ρ1, s_seq (s_if an (fun z => by cases z) fun _ => rfl) rfl, _, _, rfl⟩
    | false =>
      rw [hk] at an
      exact .inr ⟨fun h => (by rw [any_lk.mpr h] at hk; cases hk), ρ1, s_seqR (s_if an (fun _ => s_ret rfl) fun z => by cases z), rfl⟩)
  have it : mitZ (mcons (mopd 4) (mcons (mv (mslice (mopd 4) (mpart (mret (.int 1))) (mret none))) mnil)) ρ0 = .ok ((L.zip (L.drop 1)).map fun q : Str × Str => .tuple [.str q.1, .str q.2]) ρ0 := by
    rw [← zipD_map PyData.str]
    exact e_itZt rfl (e_v (e_slice rfl (e_part rfl) rfl rfl (sl_drop L 1)))
  rcases lp with ⟨all, ρ', e, j5, j6, rfl⟩ | ⟨⟨q, hq1, nq⟩, ρ', e, ho⟩
  · exact key true ⟨_, p1 _ (s_seq (s_if i4 (fun z => by cases z) fun _ => rfl) (s_seq (s_for it e) (s_ret rfl))) i3, rfl⟩ ⟨fun _ => rfl, fun _ => ⟨L, rfl, h2', hL, e0, eL, all⟩⟩
  · refine key false ⟨ρ', p1 _ (s_seq (s_if i4 (fun z => by cases z) fun _ => rfl) (s_seqR (s_for it e))) i3, ho⟩ ⟨?_, fun h => by cases h⟩
    rintro ⟨M, em, _, _, _, _, h⟩
    cases tupS_inj (show tupS L = tupS M from em)
    exact absurd (h q hq1) nq
end
end G

set_option Elab.async false
set_option linter.all false
set_option maxRecDepth 100000
namespace G
open PySem L2 VS
mutual
/-- the longest list or tuple in a thing -/
def wid : D → Nat
  | .none => 0
  | .bool _ => 0
  | .int _ => 0
  | .str _ => 0
  | .list xs => max xs.length (wids xs)
  | .tuple xs => max xs.length (wids xs)
  | .dict _ => 0
def wids : List D → Nat
  | [] => 0
  | x :: xs => max (wid x) (wids xs)
end
theorem wids_iff {w : Nat} : ∀ {xs : List D}, wids xs ≤ w ↔ ∀ x ∈ xs, wid x ≤ w
  | [] => ⟨fun _ _ h => (nomatch h), fun _ => Nat.zero_le _⟩
  | x :: xs => by
    show max (wid x) (wids xs) ≤ w ↔ _
    rw [Nat.max_le, wids_iff]
    exact ⟨fun ⟨a, b⟩ y hy => (List.mem_cons.mp hy).elim (fun z => z ▸ a) (b y), fun h => ⟨h x List.mem_cons_self, fun y hy => h y (List.mem_cons_of_mem _ hy)⟩⟩
theorem wid_tup {w : Nat} {xs : List D} : wid (.tuple xs) ≤ w ↔ xs.length ≤ w ∧ ∀ x ∈ xs, wid x ≤ w := by
  show max xs.length (wids xs) ≤ w ↔ _
  rw [Nat.max_le, wids_iff]
theorem wid_lst {w : Nat} {xs : List D} : wid (.list xs) ≤ w ↔ xs.length ≤ w ∧ ∀ x ∈ xs, wid x ≤ w := by
  show max xs.length (wids xs) ≤ w ↔ _
  rw [Nat.max_le, wids_iff]
theorem wid_hw {d : D} (h : wid d ≤ 900) : ∀ xs, d = .tuple xs → xs.length ≤ 900 := by
  rintro xs rfl; exact (wid_tup.mp h).1
def TR (ats : List Atom) (T : List Str) (d : D) : Prop := ∃ x y, d = .tuple [x, y] ∧ AT T x = true ∧ ∃ a b c c1 c2 c3, x = tupS [a, b, c] ∧ y = .tuple [c1, c2, c3] ∧ CH ats a b c c1 ∧ CH ats a c b c2 ∧ CH ats b c a c3
noncomputable instance trDec (ats : List Atom) (T : List Str) (d : D) : Decidable (TR ats T d) := Classical.propDecidable _
theorem two_of {xs : List D} (h : xs.length = 2) : ∃ x y, xs = [x, y] := by
  match xs, h with
  | [x, y], _ => exact ⟨x, y, rfl⟩
theorem three_of {α : Type} {xs : List α} (h : xs.length = 3) : ∃ x y z, xs = [x, y, z] := by
  match xs, h with
  | [x, y, z], _ => exact ⟨x, y, z, rfl⟩
section
variable {h0 : D} {ats : List Atom} (ok : QOk ats) {T : List Str} (hT : ∀ t ∈ T, t ∈ tabs ats) {d : D} (hd : lv d = true) (hw : wid d ≤ 900)
include ok hT hd hw
theorem shtriad_val : F_shows_triad [.v (qD h0 ats), .v (tupS T), .v d] = .ret (.val (.bool (decide (TR ats T d)))) [] := by
  let ρ0 : Rho := [.val (qD h0 ats), .val (tupS T), .val d, .emp, .emp, .emp, .emp]
  have key : ∀ b : Bool, (∃ ρ, t_shows_triad ρ0 = .ret (.val (.bool b)) ρ ∧ outsOf [.v (qD h0 ats), .v (tupS T), .v d] ρ = some []) → (TR ats T d ↔ b = true) → F_shows_triad [.v (qD h0 ats), .v (tupS T), .v d] = .ret (.val (.bool (decide (TR ats T d)))) [] := by
    rintro b ⟨ρ, e, q⟩ h
    rw [show decide (TR ats T d) = b by rw [Bool.eq_iff_iff, decide_eq_true_iff]; exact h]
    exact mkF_at ρ0 rfl rfl rfl e q
  have i1 : mnotT (mtest (misi "tuple" (mopd 2))) ρ0 = .ok (!isT d) ρ0 := e_not (e_isT rfl rfl)
  cases hq : isT d with
  | false =>
    rw [hq] at i1
    refine key false ⟨ρ0, s_seqR (s_if (e_orT i1) (fun _ => s_ret rfl) fun z => by cases z), rfl⟩ ⟨?_, fun h => by cases h⟩
    rintro ⟨x, y, rfl, _⟩; cases hq
  | true =>
  rw [hq] at i1
  obtain ⟨xs, rfl⟩ := isT_iff hq
  have hx := lvs_iff.mp (show lvs xs = true from hd)
  have wx := (wid_tup.mp hw).2
  have i2 : mtest (mbin dNe (mv (mcb gLen (mcons (mopd 2) mnil))) (mv (mret (.int 2)))) ρ0 = .ok (!decide (xs.length = 2)) ρ0 := e_test (e_bin (e_v (e_cb1 rfl rfl (len_tup xs))) rfl rfl rfl (ne_len xs.length 2))
  cases h2 : decide (xs.length = 2) with
  | false =>
    rw [h2] at i2
    refine key false ⟨ρ0, s_seqR (s_if (e_orF i1 (e_orT i2)) (fun _ => s_ret rfl) fun z => by cases z), rfl⟩ ⟨?_, fun h => by cases h⟩
    rintro ⟨x, y, e, _⟩
    cases PyData.tuple.inj e; cases h2
  | true =>
  rw [h2] at i2
  obtain ⟨x, y, rfl⟩ := two_of (of_decide_eq_true h2)
  have lx := hx x (by simp)
  have ly := hx y (by simp)
  have wx1 := wx x (by simp)
  have wy1 := wx y (by simp)
  have x0 : mbin dIx (mopd 2) (mv (mret (.int 0))) ρ0 = .ok x ρ0 := e_bin rfl rfl rfl rfl rfl
  have i3 : mnotT (mtest (mcallV F_are_tables (mcons (mopd 1) (mcons (mv (mbin dIx (mopd 2) (mv (mret (.int 0))))) mnil)))) ρ0 = .ok (!AT T x) ρ0 := e_not (e_test (mcallV_val (e_two rfl (e_v x0)) rfl rfl (are_val (fun t ht => tab_ok ok (hT t ht)) lx (wid_hw wx1)) rfl))
  cases h3 : AT T x with
  | false =>
    rw [h3] at i3
    refine key false ⟨ρ0, s_seqR (s_if (e_orF i1 (e_orF i2 (e_orT i3))) (fun _ => s_ret rfl) fun z => by cases z), rfl⟩ ⟨?_, fun h => by cases h⟩
    rintro ⟨x', y', e, h, _⟩
    cases PyData.tuple.inj e; rw [h3] at h; cases h
  | true =>
  rw [h3] at i3
  obtain ⟨L, rfl, hL⟩ := AT_tup h3
  have i4 : mtest (mbin dNe (mv (mcb gLen (mcons (mv (mbin dIx (mopd 2) (mv (mret (.int 0))))) mnil))) (mv (mret (.int 3)))) ρ0 = .ok (!decide (L.length = 3)) ρ0 := e_test (e_bin (e_v (e_cb1 (e_v x0) rfl (len_tupS L))) rfl rfl rfl (ne_len L.length 3))
  have ij := e_orF i1 (e_orF i2 (e_orF i3 i4))
  cases h4 : decide (L.length = 3) with
  | false =>
    rw [h4] at ij
    refine key false ⟨ρ0, s_seqR (s_if ij (fun _ => s_ret rfl) fun z => by cases z), rfl⟩ ⟨?_, fun h => by cases h⟩
    rintro ⟨x', y', e, _, a, b, c, c1, c2, c3, ex, _⟩
    cases PyData.tuple.inj e
    cases tupS_inj ex; cases h4
  | true =>
  rw [h4] at ij
  obtain ⟨a, b, c, rfl⟩ := three_of (of_decide_eq_true h4)
  have ta : a ∈ tabs ats := hT a (hL a (by simp))
  have tb : b ∈ tabs ats := hT b (hL b (by simp))
  have tc : c ∈ tabs ats := hT c (hL c (by simp))
  have x1 : ∀ (k : Sl) (r : Rho), mbin dIx (mopd 2) (mv (mret (.int 1))) (.val (qD h0 ats) :: .val (tupS T) :: .val (.tuple [tupS [a, b, c], y]) :: k :: r) = .ok y (.val (qD h0 ats) :: .val (tupS T) :: .val (.tuple [tupS [a, b, c], y]) :: k :: r) := fun k r => e_bin rfl rfl rfl rfl rfl
  have i5 : mnotT (mtest (misi "tuple" (mv (mbin dIx (mopd 2) (mv (mret (.int 1))))))) ρ0 = .ok (!isT y) ρ0 := e_not (e_isT (e_v (x1 _ _)) rfl)
  cases hy : isT y with
  | false =>
    rw [hy] at i5
    refine key false ⟨ρ0, s_seq (s_if ij (fun z => by cases z) fun _ => rfl) (s_seqR (s_if (e_orT i5) (fun _ => s_ret rfl) fun z => by cases z)), rfl⟩ ⟨?_, fun h => by cases h⟩
    rintro ⟨x', y', e, _, a', b', c', c1, c2, c3, _, ey, _⟩
    cases PyData.tuple.inj e
    rw [ey] at hy; cases hy
  | true =>
  rw [hy] at i5
  obtain ⟨ys, rfl⟩ := isT_iff hy
  have hys := lvs_iff.mp (show lvs ys = true from ly)
  have wys := (wid_tup.mp wy1).2
  have i6 : mtest (mbin dNe (mv (mcb gLen (mcons (mv (mbin dIx (mopd 2) (mv (mret (.int 1))))) mnil))) (mv (mret (.int 3)))) ρ0 = .ok (!decide (ys.length = 3)) ρ0 := e_test (e_bin (e_v (e_cb1 (e_v (x1 _ _)) rfl (len_tup ys))) rfl rfl rfl (ne_len ys.length 3))
  have ik := e_orF i5 i6
  cases h6 : decide (ys.length = 3) with
  | false =>
    rw [h6] at ik
    refine key false ⟨ρ0, s_seq (s_if ij (fun z => by cases z) fun _ => rfl) (s_seqR (s_if ik (fun _ => s_ret rfl) fun z => by cases z)), rfl⟩ ⟨?_, fun h => by cases h⟩
    rintro ⟨x', y', e, _, a', b', c', c1, c2, c3, _, ey, _⟩
    cases PyData.tuple.inj e
    cases PyData.tuple.inj ey; cases h6
  | true =>
  rw [h6] at ik
  obtain ⟨c1, c2, c3, rfl⟩ := three_of (of_decide_eq_true h6)
  let Y : D := .tuple [tupS [a, b, c], .tuple [c1, c2, c3]]
  let ρ1 : Rho := [.val (qD h0 ats), .val (tupS T), .val Y, .val (nbD ats), .emp, .emp, .emp]
  let ρ2 : Rho := [.val (qD h0 ats), .val (tupS T), .val Y, .val (nbD ats), .val (.str a), .val (.str b), .val (.str c)]
  have s3 : sset 3 (mcallF F_names_by_table (mcons (mopd 0) mnil)) ρ0 = .next ρ1 := s_set (ρ1 := ρ0) (d := nbD ats) (mcallF_val (e_one rfl) rfl rfl (names_val ok) rfl)
  have s4 : sasg (mbin dIx (mopd 2) (mv (mret (.int 0)))) (mTup [(mName 4), (mName 5), (mName 6)]) ρ1 = .next ρ2 := s_asg (ρ1 := ρ1) (d := tupS [a, b, c]) (e_bin rfl rfl rfl rfl rfl) rfl
  have cj : ∀ (i : Nat) (ci : D) (o t p : Str) (so st sp : Nat), (o = a ∧ so = 4 ∨ o = b ∧ so = 5) → (t = b ∧ st = 5 ∨ t = c ∧ st = 6) → p ∈ tabs ats → (p = a ∧ sp = 4 ∨ p = b ∧ sp = 5 ∨ p = c ∧ sp = 6) → ([c1, c2, c3] : List D)[i]? = some ci → mcallV F_is_chain (mcons (mopd 3) (mcons (mopd so) (mcons (mopd st) (mcons (mopd sp) (mcons (mv (mbin dIx (mv (mbin dIx (mopd 2) (mv (mret (.int 1))))) (mv (mret (.int (i : Nat)))))) mnil))))) ρ2 = .ok (.bool (decide (CH ats o t p ci))) ρ2 := by
    intro i ci o t p so st sp ho ht hp hps hi
    have m := List.mem_of_getElem? hi
    refine mcallV_val (os := [.v (nbD ats), .v (.str o), .v (.str t), .v (.str p), .v ci]) (e_cons rfl (e_four (ρ1 := ρ2) (ρ2 := ρ2) (ρ3 := ρ2) ?_ ?_ ?_ (e_v (e_bin (e_v (x1 _ _)) rfl rfl rfl (by
      show atI [c1, c2, c3] (i : Nat) = _
      exact ix_list (L := [c1, c2, c3]) hi))))) rfl rfl (chain_val ok hp (hys ci m) (wid_hw (wys ci m))) rfl
    · rcases ho with ⟨rfl, rfl⟩ | ⟨rfl, rfl⟩ <;> rfl
    · rcases ht with ⟨rfl, rfl⟩ | ⟨rfl, rfl⟩ <;> rfl
    · rcases hps with ⟨rfl, rfl⟩ | ⟨rfl, rfl⟩ | ⟨rfl, rfl⟩ <;> rfl
  have j1 := e_not (e_test (cj 0 c1 a b c 4 5 6 (.inl ⟨rfl, rfl⟩) (.inl ⟨rfl, rfl⟩) tc (.inr (.inr ⟨rfl, rfl⟩)) rfl))
  have j2 := e_not (e_test (cj 1 c2 a c b 4 6 5 (.inl ⟨rfl, rfl⟩) (.inr ⟨rfl, rfl⟩) tb (.inr (.inl ⟨rfl, rfl⟩)) rfl))
  have j3 := cj 2 c3 b c a 5 6 4 (.inr ⟨rfl, rfl⟩) (.inr ⟨rfl, rfl⟩) ta (.inl ⟨rfl, rfl⟩) rfl
  have iff3 : TR ats T Y ↔ CH ats a b c c1 ∧ CH ats a c b c2 ∧ CH ats b c a c3 := by
    constructor
    · rintro ⟨x', y', e, _, a', b', c', d1, d2, d3, ex, ey, r1, r2, r3⟩
      have e' := PyData.tuple.inj e
      simp only [List.cons.injEq, and_true] at e'
      obtain ⟨rfl, rfl⟩ := e'
      cases tupS_inj ex
      cases PyData.tuple.inj ey
      exact ⟨r1, r2, r3⟩
    · rintro ⟨r1, r2, r3⟩
      exact ⟨_, _, rfl, h3, a, b, c, c1, c2, c3, rfl, rfl, r1, r2, r3⟩
  have j12 := e_or j1 fun _ => j2
  cases hj : (!decide (CH ats a b c c1)) || (!decide (CH ats a c b c2)) with
  | true =>
    rw [hj] at j12
    refine key false ⟨ρ2, s_seq (s_if ij (fun z => by cases z) fun _ => rfl) (s_seq (s_if ik (fun z => by cases z) fun _ => rfl) (s_seq s3 (s_seq s4 (s_seqR (s_if j12 (fun _ => s_ret rfl) fun z => by cases z))))), rfl⟩ ⟨?_, fun h => by cases h⟩
    intro h
    obtain ⟨r1, r2, _⟩ := iff3.mp h
    rw [decide_eq_true r1, decide_eq_true r2] at hj; cases hj
  | false =>
    rw [hj] at j12
    obtain ⟨k1, k2⟩ := Bool.or_eq_false_iff.mp hj
    refine key (decide (CH ats b c a c3)) ⟨ρ2, s_seq (s_if ij (fun z => by cases z) fun _ => rfl) (s_seq (s_if ik (fun z => by cases z) fun _ => rfl) (s_seq s3 (s_seq s4 (s_seq (s_if j12 (fun z => by cases z) fun _ => rfl) (s_ret j3))))), rfl⟩ ?_
    rw [decide_eq_true_iff]
    show TR ats T Y ↔ _
    rw [iff3]
    have k1 : CH ats a b c c1 := by simpa using k1
    have k2 : CH ats a c b c2 := by simpa using k2
    exact ⟨fun h => h.2.2, fun h => ⟨k1, k2, h⟩⟩
end
end G

set_option Elab.async false
set_option linter.all false
set_option maxRecDepth 100000
set_option maxHeartbeats 0
namespace G
open PySem L2 VS
theorem add_tupL {L M : List D} (h : L.length + M.length ≤ 1000000) : dAdd (.tuple L) (.tuple M) = some (.tuple (L ++ M)) := by
  have e : gCatT (.tuple L) (.tuple M) = some (.tuple (L ++ M)) := by
    show (if L.length + M.length ≤ lineN then some (PyData.tuple (L ++ M)) else none) = _
    rw [if_pos (by unfold lineN; omega)]
  unfold dAdd orG
  rw [show gI (· + ·) (.tuple L) (.tuple M) = none from rfl]; dsimp only
  rw [show gAddS (.tuple L) (.tuple M) = none from rfl]; dsimp only
  rw [show gCat (.tuple L) (.tuple M) = none from rfl]; dsimp only
  rw [e]
theorem add_lstL {L M : List D} (h : L.length + M.length ≤ 1000000) : dAdd (.list L) (.list M) = some (.list (L ++ M)) := by
  have e : gCat (.list L) (.list M) = some (.list (L ++ M)) := by
    show (if L.length + M.length ≤ lineN then some (PyData.list (L ++ M)) else none) = _
    rw [if_pos (by unfold lineN; omega)]
  unfold dAdd orG
  rw [show gI (· + ·) (.list L) (.list M) = none from rfl]; dsimp only
  rw [show gAddS (.list L) (.list M) = none from rfl]; dsimp only
  rw [e]
theorem pb_false {ats : List Atom} {a m b : Str} : PB ats a m b = false ↔ Conn (nm ats m) ats a b := by
  unfold PB
  rw [Bool.not_eq_false', decide_eq_true_iff]
/-- of three none parts the other two -/
noncomputable def tri (ats : List Atom) (a b c : Str) : Bool := !(PB ats a b c || PB ats a c b) && !PB ats b a c
/-- the first triad -/
noncomputable def FT (ats : List Atom) (T : List Str) : Option (Str × Str × Str) := T.zipIdx.findSome? fun q => (T.drop (q.2 + 1)).zipIdx.findSome? fun r => (T.drop (q.2 + r.2 + 2)).findSome? fun c => if tri ats q.1 r.1 c = true then some (q.1, r.1, c) else none
def trD : Option (Str × Str × Str) → D
  | none => .none
  | some (a, b, c) => tupS [a, b, c]
/-- a triad as it is told -/
def TrW (ats : List Atom) (p : Str × Str × Str) (d : D) : Prop := ∃ C1 C2 C3 : List Str, d = .tuple [tupS [p.1, p.2.1, p.2.2], .tuple [tupS C1, tupS C2, tupS C3]] ∧ CH ats p.1 p.2.1 p.2.2 (tupS C1) ∧ CH ats p.1 p.2.2 p.2.1 (tupS C2) ∧ CH ats p.2.1 p.2.2 p.1 (tupS C3) ∧ C1.length ≤ 6 ∧ C2.length ≤ 6 ∧ C3.length ≤ 6
section
variable {h0 : D} {ats : List Atom} (ok : QOk ats)
include ok
theorem istriad_val {a b c : Str} (ha : a ∈ tabs ats) (hb : b ∈ tabs ats) (hc : c ∈ tabs ats) : F_is_triad [.v (nbD ats), .v (tupS [a, b, c])] = .ret (.val (.bool (tri ats a b c))) [] := by
  let ρ0 : Rho := [.val (nbD ats), .val (tupS [a, b, c]), .emp, .emp, .emp]
  let ρ1 : Rho := [.val (nbD ats), .val (tupS [a, b, c]), .val (.str a), .val (.str b), .val (.str c)]
  have s1 : sasg (mvar 1) (mTup [(mName 2), (mName 3), (mName 4)]) ρ0 = .next ρ1 := s_asg (ρ1 := ρ0) (d := tupS [a, b, c]) rfl rfl
  have d1 : mtest (mcallV F_does_part (mcons (mopd 0) (mcons (mopd 2) (mcons (mopd 3) (mcons (mopd 4) mnil))))) ρ1 = .ok (PB ats a b c) ρ1 := e_test (mcallV_val (e_four rfl rfl rfl rfl) rfl rfl (dpart_val ok ha hb c) rfl)
  have d2 : mtest (mcallV F_does_part (mcons (mopd 0) (mcons (mopd 2) (mcons (mopd 4) (mcons (mopd 3) mnil))))) ρ1 = .ok (PB ats a c b) ρ1 := e_test (mcallV_val (e_four rfl rfl rfl rfl) rfl rfl (dpart_val ok ha hc b) rfl)
  have d3 : mcallV F_does_part (mcons (mopd 0) (mcons (mopd 3) (mcons (mopd 2) (mcons (mopd 4) mnil)))) ρ1 = .ok (.bool (PB ats b a c)) ρ1 := mcallV_val (e_four rfl rfl rfl rfl) rfl rfl (dpart_val ok hb ha c) rfl
  have t := e_or d1 fun _ => d2
  unfold tri
  cases hk : PB ats a b c || PB ats a c b with
  | true =>
    rw [hk] at t
    exact mkF_at ρ0 rfl rfl rfl (ρ := ρ1) (s_seq s1 (s_seqR (s_if t (fun _ => s_ret rfl) fun z => by cases z))) rfl
  | false =>
    rw [hk] at t
    exact mkF_at ρ0 rfl rfl rfl (ρ := ρ1) (s_seq s1 (s_seq (s_if t (fun z => by cases z) fun _ => rfl) (s_ret (e_notV d3)))) rfl
omit ok in
theorem tri_conn {a b c : Str} (h : tri ats a b c = true) : Conn (nm ats b) ats a c ∧ Conn (nm ats c) ats a b ∧ Conn (nm ats a) ats b c := by
  unfold tri at h
  obtain ⟨h1, h2⟩ := Bool.and_eq_true_iff.mp h
  rw [Bool.not_eq_true'] at h1 h2
  obtain ⟨k1, k2⟩ := Bool.or_eq_false_iff.mp h1
  exact ⟨pb_false.mp k1, pb_false.mp k2, pb_false.mp h2⟩
theorem chainof_val {one other past : Str} (h1 : one ∈ tabs ats) (hp : past ∈ tabs ats) (hc : Conn (nm ats past) ats one other) (ne : one ≠ other) : ∃ C : List Str, F_chain_of [.v (nbD ats), .v (.str one), .v (.str other), .v (.str past)] = .ret (.val (tupS C)) [] ∧ CH ats one other past (tupS C) ∧ C.length ≤ 6 := by
  have few := ok.few
  obtain ⟨kv, L, eR, ek, hL, hd0, ll, pk, lt⟩ := reached_val ok (nm_ok ok past) h1
  have om : other ∈ L := (hL other).mpr hc
  obtain ⟨i0, e0⟩ := List.mem_iff_getElem?.mp om
  have li0 := (List.getElem?_eq_some_iff.mp e0).1
  let ρ0 : Rho := [.val (nbD ats), .val (.str one), .val (.str other), .val (.str past), .emp, .emp]
  have W := swhile_inv (c := mtest (mbin dNe (mv (mbin dIx (mopd 5) (mv (mret (.int 0))))) (mopd 1))) (t := (sseq (sset 5 (mbin dAdd (mv (mlst (mcons (mv (mbin dIx (mopd 4) (mv (mbin dIx (mopd 5) (mv (mret (.int 0))))))) mnil))) (mopd 5)))
  snext)) (fun (n : Nat) (ρ : Rho) => ∃ (i : Nat) (c : Str) (C : List Str), i ≤ n ∧ L[i]? = some c ∧ C.length + 1 + i ≤ L.length ∧ (∀ t ∈ c :: C, t ∈ tabs ats) ∧ (c :: C).getLast? = some other ∧ (∀ q ∈ (c :: C).zip C, Lk ats past q.1 q.2) ∧ ρ = [.val (nbD ats), .val (.str one), .val (.str other), .val (.str past), .val (.dict kv), .val (txt (c :: C))])
    (fun (ρ : Rho) => ∃ (C : List Str), (∀ t ∈ one :: C, t ∈ tabs ats) ∧ (one :: C).length ≤ 6 ∧ (one :: C).getLast? = some other ∧ (∀ q ∈ (one :: C).zip C, Lk ats past q.1 q.2) ∧ ρ = [.val (nbD ats), .val (.str one), .val (.str other), .val (.str past), .val (.dict kv), .val (txt (one :: C))]) ?_ i0 1000 [.val (nbD ats), .val (.str one), .val (.str other), .val (.str past), .val (.dict kv), .val (txt [other])] (by omega) ⟨i0, other, [], Nat.le_refl _, e0, by show 0 + 1 + i0 ≤ _; omega, fun t h => List.mem_singleton.mp h ▸ lt other om, rfl, fun _ h => (nomatch h), rfl⟩
  · obtain ⟨ρ', e, C, hC, lC, la, lk, rfl⟩ := W
    refine ⟨one :: C, mkF_at ρ0 rfl rfl rfl (ρ := [.val (nbD ats), .val (.str one), .val (.str other), .val (.str past), .val (.dict kv), .val (txt (one :: C))]) (s_seq (s_set (ρ1 := ρ0) (d := .dict kv) (mcallF_val (e_three rfl rfl (e_v (e_bin rfl rfl rfl rfl (ix_nb hp)))) rfl rfl eR rfl)) (s_seq (s_set (d := txt [other]) (e_lst (e_one rfl) (by show 1 ≤ 1000; omega) rfl)) (s_seq e (s_ret (e_cb1 rfl rfl rfl))))) rfl, ⟨one :: C, rfl, ?_, hC, rfl, la, lk⟩, lC⟩
    cases C with
    | nil => cases la; exact absurd rfl ne
    | cons x C => show 2 ≤ C.length + 1 + 1; omega
  · rintro n ρ ⟨i, c, C, hi, ec, lC, hC, la, lk, rfl⟩
    let ρ1 : Rho := [.val (nbD ats), .val (.str one), .val (.str other), .val (.str past), .val (.dict kv), .val (txt (c :: C))]
    have x0 : mbin dIx (mopd 5) (mv (mret (.int 0))) ρ1 = .ok (.str c) ρ1 := e_bin rfl rfl rfl rfl (ix_txt (i := 0) rfl)
    have tst : mtest (mbin dNe (mv (mbin dIx (mopd 5) (mv (mret (.int 0))))) (mopd 1)) ρ1 = .ok (!decide (c = one)) ρ1 := e_test (e_bin (e_v x0) rfl rfl rfl (ne_str _ _))
    by_cases hq : c = one
    · left
      rw [decide_eq_true hq] at tst
      subst hq
      exact ⟨tst, C, hC, by rw [List.length_cons]; omega, la, lk, rfl⟩
    · right
      rw [decide_eq_false hq] at tst
      have ip : 0 < i := by
        rcases Nat.eq_zero_or_pos i with rfl | h
        · rw [hd0] at ec; cases ec; exact absurd rfl hq
        · exact h
      obtain ⟨j, b, lj, ej, dl, adj⟩ := pk i c ip ec
      refine ⟨tst, n - 1, [.val (nbD ats), .val (.str one), .val (.str other), .val (.str past), .val (.dict kv), .val (txt (b :: c :: C))], by omega, .inl (s_seq (s_set (ρ1 := ρ1) (d := txt (b :: c :: C)) (e_bin (e_v (e_lst (e_one (e_v (e_bin rfl (e_v x0) rfl rfl dl))) (by show 1 ≤ 1000; omega) rfl)) rfl rfl rfl ?_)) rfl), j, b, c :: C, by omega, ej, by rw [List.length_cons]; omega, fun t ht => (List.mem_cons.mp ht).elim (fun z => z ▸ adj.1) (hC t), ?_, fun q hq => ?_, rfl⟩
      · show dAdd (.list [.str b]) (.list ((c :: C).map .str)) = some (.list ([.str b] ++ (c :: C).map .str))
        exact add_lstL (by rw [List.length_map]; show 1 + (C.length + 1) ≤ _; omega)
      · rw [List.getLast?_cons_cons]; exact la
      · rw [List.zip_cons_cons] at hq
        rcases List.mem_cons.mp hq with rfl | hq
        · obtain ⟨_, _, n, o, x, y⟩ := adj
          exact ⟨n, x, y, o⟩
        · exact lk q hq
theorem triad_val {T : List Str} (hT : ∀ t ∈ T, t ∈ tabs ats) (nd : T.Nodup) : ∃ d, F_triad_of [.v (qD h0 ats), .v (tupS T)] = .ret (.val d) [] ∧ (match FT ats T with
    | none => d = .none
    | some p => TrW ats p d) := by
  let ρ0 : Rho := [.val (qD h0 ats), .val (tupS T), .emp, .emp, .emp, .emp, .emp, .emp, .emp]
  let ρ1 : Rho := [.val (qD h0 ats), .val (tupS T), .val (nbD ats), .emp, .emp, .emp, .emp, .emp, .emp]
  let J : Str × Str × Str → Rt → Rho → Prop := fun p r ρ => (∃ d, r = .val d ∧ TrW ats p d) ∧ outsOf [.v (qD h0 ats), .v (tupS T)] ρ = some []
  have s2 : sset 2 (mcallF F_names_by_table (mcons (mopd 0) mnil)) ρ0 = .next ρ1 := s_set (ρ1 := ρ0) (d := nbD ats) (mcallF_val (e_one rfl) rfl rfl (names_val ok) rfl)
  have lp := sloop_find (m := mTup [(mName 3), (mName 4)]) (t := (sseq (sfor (mitEt (mcons (mv (mslice (mopd 1) (mpart (mbin dAdd (mopd 3) (mv (mret (.int 1))))) (mret none))) mnil)) (mTup [(mName 5), (mName 6)]) (sseq (sfor (mitT (mslice (mopd 1) (mpart (mbin dAdd (mv (mbin dAdd (mopd 3) (mopd 5))) (mv (mret (.int 2))))) (mret none))) (mName 7) (sseq (sif (mtest (mcallV F_is_triad (mcons (mopd 2) (mcons (mv (mtup (mcons (mopd 4) (mcons (mopd 6) (mcons (mopd 7) mnil))))) mnil)))) (sseq (sset 8 (mtup (mcons (mv (mcallV F_chain_of (mcons (mopd 2) (mcons (mopd 4) (mcons (mopd 6) (mcons (mopd 7) mnil)))))) (mcons (mv (mcallV F_chain_of (mcons (mopd 2) (mcons (mopd 4) (mcons (mopd 7) (mcons (mopd 6) mnil)))))) mnil))))
  (sseq (sbind (mtup (mcons (mv (mtup (mcons (mopd 4) (mcons (mopd 6) (mcons (mopd 7) mnil))))) (mcons (mv (mbin dAdd (mopd 8) (mv (mtup (mcons (mv (mcallV F_chain_of (mcons (mopd 2) (mcons (mopd 6) (mcons (mopd 7) (mcons (mopd 4) mnil)))))) mnil))))) mnil))) fun d ρ => .ret (.val d) ρ)
  snext)) snext)
  snext))
  snext))
  snext)) (fun q : Str × Nat => .tuple [.int (q.2 : Nat), .str q.1]) (fun (ρ : Rho) => ∃ (j3 j4 j5 j6 j7 j8 : Sl), ρ = [.val (qD h0 ats), .val (tupS T), .val (nbD ats), j3, j4, j5, j6, j7, j8]) J (fun q => (T.drop (q.2 + 1)).zipIdx.findSome? fun r => (T.drop (q.2 + r.2 + 2)).findSome? fun c => if tri ats q.1 r.1 c = true then some (q.1, r.1, c) else none) T.zipIdx ρ1 ⟨_, _, _, _, _, _, rfl⟩ ?_
  · have it : mitEt (mcons (mopd 1) mnil) ρ1 = .ok (T.zipIdx.map fun q : Str × Nat => .tuple [.int (q.2 : Nat), .str q.1]) ρ1 := by
      rw [← enumD_map PyData.str T 0]
      exact e_itEt (a := .v (tupS T)) rfl rfl
    have eF : FT ats T = T.zipIdx.findSome? fun q => (T.drop (q.2 + 1)).zipIdx.findSome? fun r => (T.drop (q.2 + r.2 + 2)).findSome? fun c => if tri ats q.1 r.1 c = true then some (q.1, r.1, c) else none := rfl
    rcases lp with ⟨oo, ρ', e, j3, j4, j5, j6, j7, j8, rfl⟩ | ⟨p, r, ρ', oo, e, ⟨d, rfl, hd⟩, ho⟩
    · rw [eF, oo]
      exact ⟨.none, mkF_at ρ0 rfl rfl rfl (s_seq s2 (s_seq (s_for it e) (s_ret rfl))) rfl, rfl⟩
    · rw [eF, oo]
      exact ⟨d, mkF_at ρ0 rfl rfl rfl (s_seq s2 (s_seqR (s_for it e))) ho, hd⟩
  · rintro ⟨a, p⟩ hq ρ ⟨j3, j4, j5, j6, j7, j8, rfl⟩
    have ta : a ∈ tabs ats := lst_of hT (mem_zip hq)
    refine ⟨[.val (qD h0 ats), .val (tupS T), .val (nbD ats), .val (.int (p : Nat)), .val (.str a), j5, j6, j7, j8], rfl, ?_⟩
    have lp2 := sloop_find (m := mTup [(mName 5), (mName 6)]) (t := (sseq (sfor (mitT (mslice (mopd 1) (mpart (mbin dAdd (mv (mbin dAdd (mopd 3) (mopd 5))) (mv (mret (.int 2))))) (mret none))) (mName 7) (sseq (sif (mtest (mcallV F_is_triad (mcons (mopd 2) (mcons (mv (mtup (mcons (mopd 4) (mcons (mopd 6) (mcons (mopd 7) mnil))))) mnil)))) (sseq (sset 8 (mtup (mcons (mv (mcallV F_chain_of (mcons (mopd 2) (mcons (mopd 4) (mcons (mopd 6) (mcons (mopd 7) mnil)))))) (mcons (mv (mcallV F_chain_of (mcons (mopd 2) (mcons (mopd 4) (mcons (mopd 7) (mcons (mopd 6) mnil)))))) mnil))))
  (sseq (sbind (mtup (mcons (mv (mtup (mcons (mopd 4) (mcons (mopd 6) (mcons (mopd 7) mnil))))) (mcons (mv (mbin dAdd (mopd 8) (mv (mtup (mcons (mv (mcallV F_chain_of (mcons (mopd 2) (mcons (mopd 6) (mcons (mopd 7) (mcons (mopd 4) mnil)))))) mnil))))) mnil))) fun d ρ => .ret (.val d) ρ)
  snext)) snext)
  snext))
  snext)) (fun q : Str × Nat => .tuple [.int (q.2 : Nat), .str q.1]) (fun (ρ : Rho) => ∃ (j5 j6 j7 j8 : Sl), ρ = [.val (qD h0 ats), .val (tupS T), .val (nbD ats), .val (.int (p : Nat)), .val (.str a), j5, j6, j7, j8]) J (fun r => (T.drop (p + r.2 + 2)).findSome? fun c => if tri ats a r.1 c = true then some (a, r.1, c) else none) (T.drop (p + 1)).zipIdx [.val (qD h0 ats), .val (tupS T), .val (nbD ats), .val (.int (p : Nat)), .val (.str a), j5.demote, j6.demote, j7.demote, j8.demote] ⟨_, _, _, _, rfl⟩ (by
      rintro ⟨b, m⟩ hq2 ρ ⟨j5, j6, j7, j8, rfl⟩
      have tb : b ∈ tabs ats := hT b (List.mem_of_mem_drop (List.mem_of_getElem? (mem_zip hq2)))
      refine ⟨[.val (qD h0 ats), .val (tupS T), .val (nbD ats), .val (.int (p : Nat)), .val (.str a), .val (.int (m : Nat)), .val (.str b), j7, j8], rfl, ?_⟩
      have lp3 := sloop_find (m := mName 7) (t := (sseq (sif (mtest (mcallV F_is_triad (mcons (mopd 2) (mcons (mv (mtup (mcons (mopd 4) (mcons (mopd 6) (mcons (mopd 7) mnil))))) mnil)))) (sseq (sset 8 (mtup (mcons (mv (mcallV F_chain_of (mcons (mopd 2) (mcons (mopd 4) (mcons (mopd 6) (mcons (mopd 7) mnil)))))) (mcons (mv (mcallV F_chain_of (mcons (mopd 2) (mcons (mopd 4) (mcons (mopd 7) (mcons (mopd 6) mnil)))))) mnil))))
  (sseq (sbind (mtup (mcons (mv (mtup (mcons (mopd 4) (mcons (mopd 6) (mcons (mopd 7) mnil))))) (mcons (mv (mbin dAdd (mopd 8) (mv (mtup (mcons (mv (mcallV F_chain_of (mcons (mopd 2) (mcons (mopd 6) (mcons (mopd 7) (mcons (mopd 4) mnil)))))) mnil))))) mnil))) fun d ρ => .ret (.val d) ρ)
  snext)) snext)
  snext)) PyData.str (fun (ρ : Rho) => ∃ (j7 j8 : Sl), ρ = [.val (qD h0 ats), .val (tupS T), .val (nbD ats), .val (.int (p : Nat)), .val (.str a), .val (.int (m : Nat)), .val (.str b), j7, j8]) J (fun c => if tri ats a b c = true then some (a, b, c) else none) (T.drop (p + m + 2)) [.val (qD h0 ats), .val (tupS T), .val (nbD ats), .val (.int (p : Nat)), .val (.str a), .val (.int (m : Nat)), .val (.str b), j7.demote, j8.demote] ⟨_, _, rfl⟩ (by
        rintro c hc ρ ⟨j7, j8, rfl⟩
        have tc : c ∈ tabs ats := hT c (List.mem_of_mem_drop hc)
        let R1 : Rho := [.val (qD h0 ats), .val (tupS T), .val (nbD ats), .val (.int (p : Nat)), .val (.str a), .val (.int (m : Nat)), .val (.str b), .val (.str c), j8]
        refine ⟨R1, rfl, ?_⟩
        have tst : mtest (mcallV F_is_triad (mcons (mopd 2) (mcons (mv (mtup (mcons (mopd 4) (mcons (mopd 6) (mcons (mopd 7) mnil))))) mnil))) R1 = .ok (tri ats a b c) R1 := e_test (mcallV_val (e_two rfl (e_v (e_tup (e_three rfl rfl rfl) (by show 3 ≤ 1000; omega) rfl))) rfl rfl (istriad_val ok ta tb tc) rfl)
        have ea := mem_zip hq
        have eb := mem_zip hq2
        obtain ⟨k, kc, ec⟩ := mem_drop.mp hc
        rw [List.getElem?_drop] at eb
        have dif : ∀ {i j : Nat} {x y : Str}, i ≠ j → T[i]? = some x → T[j]? = some y → x ≠ y := fun {i j x y} n e1 e2 z => by
          subst z
          exact n ((List.getElem?_inj (List.getElem?_eq_some_iff.mp e1).1 nd).mp (e1.trans e2.symm))
        have nab : a ≠ b := dif (by omega) ea eb
        have nac : a ≠ c := dif (by show p ≠ k; omega) ea ec
        have nbc : b ≠ c := dif (by omega) eb ec
        cases hk : tri ats a b c with
        | false => exact .inl ⟨if_neg Bool.false_ne_true, R1, s_seq (s_if tst (fun z => by rw [hk] at z; cases z) fun _ => rfl) rfl, _, _, rfl⟩
        | true =>
          obtain ⟨g1, g2, g3⟩ := tri_conn hk
          obtain ⟨C1, eC1, m1, l1⟩ := chainof_val ok ta tc g2 nab
          obtain ⟨C2, eC2, m2, l2⟩ := chainof_val ok ta tb g1 nac
          obtain ⟨C3, eC3, m3, l3⟩ := chainof_val ok tb ta g3 nbc
          let R2 : Rho := [.val (qD h0 ats), .val (tupS T), .val (nbD ats), .val (.int (p : Nat)), .val (.str a), .val (.int (m : Nat)), .val (.str b), .val (.str c), .val (.tuple [tupS C1, tupS C2])]
          have s8 : sset 8 (mtup (mcons (mv (mcallV F_chain_of (mcons (mopd 2) (mcons (mopd 4) (mcons (mopd 6) (mcons (mopd 7) mnil)))))) (mcons (mv (mcallV F_chain_of (mcons (mopd 2) (mcons (mopd 4) (mcons (mopd 7) (mcons (mopd 6) mnil)))))) mnil))) R1 = .next R2 := s_set (ρ1 := R1) (d := .tuple [tupS C1, tupS C2]) (e_tup (e_two (e_v (mcallV_val (e_four rfl rfl rfl rfl) rfl rfl eC1 rfl)) (e_v (mcallV_val (e_four rfl rfl rfl rfl) rfl rfl eC2 rfl))) (by show 2 ≤ 1000; omega) rfl)
          have rv : mtup (mcons (mv (mtup (mcons (mopd 4) (mcons (mopd 6) (mcons (mopd 7) mnil))))) (mcons (mv (mbin dAdd (mopd 8) (mv (mtup (mcons (mv (mcallV F_chain_of (mcons (mopd 2) (mcons (mopd 6) (mcons (mopd 7) (mcons (mopd 4) mnil)))))) mnil))))) mnil)) R2 = .ok (.tuple [tupS [a, b, c], .tuple [tupS C1, tupS C2, tupS C3]]) R2 := e_tup (e_two (e_v (e_tup (e_three rfl rfl rfl) (by show 3 ≤ 1000; omega) rfl)) (e_v (e_bin rfl (e_v (e_tup (e_one (e_v (mcallV_val (e_four rfl rfl rfl rfl) rfl rfl eC3 rfl))) (by show 1 ≤ 1000; omega) rfl)) rfl rfl (add_tupL (L := [tupS C1, tupS C2]) (M := [tupS C3]) (by show 2 + 1 ≤ _; omega))))) (by show 2 ≤ 1000; omega) rfl
          exact .inr ⟨(a, b, c), _, R2, if_pos rfl, s_seqR (s_if tst (fun _ => s_seq s8 (s_ret rv)) fun z => by rw [hk] at z; cases z), ⟨_, rfl, C1, C2, C3, rfl, m1, m2, m3, l1, l2, l3⟩, rfl⟩)
      have it3 : mitT (mslice (mopd 1) (mpart (mbin dAdd (mv (mbin dAdd (mopd 3) (mopd 5))) (mv (mret (.int 2))))) (mret none)) [.val (qD h0 ats), .val (tupS T), .val (nbD ats), .val (.int (p : Nat)), .val (.str a), .val (.int (m : Nat)), .val (.str b), j7, j8] = .ok ((T.drop (p + m + 2)).map .str) [.val (qD h0 ats), .val (tupS T), .val (nbD ats), .val (.int (p : Nat)), .val (.str a), .val (.int (m : Nat)), .val (.str b), j7, j8] := e_itT (e_slice rfl (e_part (e_bin (e_v (e_bin rfl rfl rfl rfl rfl)) rfl rfl rfl rfl)) rfl rfl (sl_drop T (p + m + 2)))
      rcases lp3 with ⟨oo, ρ', e, j7', j8', rfl⟩ | ⟨q, r, ρ', oo, e, j⟩
      · exact .inl ⟨oo, _, s_seq (s_for it3 e) rfl, _, _, _, _, rfl⟩
      · exact .inr ⟨q, r, ρ', oo, s_seqR (s_for it3 e), j⟩)
    have it2 : mitEt (mcons (mv (mslice (mopd 1) (mpart (mbin dAdd (mopd 3) (mv (mret (.int 1))))) (mret none))) mnil) [.val (qD h0 ats), .val (tupS T), .val (nbD ats), .val (.int (p : Nat)), .val (.str a), j5, j6, j7, j8] = .ok ((T.drop (p + 1)).zipIdx.map fun q : Str × Nat => .tuple [.int (q.2 : Nat), .str q.1]) [.val (qD h0 ats), .val (tupS T), .val (nbD ats), .val (.int (p : Nat)), .val (.str a), j5, j6, j7, j8] := by
      rw [← enumD_map PyData.str (T.drop (p + 1)) 0]
      exact e_itEt (a := .v (tupS (T.drop (p + 1)))) (e_v (e_slice rfl (e_part (e_bin rfl rfl rfl rfl rfl)) rfl rfl (sl_drop T (p + 1)))) rfl
    rcases lp2 with ⟨oo, ρ', e, j5', j6', j7', j8', rfl⟩ | ⟨q, r, ρ', oo, e, j⟩
    · exact .inl ⟨oo, _, s_seq (s_for it2 e) rfl, _, _, _, _, _, _, rfl⟩
    · exact .inr ⟨q, r, ρ', oo, s_seqR (s_for it2 e), j⟩
end
end G

set_option Elab.async false
set_option linter.all false
set_option maxRecDepth 100000
set_option maxHeartbeats 0
namespace G
open PySem L2 VS
theorem eqv_bool2 (a b c d : Bool) : dEq (.list [.bool a, .bool b]) (.list [.bool c, .bool d]) = some (.bool (decide (a = c) && decide (b = d))) := by
  revert a b c d; decide +kernel
theorem e_itZtl {f g : M Op} {ρ ρ1 ρ2 : Rho} {xs ys : List D} (h : f ρ = .ok (.v (.tuple xs)) ρ1) (h2 : g ρ1 = .ok (.v (.list ys)) ρ2) : mitZtl (mcons f (mcons g mnil)) ρ = .ok (zipD xs ys) ρ2 := by
  unfold mitZtl mbind; rw [e_two h h2]; rfl
section
variable {h0 : D} {ats : List Atom} (ok : QOk ats)
include ok
/-- the law's first triad -/
theorem ltriad_val {T : List Str} (hT : ∀ t ∈ T, t ∈ tabs ats) : F__law_first_triad [.v (nbD ats), .v (tupS T)] = .ret (.val (trD (FT ats T))) [] := by
  let ρ0 : Rho := [.val (nbD ats), .val (tupS T), .emp, .emp, .emp, .emp, .emp, .emp]
  let J : Str × Str × Str → Rt → Rho → Prop := fun p r ρ => r = .val (tupS [p.1, p.2.1, p.2.2]) ∧ outsOf [.v (nbD ats), .v (tupS T)] ρ = some []
  let t3 : SM := (sseq (sset 7 (mlst (mcons (mv (mcallV F__law_does_part (mcons (mopd 0) (mcons (mopd 3) (mcons (mopd 5) (mcons (mopd 6) mnil)))))) (mcons (mv (mcallV F__law_does_part (mcons (mopd 0) (mcons (mopd 5) (mcons (mopd 3) (mcons (mopd 6) mnil)))))) mnil))))
  (sseq (sif (mandT (mtest (mbin dEq (mopd 7) (mv (mlst (mcons (mv (mret (.bool false))) (mcons (mv (mret (.bool false))) mnil)))))) (mnotT (mtest (mcallV F__law_does_part (mcons (mopd 0) (mcons (mopd 3) (mcons (mopd 6) (mcons (mopd 5) mnil)))))))) (sseq (sbind (mtup (mcons (mopd 3) (mcons (mopd 5) (mcons (mopd 6) mnil)))) fun d ρ => .ret (.val d) ρ)
  snext) snext)
  snext))
  let t2 : SM := (sseq (sfor (mitT (mslice (mopd 1) (mpart (mbin dAdd (mv (mbin dAdd (mopd 2) (mopd 4))) (mv (mret (.int 2))))) (mret none))) (mName 6) t3)
  snext)
  let t1 : SM := (sseq (sfor (mitEt (mcons (mv (mslice (mopd 1) (mpart (mbin dAdd (mopd 2) (mv (mret (.int 1))))) (mret none))) mnil)) (mTup [(mName 4), (mName 5)]) t2)
  snext)
  have lp := sloop_find (m := mTup [(mName 2), (mName 3)]) (t := t1) (fun q : Str × Nat => .tuple [.int (q.2 : Nat), .str q.1]) (fun (ρ : Rho) => ∃ (j2 j3 j4 j5 j6 j7 : Sl), ρ = [.val (nbD ats), .val (tupS T), j2, j3, j4, j5, j6, j7]) J (fun q => (T.drop (q.2 + 1)).zipIdx.findSome? fun r => (T.drop (q.2 + r.2 + 2)).findSome? fun c => if tri ats q.1 r.1 c = true then some (q.1, r.1, c) else none) T.zipIdx ρ0 ⟨_, _, _, _, _, _, rfl⟩ ?_
  · have it : mitEt (mcons (mopd 1) mnil) ρ0 = .ok (T.zipIdx.map fun q : Str × Nat => .tuple [.int (q.2 : Nat), .str q.1]) ρ0 := by
      rw [← enumD_map PyData.str T 0]
      exact e_itEt (a := .v (tupS T)) rfl rfl
    have eF : FT ats T = T.zipIdx.findSome? fun q => (T.drop (q.2 + 1)).zipIdx.findSome? fun r => (T.drop (q.2 + r.2 + 2)).findSome? fun c => if tri ats q.1 r.1 c = true then some (q.1, r.1, c) else none := rfl
    rcases lp with ⟨oo, ρ', e, j2, j3, j4, j5, j6, j7, rfl⟩ | ⟨⟨a, b, c⟩, r, ρ', oo, e, rfl, ho⟩
    · rw [eF, oo]
      exact mkF_at ρ0 rfl rfl rfl (s_seq (s_for it e) (s_ret rfl)) rfl
    · rw [eF, oo]
      exact mkF_at ρ0 rfl rfl rfl (s_seqR (s_for it e)) ho
  · rintro ⟨a, p⟩ hq ρ ⟨j2, j3, j4, j5, j6, j7, rfl⟩
    have ta : a ∈ tabs ats := lst_of hT (mem_zip hq)
    refine ⟨[.val (nbD ats), .val (tupS T), .val (.int (p : Nat)), .val (.str a), j4, j5, j6, j7], rfl, ?_⟩
    have lp2 := sloop_find (m := mTup [(mName 4), (mName 5)]) (t := t2) (fun q : Str × Nat => .tuple [.int (q.2 : Nat), .str q.1]) (fun (ρ : Rho) => ∃ (j4 j5 j6 j7 : Sl), ρ = [.val (nbD ats), .val (tupS T), .val (.int (p : Nat)), .val (.str a), j4, j5, j6, j7]) J (fun r => (T.drop (p + r.2 + 2)).findSome? fun c => if tri ats a r.1 c = true then some (a, r.1, c) else none) (T.drop (p + 1)).zipIdx [.val (nbD ats), .val (tupS T), .val (.int (p : Nat)), .val (.str a), j4.demote, j5.demote, j6.demote, j7.demote] ⟨_, _, _, _, rfl⟩ (by
      rintro ⟨b, m⟩ hq2 ρ ⟨j4, j5, j6, j7, rfl⟩
      have tb : b ∈ tabs ats := hT b (List.mem_of_mem_drop (List.mem_of_getElem? (mem_zip hq2)))
      refine ⟨[.val (nbD ats), .val (tupS T), .val (.int (p : Nat)), .val (.str a), .val (.int (m : Nat)), .val (.str b), j6, j7], rfl, ?_⟩
      have lp3 := sloop_find (m := mName 6) (t := t3) PyData.str (fun (ρ : Rho) => ∃ (j6 j7 : Sl), ρ = [.val (nbD ats), .val (tupS T), .val (.int (p : Nat)), .val (.str a), .val (.int (m : Nat)), .val (.str b), j6, j7]) J (fun c => if tri ats a b c = true then some (a, b, c) else none) (T.drop (p + m + 2)) [.val (nbD ats), .val (tupS T), .val (.int (p : Nat)), .val (.str a), .val (.int (m : Nat)), .val (.str b), j6.demote, j7.demote] ⟨_, _, rfl⟩ (by
        rintro c hc ρ ⟨j6, j7, rfl⟩
        have tc : c ∈ tabs ats := hT c (List.mem_of_mem_drop hc)
        let R1 : Rho := [.val (nbD ats), .val (tupS T), .val (.int (p : Nat)), .val (.str a), .val (.int (m : Nat)), .val (.str b), .val (.str c), j7]
        let R2 : Rho := [.val (nbD ats), .val (tupS T), .val (.int (p : Nat)), .val (.str a), .val (.int (m : Nat)), .val (.str b), .val (.str c), .val (.list [.bool (PB ats a b c), .bool (PB ats b a c)])]
        refine ⟨R1, rfl, ?_⟩
        have s7 : sset 7 (mlst (mcons (mv (mcallV F__law_does_part (mcons (mopd 0) (mcons (mopd 3) (mcons (mopd 5) (mcons (mopd 6) mnil)))))) (mcons (mv (mcallV F__law_does_part (mcons (mopd 0) (mcons (mopd 5) (mcons (mopd 3) (mcons (mopd 6) mnil)))))) mnil))) R1 = .next R2 := s_set (ρ1 := R1) (d := .list [.bool (PB ats a b c), .bool (PB ats b a c)]) (e_lst (e_two (e_v (mcallV_val (e_four rfl rfl rfl rfl) rfl rfl (ldpart_val ok ta tb tc) rfl)) (e_v (mcallV_val (e_four rfl rfl rfl rfl) rfl rfl (ldpart_val ok tb ta tc) rfl))) (by show 2 ≤ 1000; omega) rfl)
        have t1 : mtest (mbin dEq (mopd 7) (mv (mlst (mcons (mv (mret (.bool false))) (mcons (mv (mret (.bool false))) mnil))))) R2 = .ok (decide (PB ats a b c = false) && decide (PB ats b a c = false)) R2 := e_test (e_bin rfl (e_v (e_lst (ds := [.bool false, .bool false]) (e_two rfl rfl) (by show 2 ≤ 1000; omega) rfl)) rfl rfl (eqv_bool2 _ _ _ _))
        have t2 : mnotT (mtest (mcallV F__law_does_part (mcons (mopd 0) (mcons (mopd 3) (mcons (mopd 6) (mcons (mopd 5) mnil)))))) R2 = .ok (!PB ats a c b) R2 := e_not (e_test (mcallV_val (e_four rfl rfl rfl rfl) rfl rfl (ldpart_val ok ta tc tb) rfl))
        have tt := e_and t1 fun _ => t2
        have eq : ((decide (PB ats a b c = false) && decide (PB ats b a c = false)) && !PB ats a c b) = tri ats a b c := by
          unfold tri
          cases PB ats a b c <;> cases PB ats b a c <;> cases PB ats a c b <;> rfl
        rw [eq] at tt
        cases hk : tri ats a b c with
        | false => exact .inl ⟨if_neg Bool.false_ne_true, R2, s_seq s7 (s_seq (s_if tt (fun z => by rw [hk] at z; cases z) fun _ => rfl) rfl), _, _, rfl⟩
        | true =>
          have rv : mtup (mcons (mopd 3) (mcons (mopd 5) (mcons (mopd 6) mnil))) R2 = .ok (tupS [a, b, c]) R2 := e_tup (e_three rfl rfl rfl) (by show 3 ≤ 1000; omega) rfl
          exact .inr ⟨(a, b, c), _, R2, if_pos rfl, s_seq s7 (s_seqR (s_if tt (fun _ => s_ret rv) fun z => by rw [hk] at z; cases z)), rfl, rfl⟩)
      have it3 : mitT (mslice (mopd 1) (mpart (mbin dAdd (mv (mbin dAdd (mopd 2) (mopd 4))) (mv (mret (.int 2))))) (mret none)) [.val (nbD ats), .val (tupS T), .val (.int (p : Nat)), .val (.str a), .val (.int (m : Nat)), .val (.str b), j6, j7] = .ok ((T.drop (p + m + 2)).map .str) [.val (nbD ats), .val (tupS T), .val (.int (p : Nat)), .val (.str a), .val (.int (m : Nat)), .val (.str b), j6, j7] := e_itT (e_slice rfl (e_part (e_bin (e_v (e_bin rfl rfl rfl rfl rfl)) rfl rfl rfl rfl)) rfl rfl (sl_drop T (p + m + 2)))
      rcases lp3 with ⟨oo, ρ', e, j6', j7', rfl⟩ | ⟨q, r, ρ', oo, e, j⟩
      · exact .inl ⟨oo, _, s_seq (s_for it3 e) rfl, _, _, _, _, rfl⟩
      · exact .inr ⟨q, r, ρ', oo, s_seqR (s_for it3 e), j⟩)
    have it2 : mitEt (mcons (mv (mslice (mopd 1) (mpart (mbin dAdd (mopd 2) (mv (mret (.int 1))))) (mret none))) mnil) [.val (nbD ats), .val (tupS T), .val (.int (p : Nat)), .val (.str a), j4, j5, j6, j7] = .ok ((T.drop (p + 1)).zipIdx.map fun q : Str × Nat => .tuple [.int (q.2 : Nat), .str q.1]) [.val (nbD ats), .val (tupS T), .val (.int (p : Nat)), .val (.str a), j4, j5, j6, j7] := by
      rw [← enumD_map PyData.str (T.drop (p + 1)) 0]
      exact e_itEt (a := .v (tupS (T.drop (p + 1)))) (e_v (e_slice rfl (e_part (e_bin rfl rfl rfl rfl rfl)) rfl rfl (sl_drop T (p + 1)))) rfl
    rcases lp2 with ⟨oo, ρ', e, j4', j5', j6', j7', rfl⟩ | ⟨q, r, ρ', oo, e, j⟩
    · exact .inl ⟨oo, _, s_seq (s_for it2 e) rfl, _, _, _, _, _, _, rfl⟩
    · exact .inr ⟨q, r, ρ', oo, s_seqR (s_for it2 e), j⟩
/-- a chain as the law looks at it -/
theorem lchain_val {one other past : Str} (hp : past ∈ tabs ats) {L : List Str} (h : CH ats one other past (tupS L)) (l6 : L.length ≤ 6) : F__law_is_chain [.v (nbD ats), .v (tupS L), .v (.str one), .v (.str other), .v (.str past)] = .ret (.val (.bool true)) [] := by
  obtain ⟨M, eM, l2, hL, e0, eL, lk⟩ := h
  cases tupS_inj (show tupS L = tupS M from eM)
  let ρ0 : Rho := [.val (nbD ats), .val (tupS L), .val (.str one), .val (.str other), .val (.str past), .emp, .emp, .emp]
  have i1 : mnotT (mtest (misi "tuple" (mopd 1))) ρ0 = .ok false ρ0 := e_not (e_isT (f := mopd 1) (a := .v (tupS L)) (x := tupS L) rfl rfl)
  have i2 : mtest (mbin dLt (mv (mcb gLen (mcons (mopd 1) mnil))) (mv (mret (.int 2)))) ρ0 = .ok false ρ0 := by
    have e : mtest (mbin dLt (mv (mcb gLen (mcons (mopd 1) mnil))) (mv (mret (.int 2)))) ρ0 = .ok (decide (L.length < 2)) ρ0 := e_test (e_bin (e_v (e_cb1 rfl rfl (len_tupS L))) rfl rfl rfl (lt_nat L.length 2))
    rw [decide_eq_false (by omega)] at e
    exact e
  have i3 : mtest (mbin dNe (mv (mbin dIx (mopd 1) (mv (mret (.int 0))))) (mopd 2)) ρ0 = .ok false ρ0 := by
    have e : mtest (mbin dNe (mv (mbin dIx (mopd 1) (mv (mret (.int 0))))) (mopd 2)) ρ0 = .ok (!decide (one = one)) ρ0 := e_test (e_bin (e_v (e_bin rfl rfl rfl rfl (ix_tupS (i := 0) e0))) rfl rfl rfl (ne_str _ _))
    rw [decide_eq_true rfl] at e
    exact e
  have i4 : mtest (mbin dNe (mv (mbin dIx (mopd 1) (mv (mret (.int (-1)))))) (mopd 3)) ρ0 = .ok false ρ0 := by
    have e : mtest (mbin dNe (mv (mbin dIx (mopd 1) (mv (mret (.int (-1)))))) (mopd 3)) ρ0 = .ok (!decide (other = other)) ρ0 := e_test (e_bin (e_v (e_bin rfl rfl rfl rfl (ix_last eL))) rfl rfl rfl (ne_str _ _))
    rw [decide_eq_true rfl] at e
    exact e
  have tst := e_orF i1 (e_orF i2 (e_orF i3 i4))
  have lp := sloop_map (m := mTup [(mName 5), (mName 6)]) (t := (sseq (sif (mtest (mbin dEqNil (mv (mlc (mitL (mbin dIx (mopd 0) (mopd 5))) (mName 7) (mandT (mtest (mbin dIn (mopd 7) (mv (mbin dIx (mopd 0) (mopd 6))))) (mtest (mbin dNotIn (mopd 7) (mv (mbin dIx (mopd 0) (mopd 4)))))) (mvar 7) [7])) (mv (mlst mnil)))) (sseq (sbind (mret (.bool false)) fun d ρ => .ret (.val d) ρ)
  snext) snext)
  snext)) (fun q : Str × Str => .tuple [.str q.1, .str q.2]) (fun (_ : List (Str × Str)) (ρ : Rho) => ∃ (j5 j6 : Sl), ρ = [.val (nbD ats), .val (tupS L), .val (.str one), .val (.str other), .val (.str past), j5, j6, .emp]) (L.zip (L.drop 1)) ρ0 ⟨_, _, rfl⟩ ?_
  · have it : mitZ (mcons (mopd 1) (mcons (mv (mslice (mopd 1) (mpart (mret (.int 1))) (mret none))) mnil)) ρ0 = .ok ((L.zip (L.drop 1)).map fun q : Str × Str => .tuple [.str q.1, .str q.2]) ρ0 := by
      rw [← zipD_map PyData.str]
      exact e_itZt rfl (e_v (e_slice rfl (e_part rfl) rfl rfl (sl_drop L 1)))
    obtain ⟨ρ', e, j5, j6, rfl⟩ := lp
    exact mkF_at ρ0 rfl rfl rfl (s_seq (s_if tst (fun z => by cases z) fun _ => rfl) (s_seq (s_for it e) (s_ret rfl))) rfl
  · rintro ⟨a, b⟩ r ρ hab ⟨j5, j6, rfl⟩
    obtain ⟨ha1, hb1⟩ := zip_l hab
    have ta := hL a ha1
    have tb := hL b hb1
    let ρ1 : Rho := [.val (nbD ats), .val (tupS L), .val (.str one), .val (.str other), .val (.str past), .val (.str a), .val (.str b), .emp]
    have an : mtest (mbin dEqNil (mv (mlc (mitL (mbin dIx (mopd 0) (mopd 5))) (mName 7) (mandT (mtest (mbin dIn (mopd 7) (mv (mbin dIx (mopd 0) (mopd 6))))) (mtest (mbin dNotIn (mopd 7) (mv (mbin dIx (mopd 0) (mopd 4)))))) (mvar 7) [7])) (mv (mlst mnil))) ρ1 = .ok (((nm ats a).filter fun n => decide (n ∈ nm ats b) && !decide (n ∈ nm ats past)).map PyData.str).isEmpty ρ1 :=
      e_test (e_bin (e_v (m_lc (L := nm ats a) PyData.str (fun n => decide (n ∈ nm ats b) && !decide (n ∈ nm ats past)) PyData.str (e_itL (e_bin rfl rfl rfl rfl (ix_nb ta))) rfl (lineN_big (by have := nm_len ok a; omega)) fun n hn => ⟨[.val (nbD ats), .val (tupS L), .val (.str one), .val (.str other), .val (.str past), .val (.str a), .val (.str b), .val (.str n)], rfl, e_and (e_test (e_bin rfl (e_v (e_bin rfl rfl rfl rfl (ix_nb tb))) rfl rfl (in_txt (nm_ok ok a n hn) (nm_ok ok b)))) (fun _ => e_test (e_bin rfl (e_v (e_bin rfl rfl rfl rfl (ix_nb hp))) rfl rfl (notIn_txt (nm_ok ok a n hn) (nm_ok ok past)))), fun _ => rfl, rfl⟩)) rfl rfl rfl rfl)
    have z : (((nm ats a).filter fun n => decide (n ∈ nm ats b) && !decide (n ∈ nm ats past)).map PyData.str).isEmpty = false := by
      have k := any_lk.mpr (lk (a, b) hab)
      rw [← any_filter_nil _ _ PyData.str] at k
      simpa using k
    rw [z] at an
    exact ⟨ρ1, ρ1, rfl, .inl (s_seq (s_if an (fun z => by cases z) fun _ => rfl) rfl), _, _, rfl⟩
end
end G

set_option Elab.async false
set_option linter.all false
/-! «Line or triad»: tables that part one another; where there is no triad there is a line. -/
namespace LT
universe u
variable {α : Type u}
theorem pw_two {R : α → α → Prop} : ∀ {l : List α}, l.Pairwise R → ∀ x ∈ l, ∀ y ∈ l, x ≠ y → R x y ∨ R y x
  | [], _, x, hx, _, _, _ => by cases hx
  | a :: l, h, x, hx, y, hy, n => by
    rw [List.pairwise_cons] at h
    rcases List.mem_cons.mp hx with e1 | h1
    · rcases List.mem_cons.mp hy with e2 | h2
      · exact absurd (e1.trans e2.symm) n
      · rw [e1]; exact .inl (h.1 y h2)
    · rcases List.mem_cons.mp hy with e2 | h2
      · rw [e2]; exact .inr (h.1 x h1)
      · exact pw_two h.2 x h1 y h2 n
theorem pw_imp {R R' : α → α → Prop} : ∀ {l : List α}, l.Pairwise R → l.Nodup → (∀ x ∈ l, ∀ y ∈ l, x ≠ y → R x y → R' x y) → l.Pairwise R'
  | [], _, _, _ => .nil
  | a :: l, h, nd, f => by
    rw [List.pairwise_cons] at h
    rw [List.nodup_cons] at nd
    rw [List.pairwise_cons]
    exact ⟨fun y hy => f a (List.mem_cons_self ..) y (List.mem_cons_of_mem _ hy) (fun e => nd.1 (e ▸ hy)) (h.1 y hy), pw_imp h.2 nd.2 fun x hx y hy => f x (List.mem_cons_of_mem _ hx) y (List.mem_cons_of_mem _ hy)⟩
theorem ex_max {le : α → α → Prop} (rf : ∀ x, le x x) (tr : ∀ x y z, le x y → le y z → le x z) : ∀ {l : List α}, l ≠ [] → ∃ m ∈ l, ∀ y ∈ l, le m y → le y m
  | [], h => absurd rfl h
  | a :: l, _ => by
    by_cases hl : l = []
    · subst hl
      exact ⟨a, List.mem_cons_self .., fun y hy _ => by rw [List.mem_singleton.mp hy]; exact rf a⟩
    · obtain ⟨m, hm, h⟩ := ex_max rf tr hl
      by_cases q : le m a
      · refine ⟨a, List.mem_cons_self .., fun y hy k => ?_⟩
        rcases List.mem_cons.mp hy with rfl | hy
        · exact rf _
        · exact tr _ _ _ (h y hy (tr _ _ _ q k)) q
      · refine ⟨m, List.mem_cons_of_mem _ hm, fun y hy k => ?_⟩
        rcases List.mem_cons.mp hy with rfl | hy
        · exact absurd k q
        · exact h y hy k
theorem ex_least {le : α → α → Prop} (rf : ∀ x, le x x) (tr : ∀ x y z, le x y → le y z → le x z) : ∀ {l : List α}, l ≠ [] → (∀ x ∈ l, ∀ y ∈ l, le x y ∨ le y x) → ∃ m ∈ l, ∀ y ∈ l, le m y
  | [], h, _ => absurd rfl h
  | a :: l, _, tt => by
    by_cases hl : l = []
    · subst hl
      exact ⟨a, List.mem_cons_self .., fun y hy => by rw [List.mem_singleton.mp hy]; exact rf a⟩
    · obtain ⟨m, hm, h⟩ := ex_least rf tr hl fun x hx y hy => tt x (List.mem_cons_of_mem _ hx) y (List.mem_cons_of_mem _ hy)
      rcases tt a (List.mem_cons_self ..) m (List.mem_cons_of_mem _ hm) with q | q
      · refine ⟨a, List.mem_cons_self .., fun y hy => ?_⟩
        rcases List.mem_cons.mp hy with rfl | hy
        · exact rf _
        · exact tr _ _ _ q (h y hy)
      · refine ⟨m, List.mem_cons_of_mem _ hm, fun y hy => ?_⟩
        rcases List.mem_cons.mp hy with rfl | hy
        · exact q
        · exact h y hy

/-- S a m b: m parts a and b -/
structure Par (S : α → α → α → Prop) : Prop where
  sym : ∀ {a m b}, S a m b → S b m a
  irr : ∀ {a m}, m ≠ a → ¬ S a m a
  tr : ∀ {m a b c}, m ≠ a → m ≠ b → m ≠ c → ¬ S a m b → ¬ S b m c → ¬ S a m c
  a2 : ∀ {c m a b}, c ≠ m → c ≠ a → c ≠ b → m ≠ a → m ≠ b → ¬ S a c b → S m c a → ¬ S a m b
  nt : ∀ {a b c}, a ≠ b → a ≠ c → b ≠ c → S a b c ∨ S b a c ∨ S a c b
def Line (S : α → α → α → Prop) : List α → Prop
  | [] => True
  | a :: l => l.Pairwise (S a) ∧ Line S l
def End (S : α → α → α → Prop) (T : List α) (e : α) : Prop := ∀ x ∈ T, ∀ y ∈ T, x ≠ e → y ≠ e → x ≠ y → S e x y ∨ S e y x
section
variable {S : α → α → α → Prop} (P : Par S)
include P
/-- x = y, or x parts r and y -/
theorem le_tr (r : α) {x y z : α} (hx : x ≠ r) (hy : y ≠ r) (hz : z ≠ r) : (x = y ∨ S r x y) → (y = z ∨ S r y z) → (x = z ∨ S r x z) := by
  intro h1 h2
  rcases h1 with rfl | h1
  · exact h2
  rcases h2 with rfl | h2
  · exact .inr h1
  by_cases e : x = z
  · exact .inl e
  refine .inr (Classical.byContradiction fun n => ?_)
  by_cases exy : x = y
  · subst exy; exact n h2
  by_cases eyz : y = z
  · subst eyz; exact n h1
  -- c = x, a = r, b = z, m = y
  exact P.a2 exy hx e hy eyz n (P.sym h1) h2

/-- a list without nothing has an end, if smaller ones have lines -/
theorem has_end {r : α} {T' : List α} (nd : (r :: T').Nodup) (ih : ∀ U : List α, U.Nodup → U.length ≤ T'.length → ∃ l, l.Perm U ∧ Line S l) : ∃ e ∈ r :: T', End S (r :: T') e := by
  rw [List.nodup_cons] at nd
  by_cases h0 : T' = []
  · subst h0
    refine ⟨r, List.mem_cons_self .., fun x hx y hy n => ?_⟩
    exact absurd (List.mem_singleton.mp hx) n
  have nr : ∀ x ∈ T', x ≠ r := fun x hx e => nd.1 (e ▸ hx)
  -- the order at r, on everything; at r itself it is void
  let le : α → α → Prop := fun x y => x = y ∨ (x ≠ r ∧ y ≠ r ∧ S r x y)
  have rf : ∀ x, le x x := fun x => .inl rfl
  have tr : ∀ x y z, le x y → le y z → le x z := fun x y z h1 h2 => by
    rcases h1 with rfl | ⟨a1, a2, a3⟩
    · exact h2
    rcases h2 with rfl | ⟨b1, b2, b3⟩
    · exact .inr ⟨a1, a2, a3⟩
    rcases le_tr P r a1 a2 b2 (.inr a3) (.inr b3) with k | k
    · exact .inl k
    · exact .inr ⟨a1, b2, k⟩
  obtain ⟨e0, he0, mx⟩ := ex_max rf tr h0
  classical
  obtain ⟨l, pl, ll⟩ := ih (T'.filter fun y => decide (le e0 y)) (nd.2.filter _) (List.length_filter_le ..)
  have ml : ∀ y, y ∈ l ↔ y ∈ T' ∧ le e0 y := fun y => by rw [pl.mem_iff, List.mem_filter, decide_eq_true_eq]
  cases l with
  | nil => exact absurd ((ml e0).mpr ⟨he0, rf _⟩) (by simp)
  | cons e l =>
    obtain ⟨he, h0e⟩ := (ml e).mp (List.mem_cons_self ..)
    have up : ∀ y ∈ T', le e y → y ∈ e :: l ∧ le y e := fun y hy k => by
      have k2 := tr _ _ _ h0e k
      exact ⟨(ml y).mpr ⟨hy, k2⟩, tr _ _ _ (mx y hy k2) h0e⟩
    have ner : e ≠ r := nr e he
    have one : ∀ y ∈ T', y ≠ e → S r e y → S r y e := fun y hy n k => by
      rcases (up y hy (.inr ⟨ner, nr y hy, k⟩)).2 with q | ⟨_, _, q⟩
      · exact absurd q n
      · exact q
    have mem : ∀ y ∈ T', y ≠ e → S r e y → y ∈ l := fun y hy n k => by
      rcases List.mem_cons.mp (up y hy (.inr ⟨ner, nr y hy, k⟩)).1 with q | q
      · exact absurd q n
      · exact q
    -- the root and another
    have root : ∀ y ∈ T', y ≠ e → S e r y ∨ S e y r := fun y hy n => by
      rcases P.nt (a := e) (b := r) (c := y) ner (Ne.symm n) (Ne.symm (nr y hy)) with q | q | q
      · exact .inl q
      · exact .inr (P.sym (one y hy n q))
      · exact .inr q
    -- two others
    have half : ∀ x ∈ T', ∀ y ∈ T', x ≠ e → y ≠ e → x ≠ y → S r e y → S e x y ∨ S e y x := fun x hx y hy nx ny nxy k => by
      refine Classical.byContradiction fun no => ?_
      have n1 : ¬ S e x y := fun q => no (.inl q)
      have n2 : ¬ S e y x := fun q => no (.inr q)
      by_cases k2 : S r e x
      · rcases pw_two ll.1 x (mem x hx nx k2) y (mem y hy ny k) nxy with q | q
        · exact no (.inl q)
        · exact no (.inr q)
      · -- c = e, a = r, b = x, m = y
        have q := P.a2 (c := e) (m := y) (a := r) (b := x) (Ne.symm ny) ner (Ne.symm nx) (nr y hy) (Ne.symm nxy) k2 (P.sym k)
        exact P.tr (m := y) (a := r) (b := x) (c := e) (nr y hy) (Ne.symm nxy) ny q (fun z => n2 (P.sym z)) (one y hy ny k)
    refine ⟨e, List.mem_cons_of_mem _ he, fun x hx y hy nx ny nxy => ?_⟩
    rcases List.mem_cons.mp hx with e1 | hx
    · rcases List.mem_cons.mp hy with e2 | hy
      · exact absurd (e1.trans e2.symm) nxy
      · rw [e1]; exact root y hy ny
    · rcases List.mem_cons.mp hy with e2 | hy
      · rw [e2]; exact (root x hx nx).symm
      · rcases P.nt (a := e) (b := x) (c := y) (Ne.symm nx) (Ne.symm ny) nxy with q | q | q
        · exact .inl q
        · -- e parts x and y: r is past e with one of them at most
          by_cases k : S r e y
          · exact half x hx y hy nx ny nxy k
          · by_cases k2 : S r e x
            · exact (half y hy x hx ny nx (Ne.symm nxy) k2).symm
            · exact absurd q (P.tr (m := e) (a := x) (b := r) (c := y) (Ne.symm nx) ner (Ne.symm ny) (fun z => k2 (P.sym z)) k)
        · exact .inr q

/-- behind an end e, some a: an end of the rest, that parts e and all others -/
theorem has_next {e : α} {T' : List α} (nd : (e :: T').Nodup) (h0 : T' ≠ []) (he : End S (e :: T') e) (ih : ∀ U : List α, U.Nodup → U.length ≤ T'.length → ∃ l, l.Perm U ∧ Line S l) :
    ∃ a ∈ T', End S T' a ∧ ∀ x ∈ T', x ≠ a → S e a x := by
  rw [List.nodup_cons] at nd
  have ne : ∀ x ∈ T', x ≠ e := fun x hx q => nd.1 (q ▸ hx)
  classical
  have tot : ∀ x ∈ T', ∀ y ∈ T', x ≠ y → S e x y ∨ S e y x := fun x hx y hy n => he x (List.mem_cons_of_mem _ hx) y (List.mem_cons_of_mem _ hy) (ne x hx) (ne y hy) n
  -- the least class
  let E1 : α → Prop := fun t => t ∈ T' ∧ ∀ x ∈ T', x ≠ t → S e t x
  have down : ∀ x ∈ T', ∀ y, E1 y → S e x y → E1 x := fun x hx y hy k => ⟨hx, fun z hz n => by
    rcases le_tr P e (x := x) (y := y) (z := z) (ne x hx) (ne y hy.1) (ne z hz) (.inr k) (by
      by_cases q : y = z
      · exact .inl q
      · exact .inr (hy.2 z hz (Ne.symm q))) with q | q
    · exact absurd q.symm n
    · exact q⟩
  have nle : ∀ w ∈ T', ¬ E1 w → ∀ x, E1 x → ¬ S e w x := fun w hw nw x hx k => nw (down w hw x hx k)
  have neU : ∀ w, ¬ E1 w → ∀ x, E1 x → w ≠ x := fun w nw x hx q => nw (q ▸ hx)
  -- the order on the least class
  let le : α → α → Prop := fun x y => x = y ∨ ∀ w ∈ T', ¬ E1 w → x ≠ w ∧ y ≠ w ∧ S w y x
  have rf : ∀ x, le x x := fun x => .inl rfl
  have tr : ∀ x y z, le x y → le y z → le x z := fun x y z h1 h2 => by
    rcases h1 with rfl | h1
    · exact h2
    rcases h2 with rfl | h2
    · exact .inr h1
    by_cases q : x = z
    · exact .inl q
    refine .inr fun w hw nw => ?_
    obtain ⟨a1, a2, a3⟩ := h1 w hw nw
    obtain ⟨b1, b2, b3⟩ := h2 w hw nw
    rcases le_tr P w b2 a2 a1 (.inr b3) (.inr a3) with k | k
    · exact absurd k.symm q
    · exact ⟨a1, b2, k⟩
  have pair : ∀ w ∈ T', ¬ E1 w → ∀ x y, E1 x → E1 y → x ≠ y → S w x y ∨ S w y x := fun w hw nw x y hx hy n => by
    have k1 := nle w hw nw x hx
    have k2 := nle w hw nw y hy
    have nwx := neU w nw x hx
    have nwy := neU w nw y hy
    have n1 : ¬ S x w y := P.tr (m := w) (a := x) (b := e) (c := y) nwx (ne w hw) nwy (fun z => nle w hw nw x hx (P.sym z)) k2 |> fun h => h
    rcases P.nt (a := w) (b := x) (c := y) nwx nwy n with q | q | q
    · exact .inl q
    · exact absurd q n1
    · exact .inr q
  have total : ∀ x y, E1 x → E1 y → le x y ∨ le y x := fun x y hx hy => by
    by_cases n : x = y
    · exact .inl (.inl n)
    refine Classical.byContradiction fun no => ?_
    have no1 : ∃ w ∈ T', ¬ E1 w ∧ ¬ S w y x := Classical.byContradiction fun q => no (.inl (.inr fun w hw nw => ⟨Ne.symm (neU w nw x hx), Ne.symm (neU w nw y hy), Classical.byContradiction fun k => q ⟨w, hw, nw, k⟩⟩))
    have no2 : ∃ w ∈ T', ¬ E1 w ∧ ¬ S w x y := Classical.byContradiction fun q => no (.inr (.inr fun w hw nw => ⟨Ne.symm (neU w nw y hy), Ne.symm (neU w nw x hx), Classical.byContradiction fun k => q ⟨w, hw, nw, k⟩⟩))
    obtain ⟨w, hw, nw, k⟩ := no1
    obtain ⟨v, hv, nv, k'⟩ := no2
    have s1 : S w x y := (pair w hw nw x y hx hy n).resolve_right k
    have s2 : S v y x := (pair v hv nv x y hx hy n).resolve_left k'
    have nwv : w ≠ v := fun q => by subst q; exact k s2
    have wx := neU w nw x hx
    have wy := neU w nw y hy
    have vx := neU v nv x hx
    have vy := neU v nv y hy
    -- c = y, a = w, b = x, m = v
    have m1 : ¬ S w v x := P.a2 (c := y) (m := v) (a := w) (b := x) (Ne.symm vy) (Ne.symm wy) (Ne.symm n) (Ne.symm nwv) vx k (Classical.byContradiction fun z => P.tr (m := y) (a := v) (b := w) (c := x) (Ne.symm vy) (Ne.symm wy) (Ne.symm n) z k s2)
    have m2 : ¬ S v w y := P.a2 (c := x) (m := w) (a := v) (b := y) (Ne.symm wx) (Ne.symm vx) n nwv wy k' (Classical.byContradiction fun z => P.tr (m := x) (a := w) (b := v) (c := y) (Ne.symm wx) (Ne.symm vx) n z k' s1)
    have g1 : ¬ S e w v := P.tr (m := w) (a := e) (b := y) (c := v) (ne w hw) wy nwv (nle w hw nw y hy) fun z => m2 (P.sym z)
    have g2 : ¬ S e v w := P.tr (m := v) (a := e) (b := x) (c := w) (ne v hv) vx (Ne.symm nwv) (nle v hv nv x hx) fun z => m1 (P.sym z)
    exact (tot w hw v hv nwv).elim g1 g2
  -- a least of all
  obtain ⟨t0, ht0, least⟩ := ex_least (le := fun x y => x = y ∨ (x ∈ T' ∧ y ∈ T' ∧ S e x y)) (fun x => .inl rfl) (fun x y z h1 h2 => by
    rcases h1 with rfl | ⟨a1, a2, a3⟩
    · exact h2
    rcases h2 with rfl | ⟨b1, b2, b3⟩
    · exact .inr ⟨a1, a2, a3⟩
    rcases le_tr P e (ne x a1) (ne y a2) (ne z b2) (.inr a3) (.inr b3) with k | k
    · exact .inl k
    · exact .inr ⟨a1, b2, k⟩) h0 fun x hx y hy => by
      by_cases n : x = y
      · exact .inl (.inl n)
      · exact (tot x hx y hy n).imp (fun k => .inr ⟨hx, hy, k⟩) fun k => .inr ⟨hy, hx, k⟩
  have E0 : E1 t0 := ⟨ht0, fun x hx n => by
    rcases least x hx with q | ⟨_, _, q⟩
    · exact absurd q.symm n
    · exact q⟩
  obtain ⟨g, hg, gl⟩ := ex_least rf tr (l := T'.filter fun y => decide (E1 y)) (fun q => by
    have z : t0 ∈ T'.filter fun y => decide (E1 y) := List.mem_filter.mpr ⟨ht0, decide_eq_true E0⟩
    rw [q] at z; cases z) fun x hx y hy => total x y (of_decide_eq_true (List.mem_filter.mp hx).2) (of_decide_eq_true (List.mem_filter.mp hy).2)
  have Eg : E1 g := of_decide_eq_true (List.mem_filter.mp hg).2
  have gle : ∀ y, E1 y → le g y := fun y hy => gl y (List.mem_filter.mpr ⟨hy.1, decide_eq_true hy⟩)
  obtain ⟨l, pl, ll⟩ := ih (T'.filter fun y => decide (E1 y ∧ le y g)) (nd.2.filter _) (List.length_filter_le ..)
  have ml : ∀ y, y ∈ l ↔ E1 y ∧ le y g := fun y => by
    rw [pl.mem_iff, List.mem_filter, decide_eq_true_eq]
    exact ⟨fun h => h.2, fun h => ⟨h.1.1, h⟩⟩
  cases l with
  | nil => exact absurd ((ml g).mpr ⟨Eg, rf _⟩) (by simp)
  | cons a l =>
    obtain ⟨Ea, ag⟩ := (ml a).mp (List.mem_cons_self ..)
    have al : ∀ y, E1 y → le a y := fun y hy => tr _ _ _ ag (gle y hy)
    have meml : ∀ y, E1 y → le y a → y ≠ a → y ∈ l := fun y hy k n => by
      rcases List.mem_cons.mp ((ml y).mpr ⟨hy, tr _ _ _ k ag⟩) with q | q
      · exact absurd q n
      · exact q
    have half : ∀ x, E1 x → ∀ y ∈ T', x ≠ a → y ≠ a → x ≠ y → ¬ S a x y → ¬ S a y x → False := fun x hx y hy nx ny n n1 n2 => by
      have sep : S x a y := by
        rcases P.nt (a := a) (b := x) (c := y) (Ne.symm nx) (Ne.symm ny) n with q | q | q
        · exact absurd q n1
        · exact q
        · exact absurd q n2
      by_cases Ey : E1 y
      · -- both of the class
        have into : ∀ x y, E1 x → E1 y → x ≠ a → y ≠ a → x ≠ y → ¬ S a y x → S x a y → le x a := fun x y hx Ey nx ny n n2 sep => by
          refine .inr fun w hw nw => ⟨Ne.symm (neU w nw x hx), Ne.symm (neU w nw a Ea), Classical.byContradiction fun k => ?_⟩
          have wa := neU w nw a Ea
          have wx := neU w nw x hx
          have wy := neU w nw y Ey
          -- c = a, a = w, b = x, m = y
          have k2 : S y a w := Classical.byContradiction fun z => P.tr (m := a) (a := x) (b := w) (c := y) (Ne.symm nx) (Ne.symm wa) (Ne.symm ny) (fun z => k (P.sym z)) (fun q => z (P.sym q)) sep
          have k3 : ¬ S w y x := P.a2 (c := a) (m := y) (a := w) (b := x) (Ne.symm ny) (Ne.symm wa) (Ne.symm nx) (Ne.symm wy) (Ne.symm n) k k2
          have k4 : ¬ S w y a := P.tr (m := y) (a := w) (b := x) (c := a) (Ne.symm wy) (Ne.symm n) ny k3 fun z => n2 (P.sym z)
          rcases al y Ey with q | q
          · exact ny q.symm
          · exact k4 (q w hw nw).2.2
        have hx2 := meml x hx (into x y hx Ey nx ny n n2 sep) nx
        have hy2 := meml y Ey (into y x Ey hx ny nx (Ne.symm n) n1 (P.sym sep)) ny
        rcases pw_two ll.1 x hx2 y hy2 n with q | q
        · exact n1 q
        · exact n2 q
      · rcases al x hx with q | q
        · exact nx q.symm
        · exact n1 (P.sym (q y hy Ey).2.2)
    refine ⟨a, Ea.1, fun x hx y hy nx ny n => Classical.byContradiction fun no => ?_, fun x hx n => Ea.2 x hx n⟩
    have n1 : ¬ S a x y := fun q => no (.inl q)
    have n2 : ¬ S a y x := fun q => no (.inr q)
    rcases tot x hx y hy n with k | k
    · -- e, x, y: x is of the class
      have ka : S e x a := Classical.byContradiction fun z => P.tr (m := x) (a := e) (b := a) (c := y) (ne x hx) nx n z n1 k
      exact half x (down x hx a Ea ka) y hy nx ny n n1 n2
    · have ka : S e y a := Classical.byContradiction fun z => P.tr (m := y) (a := e) (b := a) (c := x) (ne y hy) ny (Ne.symm n) z n2 k
      exact half y (down y hy a Ea ka) x hx ny nx (Ne.symm n) n2 n1
theorem main : ∀ (n : Nat) (T : List α), T.Nodup → T.length ≤ n → (∃ l, l.Perm T ∧ Line S l) ∧ ∀ e T', T = e :: T' → End S T e → ∃ l, l.Perm T' ∧ Line S (e :: l)
  | 0, T, _, h => by
    have : T = [] := List.length_eq_zero_iff.mp (by omega)
    subst this
    exact ⟨⟨[], .refl _, trivial⟩, fun e T' q => by cases q⟩
  | n + 1, T, nd, h => by
    have tail : ∀ (e : α) (T' : List α), (e :: T').Nodup → (e :: T').length ≤ n + 1 → End S (e :: T') e → ∃ l, l.Perm T' ∧ Line S (e :: l) := fun e T' nd h he => by
      by_cases h0 : T' = []
      · subst h0
        exact ⟨[], .refl _, .nil, trivial⟩
      have h' : T'.length ≤ n := by simp only [List.length_cons] at h; omega
      obtain ⟨a, ha, ea, sa⟩ := has_next P nd h0 he fun U nu lu => (main n U nu (by omega)).1
      rw [List.nodup_cons] at nd
      classical
      have pe : (a :: T'.erase a).Perm T' := (List.perm_cons_erase ha).symm
      obtain ⟨l, pl, ll⟩ := (main n (a :: T'.erase a) (pe.nodup_iff.mpr nd.2) (by rw [pe.length_eq]; exact h')).2 a (T'.erase a) rfl fun x hx y hy => ea x (pe.mem_iff.mp hx) y (pe.mem_iff.mp hy)
      have pal : (a :: l).Perm T' := (pl.cons a).trans pe
      have ndl : (a :: l).Nodup := pal.nodup_iff.mpr nd.2
      have ne : ∀ x ∈ T', x ≠ e := fun x hx q => nd.1 (q ▸ hx)
      refine ⟨a :: l, pal, ?_, ll⟩
      rw [List.nodup_cons] at ndl
      rw [List.pairwise_cons]
      have inT : ∀ x ∈ l, x ∈ T' := fun x hx => pal.mem_iff.mp (List.mem_cons_of_mem _ hx)
      have na : ∀ x ∈ l, x ≠ a := fun x hx q => ndl.1 (q ▸ hx)
      refine ⟨fun x hx => sa x (inT x hx) (na x hx), pw_imp ll.1 ndl.2 fun x hx y hy n k => Classical.byContradiction fun q => ?_⟩
      -- x ahead of y: a, x, y; e and y are not parted by x, so x parts e and a
      have k1 : S e x a := Classical.byContradiction fun z => P.tr (m := x) (a := a) (b := e) (c := y) (na x hx) (ne x (inT x hx)) n (fun z2 => z (P.sym z2)) q k
      have k2 : S e a y := sa y (inT y hy) (na y hy)
      rcases le_tr P e (x := x) (y := a) (z := y) (ne x (inT x hx)) (ne a ha) (ne y (inT y hy)) (.inr k1) (.inr k2) with z | z
      · exact n z
      · exact q z
    refine ⟨?_, fun e T' q => by subst q; exact tail e T' nd h⟩
    cases T with
    | nil => exact ⟨[], .refl _, trivial⟩
    | cons r T' =>
      have h' : T'.length ≤ n := by simp only [List.length_cons] at h; omega
      obtain ⟨e, he, ee⟩ := has_end P nd fun U nu lu => (main n U nu (by omega)).1
      classical
      have pe : (e :: (r :: T').erase e).Perm (r :: T') := (List.perm_cons_erase he).symm
      obtain ⟨l, pl, ll⟩ := tail e ((r :: T').erase e) (pe.nodup_iff.mpr nd) (by rw [pe.length_eq]; exact h) fun x hx y hy => ee x (pe.mem_iff.mp hx) y (pe.mem_iff.mp hy)
      exact ⟨e :: l, (pl.cons e).trans pe, ll⟩
/-- THE LAW: a line of any such list -/
theorem has_line {T : List α} (nd : T.Nodup) : ∃ l, l.Perm T ∧ Line S l := (main P T.length T nd (Nat.le_refl _)).1
end
end LT

set_option Elab.async false
set_option linter.all false
set_option maxRecDepth 100000
set_option maxHeartbeats 0
namespace G
open PySem L2 VS
/-! ### line or triad, for the tables of a question -/
theorem conn_past {ats : List Atom} {c m a b : Str} (hm : m ∈ tabs ats) (h : Conn (nm ats c) ats a b) (n : ¬ Conn (nm ats c) ats a m) : Conn (nm ats m) ats a b := by
  induction h with
  | refl => exact .refl
  | @step t u ht q ih =>
    refine ih.step ?_
    obtain ⟨ta, ub, x, o, k1, k2⟩ := q
    exact ⟨ta, ub, x, fun k => n (ht.step ⟨ta, hm, x, o, k1, k⟩), k1, k2⟩
theorem pb_true {ats : List Atom} {a m b : Str} : PB ats a m b = true ↔ ¬ Conn (nm ats m) ats a b := by
  rw [← pb_false, Bool.not_eq_false]
theorem tri_iff {ats : List Atom} {a b c : Str} : tri ats a b c = true ↔ PB ats a b c = false ∧ PB ats a c b = false ∧ PB ats b a c = false := by
  unfold tri
  cases PB ats a b c <;> cases PB ats a c b <;> cases PB ats b a c <;> simp
theorem pb_sym {ats : List Atom} {a m b : Str} : PB ats a m b = PB ats b m a := by
  rw [Bool.eq_iff_iff, pb_true, pb_true]
  exact ⟨fun h k => h k.symm, fun h k => h k.symm⟩
section
variable {ats : List Atom} {T : List Str}
/-- no triad: of any three one parts the others -/
theorem no_tri (h : FT ats T = none) {i j k : Nat} {a b c : Str} (hij : i < j) (hjk : j < k) (ea : T[i]? = some a) (eb : T[j]? = some b) (ec : T[k]? = some c) : tri ats a b c = false := by
  unfold FT at h
  have h1 := List.findSome?_eq_none_iff.mp h (a, i) (zip_mem ea)
  have h2 := List.findSome?_eq_none_iff.mp h1 (b, j - (i + 1)) (zip_mem (by rw [List.getElem?_drop]; show T[i + 1 + (j - (i + 1))]? = some b; rw [show i + 1 + (j - (i + 1)) = j by omega]; exact eb))
  have h3 := List.findSome?_eq_none_iff.mp h2 c (mem_drop.mpr ⟨k, by show i + (j - (i + 1)) + 2 ≤ k; omega, ec⟩)
  cases q : tri ats a b c with
  | false => rfl
  | true => rw [show (if tri ats a b c = true then some (a, b, c) else none) = some (a, b, c) from if_pos q] at h3; cases h3
theorem no_tri3 (h : FT ats T = none) {a b c : Str} (ha : a ∈ T) (hb : b ∈ T) (hc : c ∈ T) (ab : a ≠ b) (ac : a ≠ c) (bc : b ≠ c) : PB ats a b c = true ∨ PB ats b a c = true ∨ PB ats a c b = true := by
  obtain ⟨i, ei⟩ := List.mem_iff_getElem?.mp ha
  obtain ⟨j, ej⟩ := List.mem_iff_getElem?.mp hb
  obtain ⟨k, ek⟩ := List.mem_iff_getElem?.mp hc
  have nij : i ≠ j := fun z => ab (Option.some.inj (ei.symm.trans (z ▸ ej)))
  have nik : i ≠ k := fun z => ac (Option.some.inj (ei.symm.trans (z ▸ ek)))
  have njk : j ≠ k := fun z => bc (Option.some.inj (ej.symm.trans (z ▸ ek)))
  refine Classical.byContradiction fun no => ?_
  have n1 : PB ats a b c = false := by cases q : PB ats a b c with | false => rfl | true => exact absurd (.inl q) no
  have n2 : PB ats b a c = false := by cases q : PB ats b a c with | false => rfl | true => exact absurd (.inr (.inl q)) no
  have n3 : PB ats a c b = false := by cases q : PB ats a c b with | false => rfl | true => exact absurd (.inr (.inr q)) no
  have all : ∀ {x y z : Str} {p q r : Nat}, p < q → q < r → T[p]? = some x → T[q]? = some y → T[r]? = some z → PB ats x y z = false → PB ats x z y = false → PB ats y x z = false → False := fun l1 l2 e1 e2 e3 k1 k2 k3 => by
    have z := no_tri h l1 l2 e1 e2 e3
    rw [tri_iff.mpr ⟨k1, k2, k3⟩] at z; cases z
  have m1 : PB ats c b a = false := pb_sym.symm.trans n1
  have m2 : PB ats c a b = false := pb_sym.symm.trans n2
  have m3 : PB ats b c a = false := pb_sym.symm.trans n3
  rcases Nat.lt_or_gt_of_ne nij with l1 | l1 <;> rcases Nat.lt_or_gt_of_ne nik with l2 | l2 <;> rcases Nat.lt_or_gt_of_ne njk with l3 | l3
  · exact all l1 l3 ei ej ek n1 n3 n2
  · exact all l2 l3 ei ek ej n3 n1 m2
  · omega
  · exact all l2 l1 ek ei ej m2 m1 n3
  · exact all l1 l2 ej ei ek n2 m3 n1
  · omega
  · exact all l3 l2 ej ek ei m3 n2 m1
  · exact all l3 l1 ek ej ei m1 m2 m3
/-- the tables part one another so that LT fits -/
theorem par_of (hT : ∀ t ∈ T, t ∈ tabs ats) (h : FT ats T = none) : LT.Par (fun a m b : {t : Str // t ∈ T} => PB ats a.1 m.1 b.1 = true) where
  sym := fun {a m b} k => pb_sym.symm.trans k
  irr := fun {a m} _ k => pb_true.mp k .refl
  tr := fun {m a b c} _ _ _ k1 k2 k => by
    rw [Bool.not_eq_true, pb_false] at k1 k2
    exact pb_true.mp k (k1.trans k2)
  a2 := fun {c m a b} _ _ _ _ _ k1 k2 k => by
    rw [Bool.not_eq_true, pb_false] at k1
    exact pb_true.mp k (conn_past (hT _ m.2) k1 fun z => pb_true.mp k2 z.symm)
  nt := fun {a b c} n1 n2 n3 => no_tri3 h a.2 b.2 c.2 (fun z => n1 (Subtype.ext z)) (fun z => n2 (Subtype.ext z)) (fun z => n3 (Subtype.ext z))
theorem lp_of_line : ∀ {K : List Str}, LT.Line (fun a m b => PB ats a m b = true) K → LP ats K
  | [], _ => fun i j k a m c _ _ e _ _ => by cases e
  | x :: K, h => fun i j k a m c hij hjk ea em ec => by
    obtain ⟨h1, h2⟩ := h
    cases j with
    | zero => omega
    | succ j =>
      cases k with
      | zero => omega
      | succ k =>
        rw [List.getElem?_cons_succ] at em ec
        cases i with
        | zero =>
          cases ea
          obtain ⟨lj, ej⟩ := List.getElem?_eq_some_iff.mp em
          obtain ⟨lk, ek⟩ := List.getElem?_eq_some_iff.mp ec
          have z := List.pairwise_iff_getElem.mp h1 j k lj lk (by omega)
          rwa [ej, ek] at z
        | succ i =>
          rw [List.getElem?_cons_succ] at ea
          exact lp_of_line h2 i j k a m c (by omega) (by omega) ea em ec
theorem line_map {α β : Type} {S : β → β → β → Prop} (f : α → β) : ∀ {l : List α}, LT.Line (fun a m b => S (f a) (f m) (f b)) l → LT.Line S (l.map f)
  | [], _ => trivial
  | a :: l, h => ⟨List.pairwise_map.mpr h.1, line_map f h.2⟩
theorem has_lp (hT : ∀ t ∈ T, t ∈ tabs ats) (nd : T.Nodup) (h : FT ats T = none) : ∃ K : List Str, K.Perm T ∧ LP ats K := by
  have nd2 : T.attach.Nodup := by
    have e : (T.attach.map Subtype.val).Nodup := by rw [List.attach_map_subtype_val]; exact nd
    exact List.Pairwise.of_map Subtype.val (fun a b n z => n (congrArg _ z)) e
  obtain ⟨l, pl, ll⟩ := LT.has_line (par_of hT h) nd2
  refine ⟨l.map Subtype.val, ?_, lp_of_line (line_map Subtype.val ll)⟩
  have p := pl.map Subtype.val
  rwa [List.attach_map_subtype_val] at p
/-- the search finds a line where there is one -/
theorem lb_some : ∀ (n : Nat) (L R K : List Str), R.Nodup → K.Perm R → LP ats (L ++ K) → R.length < n → LB ats n L R ≠ none
  | 0, L, R, K, _, _, _, h => absurd h (Nat.not_lt_zero _)
  | n + 1, L, R, K, nd, pk, hl, hn => by
    unfold LB
    cases R with
    | nil => rw [if_pos (show ([] : List Str).isEmpty = true from rfl)]; exact fun z => by cases z
    | cons r R =>
      rw [if_neg (by simp)]
      cases K with
      | nil => exact absurd pk.length_eq (by simp)
      | cons k K =>
        have hk : k ∈ r :: R := pk.mem_iff.mp List.mem_cons_self
        have fp : FP ats L k := fun i j a m hij ea em => by
          have lj := (List.getElem?_eq_some_iff.mp em).1
          exact hl i j L.length a m k hij lj (by rw [List.getElem?_append_left (by omega)]; exact ea) (by rw [List.getElem?_append_left lj]; exact em) (by rw [List.getElem?_append_right (Nat.le_refl _), Nat.sub_self]; rfl)
        have ndk : (k :: K).Nodup := pk.nodup_iff.mpr nd
        rw [List.nodup_cons] at ndk
        have pf : K.Perm ((r :: R).filter fun x => !decide (x = k)) := by
          have q := pk.filter fun x => !decide (x = k)
          rw [List.filter_cons_of_neg (by simp)] at q
          rwa [List.filter_eq_self.mpr (fun x hx => by simp; rintro rfl; exact ndk.1 hx)] at q
        have sh : ((r :: R).filter fun x => !decide (x = k)).length < (r :: R).length := List.length_filter_lt_length_iff_exists.mpr ⟨k, hk, by simp⟩
        have ih := lb_some n (L ++ [k]) ((r :: R).filter fun x => !decide (x = k)) K (nd.filter _) pf (by rw [List.append_assoc]; exact hl) (by omega)
        intro z
        have z2 := List.findSome?_eq_none_iff.mp z k hk
        rw [if_pos (decide_eq_true fp)] at z2
        exact ih z2
/-- what it tells is a line -/
theorem lb_line : ∀ (n : Nat) (L R K : List Str), R.Nodup → LP ats L → LB ats n L R = some K → K.Perm (L ++ R) ∧ LP ats K
  | 0, L, R, K, _, _, h => by cases h
  | n + 1, L, R, K, nd, hl, h => by
    unfold LB at h
    cases R with
    | nil =>
      rw [if_pos (show ([] : List Str).isEmpty = true from rfl)] at h
      cases h
      rw [List.append_nil]
      exact ⟨.refl _, hl⟩
    | cons r R =>
      rw [if_neg (by simp)] at h
      obtain ⟨t, ht, e⟩ := List.exists_of_findSome?_eq_some h
      by_cases fp : FP ats L t
      · rw [if_pos (decide_eq_true fp)] at e
        have hl2 : LP ats (L ++ [t]) := fun i j k a m c hij hjk ea em ec => by
          have lk := (List.getElem?_eq_some_iff.mp ec).1
          rw [List.length_append] at lk
          have lk : k < L.length + 1 := lk
          rw [List.getElem?_append_left (by omega)] at ea em
          by_cases q : k < L.length
          · rw [List.getElem?_append_left q] at ec
            exact hl i j k a m c hij hjk ea em ec
          · have : k = L.length := by omega
            subst this
            rw [List.getElem?_append_right (Nat.le_refl _), Nat.sub_self] at ec
            cases ec
            exact fp i j a m hij ea em
        obtain ⟨p, q⟩ := lb_line n (L ++ [t]) _ K (nd.filter _) hl2 e
        refine ⟨p.trans ?_, q⟩
        rw [List.append_assoc]
        refine List.Perm.append_left L ?_
        have e1 : ((r :: R).filter fun x => !decide (x = t)) = (r :: R).erase t := by
          rw [nd.erase_eq_filter]
          congr 1
        rw [e1]
        exact (List.perm_cons_erase ht).symm
      · rw [if_neg (fun z => fp (of_decide_eq_true z))] at e; cases e
/-- a triad leaves no line -/
theorem no_line {p : Str × Str × Str} (h : FT ats T = some p) (nd : T.Nodup) {K : List Str} (pk : K.Perm T) (hl : LP ats K) : False := by
  unfold FT at h
  obtain ⟨⟨a, i⟩, ha, h⟩ := List.exists_of_findSome?_eq_some h
  obtain ⟨⟨b, j⟩, hb, h⟩ := List.exists_of_findSome?_eq_some h
  obtain ⟨c, hc, h⟩ := List.exists_of_findSome?_eq_some h
  by_cases q : tri ats a b c = true
  · obtain ⟨n1, n3, n2⟩ := tri_iff.mp q
    have ea := mem_zip ha
    have eb := mem_zip hb
    rw [List.getElem?_drop] at eb
    obtain ⟨k, kk, ec⟩ := mem_drop.mp hc
    have dif : ∀ {i j : Nat} {x y : Str}, i ≠ j → T[i]? = some x → T[j]? = some y → x ≠ y := fun {i j x y} n e1 e2 z => by
      subst z
      exact n ((List.getElem?_inj (List.getElem?_eq_some_iff.mp e1).1 nd).mp (e1.trans e2.symm))
    have ab : a ≠ b := dif (by omega) ea eb
    have ac : a ≠ c := dif (by show i ≠ k; omega) ea ec
    have bc : b ≠ c := dif (by show i + 1 + j ≠ k; omega) eb ec
    have inK : ∀ {x : Str} {i : Nat}, T[i]? = some x → ∃ u, K[u]? = some x := fun e => List.mem_iff_getElem?.mp (pk.mem_iff.mpr (List.mem_of_getElem? e))
    obtain ⟨u, eu⟩ := inK ea
    obtain ⟨v, ev⟩ := inK eb
    obtain ⟨w, ew⟩ := inK ec
    have nuv : u ≠ v := fun z => ab (Option.some.inj (eu.symm.trans (z ▸ ev)))
    have nuw : u ≠ w := fun z => ac (Option.some.inj (eu.symm.trans (z ▸ ew)))
    have nvw : v ≠ w := fun z => bc (Option.some.inj (ev.symm.trans (z ▸ ew)))
    have no : ∀ {x y z : Str} {p q r : Nat}, p < q → q < r → K[p]? = some x → K[q]? = some y → K[r]? = some z → PB ats x y z = false → False := fun l1 l2 e1 e2 e3 k => by
      have z := hl _ _ _ _ _ _ l1 l2 e1 e2 e3
      rw [k] at z; cases z
    have m1 : PB ats c b a = false := pb_sym.symm.trans n1
    have m2 : PB ats c a b = false := pb_sym.symm.trans n2
    have m3 : PB ats b c a = false := pb_sym.symm.trans n3
    rcases Nat.lt_or_gt_of_ne nuv with l1 | l1 <;> rcases Nat.lt_or_gt_of_ne nuw with l2 | l2 <;> rcases Nat.lt_or_gt_of_ne nvw with l3 | l3
    · exact no l1 l3 eu ev ew n1
    · exact no l2 l3 eu ew ev n3
    · omega
    · exact no l2 l1 ew eu ev m2
    · exact no l1 l2 ev eu ew n2
    · omega
    · exact no l3 l2 ev ew eu m3
    · exact no l3 l1 ew ev eu m1
  · have h : (if tri ats a b c = true then some (a, b, c) else none) = some p := h
    rw [if_neg q] at h; cases h
/-- THE LAW -/
theorem line_or_triad (hT : ∀ t ∈ T, t ∈ tabs ats) (nd : T.Nodup) (l6 : T.length ≤ 6) : (FT ats T = none ∧ ∃ K, LB ats 8 [] T = some K ∧ K.Perm T ∧ LP ats K) ∨ (∃ p, FT ats T = some p) ∧ LB ats 8 [] T = none := by
  have nil : LP ats [] := fun i j k a m c _ _ e _ _ => by cases e
  cases h : FT ats T with
  | none =>
    left
    obtain ⟨K, pk, hl⟩ := has_lp hT nd h
    cases e : LB ats 8 [] T with
    | none => exact absurd e (lb_some 8 [] T K nd pk hl (by omega))
    | some M => exact ⟨rfl, M, rfl, lb_line 8 [] T M nd nil e⟩
  | some p =>
    right
    refine ⟨⟨p, rfl⟩, ?_⟩
    cases e : LB ats 8 [] T with
    | none => rfl
    | some M =>
      obtain ⟨pm, hm⟩ := lb_line 8 [] T M nd nil e
      exact (no_line h nd pm hm).elim
end
end G

set_option Elab.async false
set_option linter.all false
set_option maxRecDepth 100000
namespace G
open PySem L2 VS
theorem mul_int {i j : Int} (h : (-18446744073709551616 < i ∧ i < 18446744073709551616) ∨ (-18446744073709551616 < j ∧ j < 18446744073709551616)) : dMul (.int i) (.int j) = some (.int (i * j)) := by
  have e : cMul i j = true := by
    unfold cMul
    rw [Bool.or_eq_true, Bool.and_eq_true, Bool.and_eq_true, decide_eq_true_iff, decide_eq_true_iff, decide_eq_true_iff, decide_eq_true_iff]; exact h
  have e2 : gIC cMul (· * ·) (.int i) (.int j) = some (.int (i * j)) := if_pos e
  unfold dMul orG
  rw [e2]
theorem mod_int {i j : Int} (h : 0 < j) : dMod (.int i) (.int j) = some (.int (i % j)) := if_pos (decide_eq_true h)
theorem fdiv_int {i j : Int} (h : 0 < j) (h2 : j < 1073741824) : dFdiv (.int i) (.int j) = some (.int (i / j)) := if_pos (show (decide (0 < j) && decide (j < 1073741824)) = true by rw [decide_eq_true h, decide_eq_true h2]; rfl)
theorem add_int (i j : Int) : dAdd (.int i) (.int j) = some (.int (i + j)) := rfl
abbrev prm : Int := 2305843009213693907
theorem kneaded_val (s l : Int) : ∃ r, F__law_kneaded [.v (.int s), .v (.int l)] = .ret (.val (.int r)) [] := by
  have lp := sloop_map (m := mName 4) (t := (sseq (sset 3 (mbin dMod (mv (mbin dAdd (mv (mbin dAdd (mv (mbin dAdd (mv (mbin dMul (mopd 3) (mopd 3))) (mv (mbin dMul (mv (mret (.int 11))) (mopd 3))))) (mv (mbin dMul (mv (mret (.int 4099))) (mopd 4))))) (mopd 1))) (mopd 2)))
  snext)) (fun i : Nat => .int (0 + (i : Int))) (fun (_ : List Nat) (ρ : Rho) => ∃ (a : Int) (j4 : Sl), 0 ≤ a ∧ a < prm ∧ ρ = [.val (.int s), .val (.int l), .val (.int prm), .val (.int a), j4]) (List.range 4) [.val (.int s), .val (.int l), .val (.int prm), .val (.int ((s * 2862933555777941757 + l * 3037000493 + 29) % prm)), .emp]
    ⟨_, _, Int.emod_nonneg _ (by decide), Int.emod_lt_of_pos _ (by decide), rfl⟩ ?_
  · obtain ⟨ρ', e, a, j4, h0, h1, rfl⟩ := lp
    have h1 : a < 2305843009213693907 := h1
    refine ⟨a * prm + (a * 69621 + l) % prm, ?_⟩
    refine mkF_at [.val (.int s), .val (.int l), .emp, .emp, .emp] rfl rfl rfl (ρ := [.val (.int s), .val (.int l), .val (.int prm), .val (.int a), j4]) ?_ rfl
    refine s_seq (s_set rfl) (s_seq (s_set (e_bin (e_v (e_bin (e_v (e_bin (e_v (e_bin rfl rfl rfl rfl (mul_int (.inr (by omega))))) (e_v (e_bin rfl rfl rfl rfl (mul_int (.inr (by omega))))) rfl rfl (add_int _ _))) rfl rfl rfl (add_int _ _))) rfl rfl rfl (mod_int (by decide)))) (s_seq (s_forR (e_R1 rfl rfl) e) (s_ret ?_)))
    exact e_bin (e_v (e_bin rfl rfl rfl rfl (mul_int (.inr (by decide))))) (e_v (e_bin (e_v (e_bin (e_v (e_bin rfl rfl rfl rfl (mul_int (.inr (by omega))))) rfl rfl rfl (add_int _ _))) rfl rfl rfl (mod_int (by decide)))) rfl rfl (add_int _ _)
  · rintro i r ρ hi ⟨a, j4, h0, h1, rfl⟩
    have h1 : a < 2305843009213693907 := h1
    refine ⟨[.val (.int s), .val (.int l), .val (.int prm), .val (.int a), .val (.int (0 + (i : Int)))], [.val (.int s), .val (.int l), .val (.int prm), .val (.int ((a * a + 11 * a + 4099 * (0 + (i : Int)) + l) % prm)), .val (.int (0 + (i : Int)))], rfl, .inl (s_seq (s_set (e_bin (e_v (e_bin (e_v (e_bin (e_v (e_bin (e_v (e_bin rfl rfl rfl rfl (mul_int (.inr (by omega))))) (e_v (e_bin rfl rfl rfl rfl (mul_int (.inl (by omega))))) rfl rfl (add_int _ _))) (e_v (e_bin rfl rfl rfl rfl (mul_int (.inl (by omega))))) rfl rfl (add_int _ _))) rfl rfl rfl (add_int _ _))) rfl rfl rfl (mod_int (by decide)))) rfl), _, _, Int.emod_nonneg _ (by decide), Int.emod_lt_of_pos _ (by decide), rfl⟩
theorem shp_ints (ns : List Int) : SeqAt.shaped (.list (ns.map PyData.int)) = true := by
  have h : PyData.canLayAll0 (ns.map PyData.int) = true ∧ PyData.depthAll (ns.map PyData.int) = 0 := by
    induction ns with
    | nil => exact ⟨rfl, rfl⟩
    | cons x ns ih =>
      refine ⟨?_, ?_⟩
      · show (true && PyData.canLayAll0 (ns.map .int)) = true
        rw [ih.1]; rfl
      · show max 0 (PyData.depthAll (ns.map .int)) = 0
        rw [ih.2]; rfl
  unfold SeqAt.shaped
  rw [show PyData.canLay0 (.list (ns.map .int)) = true from h.1, show PyData.depth (.list (ns.map .int)) = 1 by show PyData.depthAll (ns.map .int) + 1 = 1; rw [h.2]]; rfl
/-! ### the pot -/
def potD (cs : List Int) (a b c : Int) : D := .list [.list (cs.map .int), .int a, .int b, .int c]
theorem lt_int (i j : Int) : dLt (.int i) (.int j) = some (.bool (decide (i < j))) := rfl
theorem below_val (cs : List Int) (a b c : Int) {n : Int} (hn : 0 < n) (hb : n < 1073741824) : ∃ r a' b' c', 0 ≤ r ∧ r < n ∧ F__law_below [.o (potD cs a b c), .v (.int n)] = .ret (.val (.int r)) [potD cs a' b' c'] := by
  have first : ∃ a' b' c' j3 j4 j5, (sif (mtest (mbin dLt (mv (mbin dIx (mopd 0) (mv (mret (.int 3))))) (mopd 1))) (sseq (spar 4 5 (mrv (mbin dIx (mopd 0) (mv (mret (.int 0))))) (mrv (mbin dIx (mopd 0) (mv (mret (.int 1))))))
  (sseq (sset 3 (mif (mtest (mbin dNe (mopd 4) (mv (mlst mnil)))) (mbin dIx (mopd 4) (mv (mbin dMod (mopd 5) (mv (mcb gLen (mcons (mopd 4) mnil)))))) (mret (.int 0))))
  (sseq (sif (morT (mtest (mbin dGe (mopd 5) (mv (mcb gLen (mcons (mopd 4) mnil))))) (mtest (mbin dLt (mopd 3) (mv (mbin dPow (mv (mret (.int 10))) (mv (mret (.int 16)))))))) (sseq (sset 3 (mcallV F__law_kneaded (mcons (mv (mbin dMod (mv (mcb gInt (mcons (mopd 3) mnil))) (mv (mret (.int 982451629))))) (mcons (mopd 5) mnil))))
  snext) snext)
  (sseq (sputL 0 (mbin dAdd (mopd 5) (mv (mret (.int 1)))) (mret (.int 1)))
  (sseq (sputL 0 (mvar 3) (mret (.int 2)))
  (sseq (sputL 0 (mvar 3) (mret (.int 3)))
  snext)))))) snext) [.own (potD cs a b c), .val (.int n), .emp, .emp, .emp, .emp] = .next [.own (potD cs a' b' c'), .val (.int n), .emp, j3, j4, j5] := by
    have tst : mtest (mbin dLt (mv (mbin dIx (mopd 0) (mv (mret (.int 3))))) (mopd 1)) [.own (potD cs a b c), .val (.int n), .emp, .emp, .emp, .emp] = .ok (decide (c < n)) [.own (potD cs a b c), .val (.int n), .emp, .emp, .emp, .emp] := e_test (e_bin (e_v (e_bin rfl rfl rfl rfl (ix_list (i := 3) rfl))) rfl rfl rfl (lt_int _ _))
    cases hc : decide (c < n) with
    | false => exact ⟨a, b, c, _, _, _, s_if tst (fun z => by rw [hc] at z; cases z) fun _ => rfl⟩
    | true =>
      let ρ1 : Rho := [.own (potD cs a b c), .val (.int n), .emp, .emp, .val (.list (cs.map .int)), .val (.int a)]
      have e1 : spar 4 5 (mrv (mbin dIx (mopd 0) (mv (mret (.int 0))))) (mrv (mbin dIx (mopd 0) (mv (mret (.int 1))))) [.own (potD cs a b c), .val (.int n), .emp, .emp, .emp, .emp] = .next ρ1 := s_par (ρ2 := [.own (potD cs a b c), .val (.int n), .emp, .emp, .emp, .emp]) (p := .val (.list (cs.map .int))) (q := .val (.int a)) (e_rv (e_bin rfl rfl rfl rfl (ix_list (i := 0) rfl))) (e_rv (e_bin rfl rfl rfl rfl (ix_list (i := 1) rfl)))
      have e2 : ∃ m, mif (mtest (mbin dNe (mopd 4) (mv (mlst mnil)))) (mbin dIx (mopd 4) (mv (mbin dMod (mopd 5) (mv (mcb gLen (mcons (mopd 4) mnil)))))) (mret (.int 0)) ρ1 = .ok (.int m) ρ1 := by
        have t2 : mtest (mbin dNe (mopd 4) (mv (mlst mnil))) ρ1 = .ok (!(cs.map PyData.int).isEmpty) ρ1 := e_test (e_bin rfl rfl rfl rfl (ne_nil (shp_ints cs)))
        cases cs with
        | nil => exact ⟨0, e_if t2 (fun z => by cases z) fun _ => rfl⟩
        | cons x xs =>
          have hl : (0 : Int) < ((x :: xs).length : Int) := by rw [List.length_cons]; omega
          have p0 := Int.emod_nonneg a (Int.ne_of_gt hl)
          have p1 := Int.emod_lt_of_pos a hl
          obtain ⟨k, hk⟩ := Int.eq_ofNat_of_zero_le p0
          have lk : k < (x :: xs).length := by omega
          refine ⟨(x :: xs)[k], e_if t2 (fun _ => e_bin rfl (e_v (e_bin rfl (e_v (e_cb1 rfl rfl (by show some (PyData.int ((List.map PyData.int (x :: xs)).length : Nat)) = _; rw [List.length_map]))) rfl rfl (mod_int hl))) rfl rfl ?_) fun z => by cases z⟩
          rw [hk]
          exact ix_list (by rw [List.getElem?_map, List.getElem?_eq_getElem lk]; rfl)
      obtain ⟨m, e2⟩ := e2
      let ρ2 : Rho := [.own (potD cs a b c), .val (.int n), .emp, .val (.int m), .val (.list (cs.map .int)), .val (.int a)]
      have e3 : ∃ m', sif (morT (mtest (mbin dGe (mopd 5) (mv (mcb gLen (mcons (mopd 4) mnil))))) (mtest (mbin dLt (mopd 3) (mv (mbin dPow (mv (mret (.int 10))) (mv (mret (.int 16)))))))) (sseq (sset 3 (mcallV F__law_kneaded (mcons (mv (mbin dMod (mv (mcb gInt (mcons (mopd 3) mnil))) (mv (mret (.int 982451629))))) (mcons (mopd 5) mnil))))
  snext) snext ρ2 = .next [.own (potD cs a b c), .val (.int n), .emp, .val (.int m'), .val (.list (cs.map .int)), .val (.int a)] := by
        have t3 : morT (mtest (mbin dGe (mopd 5) (mv (mcb gLen (mcons (mopd 4) mnil))))) (mtest (mbin dLt (mopd 3) (mv (mbin dPow (mv (mret (.int 10))) (mv (mret (.int 16))))))) ρ2 = .ok (decide (((cs.map PyData.int).length : Int) ≤ a) || decide (m < 10 ^ 16)) ρ2 :=
          e_or (e_test (e_bin rfl (e_v (e_cb1 rfl rfl rfl)) rfl rfl rfl)) fun _ => e_test (e_bin rfl (e_v (e_bin rfl rfl rfl rfl rfl)) rfl rfl rfl)
        cases ht : decide (((cs.map PyData.int).length : Int) ≤ a) || decide (m < 10 ^ 16) with
        | false => exact ⟨m, s_if t3 (fun z => by rw [ht] at z; cases z) fun _ => rfl⟩
        | true =>
          obtain ⟨r, er⟩ := kneaded_val (m % 982451629) a
          exact ⟨r, s_if t3 (fun _ => s_seq (s_set (mcallV_val (e_two (e_v (e_bin (e_v (e_cb1 rfl rfl rfl)) rfl rfl rfl (mod_int (by decide)))) rfl) rfl rfl er rfl)) rfl) fun z => by rw [ht] at z; cases z⟩
      obtain ⟨m', e3⟩ := e3
      refine ⟨a + 1, m', m', .val (.int m'), .val (.list (cs.map .int)), .val (.int a), s_if tst (fun _ => s_seq e1 (s_seq (s_set e2) (s_seq e3 (s_seq (s_putL (e_bin rfl rfl rfl rfl (add_int _ _)) rfl rfl rfl rfl) (s_seq (s_putL rfl rfl rfl rfl rfl) (s_seq (s_putL rfl rfl rfl rfl rfl) rfl)))))) fun z => by rw [hc] at z; cases z⟩
  obtain ⟨a', b', c', j3, j4, j5, e⟩ := first
  refine ⟨b' % n, a', b' / n, c' / n, Int.emod_nonneg _ (by omega), Int.emod_lt_of_pos _ hn, ?_⟩
  refine mkF_at [.own (potD cs a b c), .val (.int n), .emp, .emp, .emp, .emp] rfl rfl rfl (ρ := [.own (potD cs a' (b' / n) (c' / n)), .val (.int n), .val (.int (b' % n)), j3, j4, j5]) ?_ rfl
  refine s_seq e (s_seq (s_set (e_bin (e_v (e_cb1 (e_v (e_bin rfl rfl rfl rfl (ix_list (i := 2) rfl))) rfl rfl)) rfl rfl rfl (mod_int hn))) (s_seq (s_putL (e_bin (e_v (e_bin rfl rfl rfl rfl (ix_list (i := 2) rfl))) rfl rfl rfl (fdiv_int hn hb)) rfl rfl rfl rfl) (s_seq (s_putL (e_bin (e_v (e_bin rfl rfl rfl rfl (ix_list (i := 3) rfl))) rfl rfl rfl (fdiv_int hn hb)) rfl rfl rfl rfl) (s_retvV rfl))))
/-- below, as a call in a def whose slot 0 is the pot -/
theorem e_below {cs : List Int} {a b c n : Int} {f : M Op} {r : Rho} {ρ : Rho} (h0 : ρ = .own (potD cs a b c) :: r) (h : f ρ = .ok (.v (.int n)) ρ) (hn : 0 < n) (hb : n < 1073741824) : ∃ x a' b' c', 0 ≤ x ∧ x < n ∧ mcallV F__law_below (mcons (mopd 0) (mcons f mnil)) ρ = .ok (.int x) (.own (potD cs a' b' c') :: r) := by
  obtain ⟨x, a', b', c', x0, x1, e⟩ := below_val cs a b c hn hb
  subst h0
  exact ⟨x, a', b', c', x0, x1, mcallV_val (e_two rfl h) rfl rfl e rfl⟩
theorem pick_val (cs : List Int) (a b c : Int) {L : List D} (h1 : L ≠ []) (h2 : L.length ≤ 1000) : ∃ d ∈ L, ∃ a' b' c', F__law_pick [.o (potD cs a b c), .v (.list L)] = .ret (.val d) [potD cs a' b' c'] := by
  have h0 : 0 < L.length := List.length_pos_iff.mpr h1
  obtain ⟨x, a', b', c', x0, x1, e⟩ := e_below (cs := cs) (a := a) (b := b) (c := c) (n := (L.length : Nat)) (f := mv (mcb gLen (mcons (mopd 1) mnil))) (r := [.val (.list L)]) rfl (e_v (e_cb1 rfl rfl rfl)) (by omega) (by omega)
  obtain ⟨k, hk⟩ := Int.eq_ofNat_of_zero_le x0
  have lk : k < L.length := by omega
  refine ⟨L[k], List.getElem_mem lk, a', b', c', ?_⟩
  refine mkF_at [.own (potD cs a b c), .val (.list L)] rfl rfl rfl (ρ := [.own (potD cs a' b' c'), .val (.list L)]) (s_ret (e_bin rfl (e_v e) rfl rfl ?_)) rfl
  rw [hk]
  exact ix_list (List.getElem?_eq_getElem lk)
theorem e_pick {cs : List Int} {a b c : Int} {f : M Op} {L : List D} {r : Rho} {ρ : Rho} (h0 : ρ = .own (potD cs a b c) :: r) (h : f ρ = .ok (.v (.list L)) ρ) (h1 : L ≠ []) (h2 : L.length ≤ 1000) : ∃ d ∈ L, ∃ a' b' c', mcallV F__law_pick (mcons (mopd 0) (mcons f mnil)) ρ = .ok d (.own (potD cs a' b' c') :: r) := by
  obtain ⟨d, hd, a', b', c', e⟩ := pick_val cs a b c h1 h2
  subst h0
  exact ⟨d, hd, a', b', c', mcallV_val (e_two rfl h) rfl rfl e rfl⟩
theorem cutD_map {α : Type} (f : α → D) (L : List α) (lo hi : Option Int) : cutD (L.map f) lo hi = ((L.drop (HT.sIx L.length 0 lo)).take (HT.sIx L.length L.length hi - HT.sIx L.length 0 lo)).map f := by
  unfold cutD
  rw [List.length_map, ← List.map_drop, ← List.map_take]
def absI (i : Int) : Int := if i < 0 then -i else i
theorem enumD_mem : ∀ (L : List D) (n : Nat) (d : D), d ∈ enumD n L → ∃ (k : Nat) (x : D), x ∈ L ∧ d = .tuple [.int (k : Nat), x]
  | [], _, _, h => nomatch h
  | x :: L, n, d, h => by
    rcases List.mem_cons.mp h with rfl | h
    · exact ⟨n, x, List.mem_cons_self, rfl⟩
    · obtain ⟨k, y, hy, e⟩ := enumD_mem L (n + 1) d h
      exact ⟨k, y, List.mem_cons_of_mem _ hy, e⟩
theorem enumD_nil {L : List D} {n : Nat} (h : L = []) : enumD n L = [] := by subst h; rfl
theorem pot_val (ns : List Int) (h : ns.length ≤ 63) : ∃ cs, F__law_pot_of [.s ns] = .ret (.own (potD cs 0 0 0)) [] := by
  let L1 := (ns.drop (HT.sIx ns.length 0 none)).take (HT.sIx ns.length ns.length (some 17) - HT.sIx ns.length 0 none)
  let L2 := (ns.drop (HT.sIx ns.length 0 (some 17))).take (HT.sIx ns.length ns.length (some 60) - HT.sIx ns.length 0 (some 17))
  have c1 : mscr 0 (mret none) (mpart (mret (.int 17))) [.scr ns, .emp, .emp, .emp] = .ok (.list (L1.map .int)) [.scr ns, .emp, .emp, .emp] := by
    show Res.ok (PyData.list (cutD (ns.map .int) none (some 17))) _ = _
    rw [cutD_map]
  have c2 : ∀ cs : List Int, mscr 0 (mpart (mret (.int 17))) (mpart (mret (.int 60))) [.scr ns, .own (.list (cs.map .int)), .emp, .emp] = .ok (.list (L2.map .int)) [.scr ns, .own (.list (cs.map .int)), .emp, .emp] := by
    intro cs
    show Res.ok (PyData.list (cutD (ns.map .int) (some 17) (some 60))) _ = _
    rw [cutD_map]
  have l1 : L1.length ≤ 63 := by
    refine Nat.le_trans (List.length_take_le' _ _) ?_
    rw [List.length_drop]; omega
  have l17 : L2 ≠ [] → L1.length = 17 := by
    intro q
    have p2 : 0 < L2.length := List.length_pos_iff.mpr q
    have s17 : HT.sIx ns.length 0 (some 17) = min 17 ns.length := HT.sIx_nat ns.length 0 17
    have s17' : HT.sIx ns.length ns.length (some 17) = min 17 ns.length := HT.sIx_nat ns.length ns.length 17
    have e2 : L2.length ≤ ns.length - min 17 ns.length := by
      refine Nat.le_trans (List.length_take_le' _ _) ?_
      rw [List.length_drop, s17]; exact Nat.le_refl _
    show ((ns.drop (HT.sIx ns.length 0 none)).take (HT.sIx ns.length ns.length (some 17) - HT.sIx ns.length 0 none)).length = 17
    rw [List.length_take, List.length_drop, s17', HT.sIx_none]
    omega
  have e1 := m_lca (L := L1) (m := mName 3) (fi := mitL (mscr 0 (mret none) (mpart (mret (.int 17))))) (fe := mcb gAbs (mcons (mopd 3) mnil)) (vs := [3]) (ρ := [.scr ns, .emp, .emp, .emp]) PyData.int (fun i => .int (absI i)) (e_itL c1) rfl (lineN_big (by omega)) fun i hi => ⟨[.scr ns, .emp, .emp, .val (.int i)], rfl, e_cb1 rfl rfl rfl, rfl⟩
  have lp := sloop_inv (m := mTup [(mName 2), (mName 3)]) (t := (sseq (sputL 1 (mbin dAdd (mv (mbin dIx (mopd 1) (mv (mbin dMod (mopd 2) (mv (mret (.int 17))))))) (mv (mcb gAbs (mcons (mopd 3) mnil)))) (mbin dMod (mopd 2) (mv (mret (.int 17)))))
  snext)) (fun (ds : List D) (ρ : Rho) => ∃ (cs : List Int) (j2 j3 : Sl), (ds ≠ [] → cs.length = 17) ∧ (∀ d ∈ ds, ∃ (k : Nat) (x : Int), d = .tuple [.int (k : Nat), .int x]) ∧ ρ = [.scr ns, .own (.list (cs.map .int)), j2, j3]) (enumD 0 (L2.map .int)) [.scr ns, .own (.list ((L1.map absI).map .int)), .emp, .emp]
    ⟨L1.map absI, .emp, .emp, fun q => by
      rw [List.length_map]
      exact l17 fun z => q (enumD_nil (by rw [z]; rfl)), fun d hd => by
      obtain ⟨k, x, hx, e⟩ := enumD_mem _ _ _ hd
      obtain ⟨i, _, rfl⟩ := List.mem_map.mp hx
      exact ⟨k, i, e⟩, rfl⟩ ?_
  · obtain ⟨ρ', e, cs, j2, j3, _, _, rfl⟩ := lp
    refine ⟨cs, ?_⟩
    refine mkF_at [.scr ns, .emp, .emp, .emp] rfl rfl rfl (ρ := [.scr ns, .val (.list (cs.map .int)), j2, j3]) ?_ rfl
    have e1' : mlc (mitL (mscr 0 (mret none) (mpart (mret (.int 17))))) (mName 3) (mret true) (mcb gAbs (mcons (mopd 3) mnil)) [3] [.scr ns, .emp, .emp, .emp] = .ok (.list ((L1.map absI).map .int)) [.scr ns, .emp, .emp, .emp] := by
      rw [e1, List.map_map]; rfl
    refine s_seq (s_setF e1') (s_seq (s_for (ds := enumD 0 (L2.map .int)) (ρ1 := [.scr ns, .own (.list ((L1.map absI).map .int)), .emp, .emp]) ?_ e) (s_fz rfl (s_retO (e_lst (e_four rfl rfl rfl rfl) (by show 4 ≤ 1000; omega) rfl))))
    unfold mitE mbind
    show Res.bind (mcons (mv (mscr 0 (mpart (mret (.int 17))) (mpart (mret (.int 60))))) mnil [.scr ns, .own (.list ((L1.map absI).map .int)), .emp, .emp]) _ = _
    rw [e_one (e_v (c2 (L1.map absI)))]; rfl
  · rintro d ds ρ ⟨cs, j2, j3, l, hd, rfl⟩
    obtain ⟨k, x, rfl⟩ := hd d List.mem_cons_self
    have l := l (by intro z; cases z)
    have p0 := Int.emod_nonneg (k : Int) (show (17 : Int) ≠ 0 by decide)
    have p1 := Int.emod_lt_of_pos (k : Int) (show (0 : Int) < 17 by decide)
    obtain ⟨i, hi⟩ := Int.eq_ofNat_of_zero_le p0
    have li : i < cs.length := by omega
    refine ⟨[.scr ns, .own (.list (cs.map .int)), .val (.int (k : Nat)), .val (.int x)], [.scr ns, .own (.list ((cs.set i (cs[i] + absI x)).map .int)), .val (.int (k : Nat)), .val (.int x)], rfl, .inl (s_seq (s_putL (j := i) (e_bin (e_v (e_bin rfl (e_v (e_bin rfl rfl rfl rfl (mod_int (by decide)))) rfl rfl (d := .int cs[i]) ?_)) (e_v (e_cb1 rfl rfl rfl)) rfl rfl (add_int _ _)) rfl (e_bin rfl rfl rfl rfl (mod_int (by decide))) rfl ?_) ?_), cs.set i (cs[i] + absI x), _, _, fun _ => by rw [List.length_set]; exact l, fun d hd' => hd d (List.mem_cons_of_mem _ hd'), rfl⟩
    · rw [hi]
      exact ix_list (by rw [List.getElem?_map, List.getElem?_eq_getElem li]; rfl)
    · rw [hi]
      exact ixN_nat (by rw [List.length_map]; exact li)
    · rw [List.map_set]; rfl
end G

set_option Elab.async false
set_option linter.all false
set_option maxRecDepth 100000
set_option maxHeartbeats 0
namespace G
open PySem L2 VS
theorem add_txt {L M : List Str} (h : L.length + M.length ≤ 1000) : dAdd (txt L) (txt M) = some (txt (L ++ M)) := by
  have e : gCat (txt L) (txt M) = some (txt (L ++ M)) := by
    show (if (L.map PyData.str).length + (M.map PyData.str).length ≤ lineN then some (PyData.list (L.map PyData.str ++ M.map PyData.str)) else none) = _
    rw [if_pos (by rw [List.length_map, List.length_map]; exact lineN_big h), ← List.map_append]; rfl
  unfold dAdd orG
  rw [show gI (· + ·) (txt L) (txt M) = none from rfl]; dsimp only
  rw [show gAddS (txt L) (txt M) = none from rfl]; dsimp only
  rw [e]
theorem add_tup {L M : List D} (h : L.length + M.length ≤ 1000) : dAdd (.tuple L) (.tuple M) = some (.tuple (L ++ M)) := by
  have e : gCatT (.tuple L) (.tuple M) = some (.tuple (L ++ M)) := by
    show (if L.length + M.length ≤ lineN then some (PyData.tuple (L ++ M)) else none) = _
    rw [if_pos (lineN_big h)]
  unfold dAdd orG
  rw [show gI (· + ·) (.tuple L) (.tuple M) = none from rfl]; dsimp only
  rw [show gAddS (.tuple L) (.tuple M) = none from rfl]; dsimp only
  rw [show gCat (.tuple L) (.tuple M) = none from rfl]; dsimp only
  rw [e]
theorem add_list {L M : List D} (h : L.length + M.length ≤ 1000) : dAdd (.list L) (.list M) = some (.list (L ++ M)) := by
  have e : gCat (.list L) (.list M) = some (.list (L ++ M)) := by
    show (if L.length + M.length ≤ lineN then some (PyData.list (L ++ M)) else none) = _
    rw [if_pos (lineN_big h)]
  unfold dAdd orG
  rw [show gI (· + ·) (.list L) (.list M) = none from rfl]; dsimp only
  rw [show gAddS (.list L) (.list M) = none from rfl]; dsimp only
  rw [e]
theorem same_val {a s : D} (h : gRepr [a] = some s) : F__law_same [.v a, .v a] = .ret (.val (.bool true)) [] := by
  obtain ⟨x, rfl⟩ : ∃ x, s = .str x := by
    by_cases c : a.showable = true ∧ a.depth ≤ 50 ∧ a.shown.length ≤ 16777216
    · rw [show gRepr [a] = some (.str a.shown) from if_pos c] at h
      cases h; exact ⟨_, rfl⟩
    · rw [show gRepr [a] = none from if_neg c] at h
      cases h
  refine mkF_at [.val a, .val a] rfl rfl rfl (ρ := [.val a, .val a]) (s_ret (e_bin (e_v (e_cb1 rfl rfl h)) (e_v (e_cb1 rfl rfl h)) rfl rfl ?_)) rfl
  rw [eq_str, decide_eq_true rfl]
/-! ### the shapes -/
def okW : D → Bool
  | .str s => decide (s ∈ T12)
  | _ => false
def okPart : D → Bool
  | .list ps => decide (ps.length ≤ 3) && ps.all okW
  | _ => false
def okShape : D → Bool
  | .list xs => !xs.isEmpty && decide (xs.length ≤ 6) && xs.all okPart
  | _ => false
def chkS : FR → Bool
  | .ret (.own (.list xs)) [] => xs.all okShape && decide (xs.length ≤ 100)
  | _ => false
theorem shapes_chk : chkS (F__law_shapes []) = true := by decide +kernel
def Wd (M : List Str) : Prop := M.length ≤ 3 ∧ ∀ s ∈ M, s ∈ T12
def Shp (L : List (List Str)) : Prop := L ≠ [] ∧ L.length ≤ 6 ∧ ∀ M ∈ L, Wd M
theorem all_words : ∀ {ps : List D}, ps.all okW = true → ∃ M : List Str, ps = M.map .str ∧ ∀ s ∈ M, s ∈ T12
  | [], _ => ⟨[], rfl, fun _ h => nomatch h⟩
  | p :: ps, h => by
    rw [List.all_cons, Bool.and_eq_true] at h
    obtain ⟨M, rfl, hM⟩ := all_words h.2
    have h1 := h.1
    cases p with
    | str s => exact ⟨s :: M, rfl, fun x hx => (List.mem_cons.mp hx).elim (fun z => z ▸ of_decide_eq_true h1) (hM x)⟩
    | none => cases h1
    | bool _ => cases h1
    | int _ => cases h1
    | list _ => cases h1
    | tuple _ => cases h1
    | dict _ => cases h1
theorem all_parts : ∀ {xs : List D}, xs.all okPart = true → ∃ L : List (List Str), xs = L.map txt ∧ ∀ M ∈ L, Wd M
  | [], _ => ⟨[], rfl, fun _ h => nomatch h⟩
  | p :: ps, h => by
    rw [List.all_cons, Bool.and_eq_true] at h
    obtain ⟨L, rfl, hL⟩ := all_parts h.2
    have h1 := h.1
    cases p with
    | list qs =>
      obtain ⟨a, b⟩ := Bool.and_eq_true_iff.mp h1
      obtain ⟨M, rfl, hM⟩ := all_words b
      have a := of_decide_eq_true a
      rw [List.length_map] at a
      exact ⟨M :: L, rfl, fun x hx => (List.mem_cons.mp hx).elim (fun z => z ▸ ⟨a, hM⟩) (hL x)⟩
    | none => cases h1
    | bool _ => cases h1
    | int _ => cases h1
    | str _ => cases h1
    | tuple _ => cases h1
    | dict _ => cases h1
theorem shape_of {d : D} (h : okShape d = true) : ∃ L, d = .list (L.map txt) ∧ Shp L := by
  cases d with
  | list xs =>
    obtain ⟨a, c⟩ := Bool.and_eq_true_iff.mp h
    obtain ⟨a, b⟩ := Bool.and_eq_true_iff.mp a
    obtain ⟨L, rfl, hL⟩ := all_parts c
    have b := of_decide_eq_true b
    rw [List.length_map] at b
    refine ⟨L, rfl, fun z => ?_, b, hL⟩
    subst z; cases a
  | none => cases h
  | bool _ => cases h
  | int _ => cases h
  | str _ => cases h
  | tuple _ => cases h
  | dict _ => cases h
theorem shapes_val : ∃ xs, F__law_shapes [] = .ret (.own (.list xs)) [] ∧ xs.length ≤ 100 ∧ ∀ x ∈ xs, ∃ L, x = .list (L.map txt) ∧ Shp L := by
  have h := shapes_chk
  unfold chkS at h
  split at h
  · rename_i xs e
    obtain ⟨a, b⟩ := Bool.and_eq_true_iff.mp h
    exact ⟨xs, e, of_decide_eq_true b, fun x hx => shape_of (List.all_eq_true.mp a x hx)⟩
  · cases h
/-! ### a question: the names -/
theorem wxyzu : gListA [.str "wxyzu"] = some (.list ((["w", "x", "y", "z", "u"] : List Str).map .str)) := by decide +kernel
theorem e_below' {cs : List Int} {n : Int} {f : M Op} (a b c : Int) (r : Rho) (h : f (.own (potD cs a b c) :: r) = .ok (.v (.int n)) (.own (potD cs a b c) :: r)) (hn : 0 < n) (hb : n < 1073741824) : ∃ x a' b' c', 0 ≤ x ∧ x < n ∧ mcallV F__law_below (mcons (mopd 0) (mcons f mnil)) (.own (potD cs a b c) :: r) = .ok (.int x) (.own (potD cs a' b' c') :: r) := e_below rfl h hn hb
theorem e_pick' {cs : List Int} {f : M Op} {L : List D} (a b c : Int) (r : Rho) (h : f (.own (potD cs a b c) :: r) = .ok (.v (.list L)) (.own (potD cs a b c) :: r)) (h1 : L ≠ []) (h2 : L.length ≤ 1000) : ∃ d ∈ L, ∃ a' b' c', mcallV F__law_pick (mcons (mopd 0) (mcons f mnil)) (.own (potD cs a b c) :: r) = .ok d (.own (potD cs a' b' c') :: r) := e_pick rfl h h1 h2
theorem rgOk_small {i : Int} (h0 : 0 ≤ i) (h1 : i ≤ 1000) : rgOk i = true := by
  unfold rgOk
  rw [decide_eq_true (by omega : -(2 ^ 62) ≤ i), decide_eq_true (by omega : i < 2 ^ 62)]; rfl
theorem rangeD_len (i : Int) : (rangeD 0 i).length = i.toNat := by
  unfold rangeD; rw [List.length_map, List.length_range, Int.sub_zero]
/-- slots of the question's def once the names are there -/
def NS (s1 : Sl) (L : List (List Str)) : Prop := s1 = .val (.list (L.map txt)) ∨ s1 = .own (.list (L.map txt))
theorem names_step (cs : List Int) (a b c : Int) : ∃ L s1 a' b' c' j5, Shp L ∧ NS s1 L ∧ ∃ ρ1, sset 1 (mcallV F__law_pick (mcons (mopd 0) (mcons (mv (mbin dAdd (mv (mcallF F__law_shapes mnil)) (mv (mlst (mcons (mv (mret .none)) (mcons (mv (mret .none)) (mcons (mv (mret .none)) mnil))))))) mnil))) [.own (potD cs a b c), .emp, .emp, .emp, .emp, .emp, .emp, .emp, .emp, .emp, .emp, .emp, .emp] = .next ρ1 ∧
   sif (mtest (mbin gIsN (mopd 1) (mv (mret .none)))) (sseq (ssetF 1 (mlst mnil))
  (sseq (sforR (mitR1 (mcons (mv (mbin dAdd (mv (mret (.int 1))) (mv (mcallV F__law_below (mcons (mopd 0) (mcons (mv (mret (.int 5))) mnil)))))) mnil)) (mName 5) (sseq (sbind (mmut 1 "list" gAppend (mcons (mv (mlc (mitR1 (mcons (mv (mbin dAdd (mv (mret (.int 1))) (mv (mcallV F__law_below (mcons (mopd 0) (mcons (mv (mret (.int 3))) mnil)))))) mnil)) (mName 12) (mret true) (mcallV F__law_pick (mcons (mopd 0) (mcons (mv (mcb gListA (mcons (mv (mret (.str "wxyzu"))) mnil))) mnil))) [12])) mnil)) fun _ => snext)
  snext))
  snext)) snext ρ1 = .next [.own (potD cs a' b' c'), s1, .emp, .emp, .emp, j5, .emp, .emp, .emp, .emp, .emp, .emp, .emp] := by
  obtain ⟨xs, es, lx, hx⟩ := shapes_val
  obtain ⟨d, hd, a1, b1, c1, e1⟩ := e_pick' (cs := cs) a b c [.emp, .emp, .emp, .emp, .emp, .emp, .emp, .emp, .emp, .emp, .emp, .emp] (f := mv (mbin dAdd (mv (mcallF F__law_shapes mnil)) (mv (mlst (mcons (mv (mret .none)) (mcons (mv (mret .none)) (mcons (mv (mret .none)) mnil)))))))
    (L := xs ++ [.none, .none, .none]) (e_v (e_bin (e_v (mcallF_val e_nil rfl rfl es rfl)) rfl rfl rfl (add_list (by show xs.length + 3 ≤ 1000; omega)))) (by intro z; have := congrArg List.length z; rw [List.length_append] at this; cases this) (by rw [List.length_append]; show xs.length + 3 ≤ 1000; omega)
  rcases List.mem_append.mp hd with hd | hd
  · obtain ⟨L, rfl, hL⟩ := hx d hd
    refine ⟨L, .val (.list (L.map txt)), a1, b1, c1, .emp, hL, .inl rfl, _, s_set e1, ?_⟩
    exact s_if (k := false) (e_test (e_bin rfl rfl rfl rfl rfl)) (fun z => by cases z) fun _ => rfl
  · have : d = .none := by
      rcases List.mem_cons.mp hd with h | h
      · exact h
      rcases List.mem_cons.mp h with h | h
      · exact h
      · exact List.mem_singleton.mp h
    subst this
    obtain ⟨x, a2, b2, c2, x0, x1, e2⟩ := e_below' (cs := cs) a1 b1 c1 [.own (.list []), .emp, .emp, .emp, .emp, .emp, .emp, .emp, .emp, .emp, .emp, .emp] (f := mv (mret (.int 5))) (n := 5) rfl (by decide) (by decide)
    have lp := sloop_map (m := mName 5) (t := (sseq (sbind (mmut 1 "list" gAppend (mcons (mv (mlc (mitR1 (mcons (mv (mbin dAdd (mv (mret (.int 1))) (mv (mcallV F__law_below (mcons (mopd 0) (mcons (mv (mret (.int 3))) mnil)))))) mnil)) (mName 12) (mret true) (mcallV F__law_pick (mcons (mopd 0) (mcons (mv (mcb gListA (mcons (mv (mret (.str "wxyzu"))) mnil))) mnil))) [12])) mnil)) fun _ => snext)
  snext)) (fun i : Nat => .int (0 + (i : Int))) (fun (r : List Nat) (ρ : Rho) => ∃ (L : List (List Str)) (a b c : Int) (j5 : Sl), (r = [] → L ≠ []) ∧ L.length + r.length ≤ 6 ∧ (∀ M ∈ L, Wd M) ∧ ρ = [.own (potD cs a b c), .own (.list (L.map txt)), .emp, .emp, .emp, j5, .emp, .emp, .emp, .emp, .emp, .emp, .emp]) (List.range (1 + x - 0).toNat) [.own (potD cs a2 b2 c2), .own (.list []), .emp, .emp, .emp, .emp, .emp, .emp, .emp, .emp, .emp, .emp, .emp]
      ⟨[], a2, b2, c2, .emp, fun z => by have := congrArg List.length z; rw [List.length_range] at this; change _ = 0 at this; omega, by rw [List.length_range]; show 0 + _ ≤ 6; omega, fun _ h => (nomatch h), rfl⟩ ?_
    · obtain ⟨ρ', e, L, a', b', c', j5, ne, le, hL, rfl⟩ := lp
      refine ⟨L, .own (.list (L.map txt)), a', b', c', j5, ⟨ne rfl, le, hL⟩, .inr rfl, _, s_set e1, ?_⟩
      exact s_if (k := true) (e_test (e_bin rfl rfl rfl rfl rfl)) (fun _ => s_seq (s_setF rfl) (s_seq (s_forR (e_R1 (e_one (e_v (e_bin rfl (e_v e2) rfl rfl (add_int _ _)))) (rgOk_small (by omega) (by omega))) e) rfl)) fun z => by cases z
    · rintro i r ρ hi ⟨L, a, b, c, j5, ne, le, hL, rfl⟩
      rw [List.length_cons] at le
      obtain ⟨y, a3, b3, c3, y0, y1, e3⟩ := e_below' (cs := cs) a b c [.own (.list (L.map txt)), .emp, .emp, .emp, .val (.int (0 + (i : Int))), .emp, .emp, .emp, .emp, .emp, .emp, .emp] (f := mv (mret (.int 3))) (n := 3) rfl (by decide) (by decide)
      have cp := mlc_chg (m := mName 12) (fi := mitR1 (mcons (mv (mbin dAdd (mv (mret (.int 1))) (mv (mcallV F__law_below (mcons (mopd 0) (mcons (mv (mret (.int 3))) mnil)))))) mnil)) (ft := mret true) (fe := mcallV F__law_pick (mcons (mopd 0) (mcons (mv (mcb gListA (mcons (mv (mret (.str "wxyzu"))) mnil))) mnil))) (vs := [12]) (ρ := [.own (potD cs a b c), .own (.list (L.map txt)), .emp, .emp, .emp, .val (.int (0 + (i : Int))), .emp, .emp, .emp, .emp, .emp, .emp, .emp])
        (ds := rangeD 0 (1 + y)) (fun ρ => ∃ a b c, ρ = [.own (potD cs a b c), .own (.list (L.map txt)), .emp, .emp, .emp, .val (.int (0 + (i : Int))), .emp, .emp, .emp, .emp, .emp, .emp, .emp]) (fun d => ∃ s ∈ T12, d = .str s) (e_R1 (e_one (e_v (e_bin rfl (e_v e3) rfl rfl (add_int _ _)))) (rgOk_small (by omega) (by omega))) rfl (lineN_big (by rw [rangeD_len]; omega)) ⟨_, _, _, rfl⟩ ?_
      · obtain ⟨ys, ρ', ec, ⟨a4, b4, c4, rfl⟩, ly, hy⟩ := cp
        obtain ⟨M, rfl, hM⟩ : ∃ M : List Str, ys = M.map .str ∧ ∀ s ∈ M, s ∈ T12 := all_words (List.all_eq_true.mpr fun z hz => by
          obtain ⟨s, hs, rfl⟩ := hy z hz
          exact decide_eq_true hs)
        rw [List.length_map, rangeD_len] at ly
        refine ⟨[.own (potD cs a b c), .own (.list (L.map txt)), .emp, .emp, .emp, .val (.int (0 + (i : Int))), .emp, .emp, .emp, .emp, .emp, .emp, .emp], [.own (potD cs a4 b4 c4), .own (.list ((L ++ [M]).map txt)), .emp, .emp, .emp, .val (.int (0 + (i : Int))), .emp, .emp, .emp, .emp, .emp, .emp, .emp], rfl, .inl (s_seq (s_exp (e_mut rfl rfl (e_one (e_v ec)) rfl rfl (app_list (L := L.map txt) (lineN_lt (by rw [List.length_map]; omega))))) ?_), L ++ [M], a4, b4, c4, _, fun _ z => (by have := congrArg List.length z; rw [List.length_append] at this; cases this), by rw [List.length_append]; show L.length + 1 + _ ≤ 6; omega, ?_, rfl⟩
        · rw [List.map_append]; rfl
        · intro K hK
          rcases List.mem_append.mp hK with hK | hK
          · exact hL K hK
          · cases List.mem_singleton.mp hK
            exact ⟨by omega, hM⟩
      · rintro d hd ρ ⟨a, b, c, rfl⟩
        obtain ⟨z, hz, a5, b5, c5, e5⟩ := e_pick' (cs := cs) a b c [.own (.list (L.map txt)), .emp, .emp, .emp, .val (.int (0 + (i : Int))), .emp, .emp, .emp, .emp, .emp, .emp, .val d] (f := mv (mcb gListA (mcons (mv (mret (.str "wxyzu"))) mnil))) (L := (["w", "x", "y", "z", "u"] : List Str).map .str) (e_v (e_cb1 rfl rfl wxyzu)) (by intro z; cases z) (by show 5 ≤ 1000; omega)
        obtain ⟨s, hs, rfl⟩ := List.mem_map.mp hz
        exact ⟨_, _, _, rfl, rfl, e5, ⟨s, (by decide +kernel : ∀ s ∈ (["w", "x", "y", "z", "u"] : List Str), s ∈ T12) s hs, rfl⟩, a5, b5, c5, rfl⟩
end G

set_option Elab.async false
set_option linter.all false
set_option maxRecDepth 100000
set_option maxHeartbeats 0
namespace G
open PySem L2 VS
theorem map_erase {α : Type} (f : α → D) : ∀ (L : List α) (k : Nat), (L.map f).eraseIdx k = (L.eraseIdx k).map f
  | [], k => by cases k <;> rfl
  | x :: L, 0 => rfl
  | x :: L, k + 1 => by
    show f x :: (L.map f).eraseIdx k = f x :: (L.eraseIdx k).map f
    rw [map_erase f L k]
theorem pop_map {α : Type} (f : α → D) (L : List α) {k : Nat} (h : k < L.length) (hl : L.length ≤ 1000) : gPopAt (.list (L.map f)) [.int (k : Nat)] = some (.list ((L.eraseIdx k).map f), f L[k]) := by
  unfold gPopAt
  dsimp only
  rw [if_pos (by rw [decide_eq_true (by omega : -(2 ^ 62) ≤ (k : Int)), decide_eq_true (by omega : (k : Int) < 2 ^ 62)]; rfl), List.length_map, (ixN_seq (ixN_nat h)).1]
  rw [Option.bind_some, List.getElem?_map, List.getElem?_eq_getElem h]
  show some (PyData.list ((L.map f).eraseIdx k), f L[k]) = _
  rw [map_erase]
theorem shp_txts_aux : ∀ {Ls : List (List Str)}, (∀ L ∈ Ls, ∀ s ∈ L, okT s = true) → PyData.canLayAll0 (Ls.map txt) = true ∧ PyData.depthAll (Ls.map txt) ≤ 1
  | [], _ => ⟨rfl, Nat.zero_le _⟩
  | L :: Ls, h => by
    obtain ⟨a, b⟩ := shp_txts_aux (Ls := Ls) fun x hx => h x (List.mem_cons_of_mem _ hx)
    obtain ⟨c, d⟩ := layAll_txt (h L List.mem_cons_self)
    refine ⟨?_, ?_⟩
    · show (PyData.canLayAll0 (L.map .str) && PyData.canLayAll0 (Ls.map txt)) = true
      rw [a, c]; rfl
    · show max (PyData.depthAll (L.map .str) + 1) (PyData.depthAll (Ls.map txt)) ≤ 1
      rw [d]; omega
theorem shp_txts {Ls : List (List Str)} (h : ∀ L ∈ Ls, ∀ s ∈ L, okT s = true) : SeqAt.shaped (.list (Ls.map txt)) = true := by
  obtain ⟨a, b⟩ := shp_txts_aux h
  unfold SeqAt.shaped
  rw [show PyData.canLay0 (.list (Ls.map txt)) = true from a, show PyData.depth (.list (Ls.map txt)) = PyData.depthAll (Ls.map txt) + 1 from rfl, decide_eq_true (show PyData.depthAll (Ls.map txt) + 1 ≤ 64 by omega)]; rfl
theorem cut_take {ps : List D} {k : Nat} (h : k ≤ ps.length) : dSl (.list ps) none (some (k : Int)) = some (.list (ps.take k)) := by
  show some (PyData.list (cutD ps none (some (k : Int)))) = _
  unfold cutD
  rw [HT.sIx_none, HT.sIx_nat, List.drop_zero, Nat.sub_zero, Nat.min_eq_left h]
theorem cut_drop {ps : List D} {k : Nat} (h : k ≤ ps.length) : dSl (.list ps) (some (k : Int)) none = some (.list (ps.drop k)) := by
  show some (PyData.list (cutD ps (some (k : Int)) none)) = _
  unfold cutD
  rw [HT.sIx_none, HT.sIx_nat, Nat.min_eq_left h, List.take_of_length_le (by rw [List.length_drop]; exact Nat.le_refl _)]
def GoodP (ps : List D) : Prop := ∀ p ∈ ps, (∃ s ∈ T12, p = .str s) ∨ (∃ i : Int, 0 ≤ i ∧ i < 3 ∧ p = .int i)
theorem good_txt {M : List Str} (h : ∀ s ∈ M, s ∈ T12) : GoodP (M.map .str) := fun p hp => by
  obtain ⟨s, hs, rfl⟩ := List.mem_map.mp hp
  exact .inl ⟨s, h s hs, rfl⟩
theorem erase_perm : ∀ (L : List Str) (j : Nat) (h : j < L.length), (L[j] :: L.eraseIdx j).Perm L
  | x :: L, 0, h => .refl _
  | x :: L, j + 1, h => (List.Perm.swap _ _ _).trans ((erase_perm L j (Nat.lt_of_succ_lt_succ h)).cons x)
structure QI (left : List (List Str)) (atoms : List Atom) (tbl : List Str) : Prop where
  sum : left.length + atoms.length ≤ 6
  pos : 1 ≤ left.length + atoms.length
  six : tbl.length + atoms.length = 6
  nd : (tbl ++ tabs atoms).Nodup
  t12 : ∀ t ∈ tbl ++ tabs atoms, t ∈ T12
  wd : ∀ M ∈ left, Wd M
  sh : ∀ a ∈ atoms, a.2.length ≤ 4
  gp : ∀ a ∈ atoms, GoodP a.2
theorem QI.step {left : List (List Str)} {atoms : List Atom} {tbl : List Str} (h : QI left atoms tbl) {k j : Nat} (hk : k < left.length) (hj : j < tbl.length) {ps : List D} (g : GoodP ps) (l : ps.length ≤ 4) : QI (left.eraseIdx k) (atoms ++ [(tbl[j], ps)]) (tbl.eraseIdx j) := by
  have pm : (tbl.eraseIdx j ++ tabs (atoms ++ [(tbl[j], ps)])).Perm (tbl ++ tabs atoms) := by
    have e : tabs (atoms ++ [(tbl[j], ps)]) = tabs atoms ++ [tbl[j]] := by unfold tabs; rw [List.map_append]; rfl
    rw [e, ← List.append_assoc]
    refine (List.perm_append_singleton _ _).trans ?_
    exact (erase_perm tbl j hj).append_right (tabs atoms)
  have le := List.length_eraseIdx_of_lt hk
  have le2 := List.length_eraseIdx_of_lt hj
  have s1 := h.sum
  have s2 := h.pos
  have s3 := h.six
  refine ⟨?_, ?_, ?_, pm.nodup_iff.mpr h.nd, fun t ht => h.t12 t (pm.mem_iff.mp ht), fun M hM => h.wd M (List.mem_of_mem_eraseIdx hM), ?_, ?_⟩
  · rw [List.length_append, le]; show left.length - 1 + (atoms.length + 1) ≤ 6; omega
  · rw [List.length_append, le]; show 1 ≤ left.length - 1 + (atoms.length + 1); omega
  · rw [List.length_append, le2]; show tbl.length - 1 + (atoms.length + 1) = 6; omega
  · intro a ha
    rcases List.mem_append.mp ha with ha | ha
    · exact h.sh a ha
    · cases List.mem_singleton.mp ha; exact l
  · intro a ha
    rcases List.mem_append.mp ha with ha | ha
    · exact h.gp a ha
    · cases List.mem_singleton.mp ha; exact g
def QS (p s1 tb j5 lf aa j8 j10 : Sl) : Rho := [p, s1, tb, .emp, .emp, j5, lf, aa, j8, .emp, j10, .emp, .emp]
/-- an integer among the parts, or none -/
theorem int_step (cs : List Int) (a b c : Int) (s1 tb j5 lf aa j10 : Sl) {M : List Str} (hM : Wd M) : ∃ ps a' b' c' j10', GoodP ps ∧ ps.length ≤ 4 ∧ sif (morT (mtest (mbin dEq (mopd 8) (mv (mlst mnil)))) (mtest (mbin dEq (mv (mcallV F__law_below (mcons (mopd 0) (mcons (mv (mret (.int 6))) mnil)))) (mv (mret (.int 0)))))) (sseq (sset 10 (mcallV F__law_below (mcons (mopd 0) (mcons (mv (mbin dAdd (mv (mcb gLen (mcons (mopd 8) mnil))) (mv (mret (.int 1))))) mnil))))
  (sseq (sset 8 (mbin dAdd (mv (mbin dAdd (mv (mslice (mopd 8) (mret none) (mpart (mvar 10)))) (mv (mlst (mcons (mv (mcallV F__law_below (mcons (mopd 0) (mcons (mv (mret (.int 3))) mnil)))) mnil))))) (mv (mslice (mopd 8) (mpart (mvar 10)) (mret none)))))
  snext)) snext (QS (.own (potD cs a b c)) s1 tb j5 lf aa (.val (txt M)) j10) = .next (QS (.own (potD cs a' b' c')) s1 tb j5 lf aa (.val (.list ps)) j10') := by
  obtain ⟨lM, tM⟩ := hM
  have mid : ∀ (a b c : Int), ∃ ps a' b' c' j10', GoodP ps ∧ ps.length ≤ 4 ∧ (sseq (sset 10 (mcallV F__law_below (mcons (mopd 0) (mcons (mv (mbin dAdd (mv (mcb gLen (mcons (mopd 8) mnil))) (mv (mret (.int 1))))) mnil))))
  (sseq (sset 8 (mbin dAdd (mv (mbin dAdd (mv (mslice (mopd 8) (mret none) (mpart (mvar 10)))) (mv (mlst (mcons (mv (mcallV F__law_below (mcons (mopd 0) (mcons (mv (mret (.int 3))) mnil)))) mnil))))) (mv (mslice (mopd 8) (mpart (mvar 10)) (mret none)))))
  snext)) (QS (.own (potD cs a b c)) s1 tb j5 lf aa (.val (txt M)) j10) = .next (QS (.own (potD cs a' b' c')) s1 tb j5 lf aa (.val (.list ps)) j10') := by
    intro a b c
    obtain ⟨x, a1, b1, c1, x0, x1, e1⟩ := e_below' (cs := cs) a b c [s1, tb, .emp, .emp, j5, lf, aa, .val (txt M), .emp, j10, .emp, .emp] (f := mv (mbin dAdd (mv (mcb gLen (mcons (mopd 8) mnil))) (mv (mret (.int 1))))) (n := (M.length : Int) + 1) (e_v (e_bin (e_v (e_cb1 rfl rfl (len_txt M))) rfl rfl rfl (add_int _ _))) (by omega) (by omega)
    obtain ⟨k, rfl⟩ := Int.eq_ofNat_of_zero_le x0
    have hk : k ≤ (M.map PyData.str).length := by rw [List.length_map]; omega
    obtain ⟨y, a2, b2, c2, y0, y1, e2⟩ := e_below' (cs := cs) a1 b1 c1 [s1, tb, .emp, .emp, j5, lf, aa, .val (txt M), .emp, .val (.int k), .emp, .emp] (f := mv (mret (.int 3))) (n := 3) rfl (by decide) (by decide)
    have lt := List.length_take_le k (M.map PyData.str)
    have lm : (M.map PyData.str).length = M.length := List.length_map _
    have lt : ((M.map PyData.str).take k).length = k := by rw [List.length_take, Nat.min_eq_left hk]
    have ld : ((M.map PyData.str).drop k).length = M.length - k := by rw [List.length_drop, lm]
    refine ⟨((M.map PyData.str).take k ++ [.int y]) ++ (M.map PyData.str).drop k, a2, b2, c2, .val (.int k), ?_, ?_, ?_⟩
    · intro p hp
      rcases List.mem_append.mp hp with hp | hp
      · rcases List.mem_append.mp hp with hp | hp
        · exact good_txt tM p (List.mem_of_mem_take hp)
        · exact .inr ⟨y, y0, y1, List.mem_singleton.mp hp⟩
      · exact good_txt tM p (List.mem_of_mem_drop hp)
    · rw [List.length_append, List.length_append, lt, ld]
      show k + 1 + _ ≤ 4
      omega
    · refine s_seq (s_set e1) (s_seq (s_set (e_bin (e_v (e_bin (e_v (e_slice rfl rfl (e_part rfl) rfl (cut_take hk))) (e_v (e_lst (e_one (e_v e2)) (by show 1 ≤ 1000; omega) rfl)) rfl rfl (add_list ?_))) (e_v (e_slice rfl (e_part rfl) rfl rfl (cut_drop hk))) rfl rfl (add_list ?_))) rfl)
      · rw [lt]; show k + 1 ≤ 1000; omega
      · rw [List.length_append, lt, ld]; show k + 1 + _ ≤ 1000; omega
  have t8 : mtest (mbin dEq (mopd 8) (mv (mlst mnil))) (QS (.own (potD cs a b c)) s1 tb j5 lf aa (.val (txt M)) j10) = .ok (M.map PyData.str).isEmpty (QS (.own (potD cs a b c)) s1 tb j5 lf aa (.val (txt M)) j10) := e_test (e_bin rfl rfl rfl rfl (eq_nil (shp_txt (L := M) fun s hs => okT12 (tM s hs))))
  cases hE : (M.map PyData.str).isEmpty with
  | true =>
    rw [hE] at t8
    obtain ⟨ps, a', b', c', j10', g, l, e⟩ := mid a b c
    exact ⟨ps, a', b', c', j10', g, l, s_if (e_orT t8) (fun _ => e) fun z => by cases z⟩
  | false =>
    rw [hE] at t8
    obtain ⟨y, a2, b2, c2, y0, y1, e2⟩ := e_below' (cs := cs) a b c [s1, tb, .emp, .emp, j5, lf, aa, .val (txt M), .emp, j10, .emp, .emp] (f := mv (mret (.int 6))) (n := 6) rfl (by decide) (by decide)
    have t9 := e_orF (g := mtest (mbin dEq (mv (mcallV F__law_below (mcons (mopd 0) (mcons (mv (mret (.int 6))) mnil)))) (mv (mret (.int 0))))) t8 (e_test (e_bin (e_v e2) rfl rfl rfl (eq_int _ _)))
    cases hy : decide (y = 0) with
    | true =>
      obtain ⟨ps, a', b', c', j10', g, l, e⟩ := mid a2 b2 c2
      exact ⟨ps, a', b', c', j10', g, l, s_if t9 (fun _ => e) fun z => by rw [hy] at z; cases z⟩
    | false => exact ⟨M.map .str, a2, b2, c2, j10, good_txt tM, by rw [List.length_map]; omega, s_if t9 (fun z => by rw [hy] at z; cases z) fun _ => rfl⟩
def stepW : SM := (sseq (sset 8 (mmut 6 "list" gPopAt (mcons (mv (mcallV F__law_below (mcons (mopd 0) (mcons (mv (mcb gLen (mcons (mopd 6) mnil))) mnil)))) mnil)))
  (sseq (sif (morT (mtest (mbin dEq (mopd 8) (mv (mlst mnil)))) (mtest (mbin dEq (mv (mcallV F__law_below (mcons (mopd 0) (mcons (mv (mret (.int 6))) mnil)))) (mv (mret (.int 0)))))) (sseq (sset 10 (mcallV F__law_below (mcons (mopd 0) (mcons (mv (mbin dAdd (mv (mcb gLen (mcons (mopd 8) mnil))) (mv (mret (.int 1))))) mnil))))
  (sseq (sset 8 (mbin dAdd (mv (mbin dAdd (mv (mslice (mopd 8) (mret none) (mpart (mvar 10)))) (mv (mlst (mcons (mv (mcallV F__law_below (mcons (mopd 0) (mcons (mv (mret (.int 3))) mnil)))) mnil))))) (mv (mslice (mopd 8) (mpart (mvar 10)) (mret none)))))
  snext)) snext)
  (sseq (sbind (mmut 7 "list" gAppend (mcons (mv (mtup (mcons (mv (mmut 2 "list" gPopAt (mcons (mv (mcallV F__law_below (mcons (mopd 0) (mcons (mv (mcb gLen (mcons (mopd 2) mnil))) mnil)))) mnil))) (mcons (mv (mcb gTup (mcons (mopd 8) mnil))) mnil)))) mnil)) fun _ => snext)
  snext)))
theorem whileW (cs : List Int) (a b c : Int) (s1 j5 : Sl) {L : List (List Str)} {tbl : List Str} (q0 : QI L [] tbl) : ∃ ρ', swhile (mtest (mbin dNe (mopd 6) (mv (mlst mnil)))) stepW 1000 (QS (.own (potD cs a b c)) s1 (.own (txt tbl)) j5 (.own (.list (L.map txt))) (.own (.list [])) .emp .emp) = .next ρ' ∧ ∃ a b c atoms tbl j8 j10, QI [] atoms tbl ∧ ρ' = QS (.own (potD cs a b c)) s1 (.own (txt tbl)) j5 (.own (.list [])) (.own (.list (atoms.map atD))) j8 j10 := by
  refine swhile_inv (c := mtest (mbin dNe (mopd 6) (mv (mlst mnil)))) (t := stepW) (fun (n : Nat) (ρ : Rho) => ∃ (a b c : Int) (left : List (List Str)) (atoms : List Atom) (tbl : List Str) (j8 j10 : Sl), n = left.length ∧ QI left atoms tbl ∧ ρ = QS (.own (potD cs a b c)) s1 (.own (txt tbl)) j5 (.own (.list (left.map txt))) (.own (.list (atoms.map atD))) j8 j10)
    (fun ρ' => ∃ a b c atoms tbl j8 j10, QI [] atoms tbl ∧ ρ' = QS (.own (potD cs a b c)) s1 (.own (txt tbl)) j5 (.own (.list [])) (.own (.list (atoms.map atD))) j8 j10) ?_ L.length 1000 _ (by have := q0.sum; omega) ⟨a, b, c, L, [], tbl, .emp, .emp, rfl, q0, rfl⟩
  rintro n ρ ⟨a, b, c, left, atoms, tbl, j8, j10, rfl, qi, rfl⟩
  have tst : mtest (mbin dNe (mopd 6) (mv (mlst mnil))) (QS (.own (potD cs a b c)) s1 (.own (txt tbl)) j5 (.own (.list (left.map txt))) (.own (.list (atoms.map atD))) j8 j10) = .ok (!(left.map txt).isEmpty) (QS (.own (potD cs a b c)) s1 (.own (txt tbl)) j5 (.own (.list (left.map txt))) (.own (.list (atoms.map atD))) j8 j10) := e_test (e_bin rfl rfl rfl rfl (ne_nil (shp_txts fun M hM s hs => okT12 ((qi.wd M hM).2 s hs))))
  by_cases hz : left = []
  · subst hz
    exact .inl ⟨tst, a, b, c, atoms, tbl, j8, j10, qi, rfl⟩
  right
  have hl : 0 < left.length := List.length_pos_iff.mpr hz
  have he : (!(left.map txt).isEmpty) = true := by cases left with
    | nil => exact absurd rfl hz
    | cons _ _ => rfl
  rw [he] at tst
  have s1' := qi.sum
  have s2' := qi.six
  have ht : 0 < tbl.length := by omega
  obtain ⟨x, a1, b1, c1, x0, x1, e1⟩ := e_below' (cs := cs) a b c [s1, .own (txt tbl), .emp, .emp, j5, .own (.list (left.map txt)), .own (.list (atoms.map atD)), j8, .emp, j10, .emp, .emp] (f := mv (mcb gLen (mcons (mopd 6) mnil))) (n := (left.length : Nat)) (e_v (e_cb1 rfl rfl (by show some (PyData.int ((left.map txt).length : Nat)) = _; rw [List.length_map]))) (by omega) (by omega)
  obtain ⟨k, rfl⟩ := Int.eq_ofNat_of_zero_le x0
  have hk : k < left.length := by omega
  obtain ⟨ps, a2, b2, c2, j10', g, l, e2⟩ := int_step cs a1 b1 c1 s1 (.own (txt tbl)) j5 (.own (.list ((left.eraseIdx k).map txt))) (.own (.list (atoms.map atD))) j10 (qi.wd left[k] (List.getElem_mem hk))
  obtain ⟨y, a3, b3, c3, y0, y1, e3⟩ := e_below' (cs := cs) a2 b2 c2 [s1, .own (txt tbl), .emp, .emp, j5, .own (.list ((left.eraseIdx k).map txt)), .own (.list (atoms.map atD)), .val (.list ps), .emp, j10', .emp, .emp] (f := mv (mcb gLen (mcons (mopd 2) mnil))) (n := (tbl.length : Nat)) (e_v (e_cb1 rfl rfl (len_txt tbl))) (by omega) (by omega)
  obtain ⟨j, rfl⟩ := Int.eq_ofNat_of_zero_le y0
  have hj : j < tbl.length := by omega
  refine ⟨tst, left.length - 1, QS (.own (potD cs a3 b3 c3)) s1 (.own (txt (tbl.eraseIdx j))) j5 (.own (.list ((left.eraseIdx k).map txt))) (.own (.list ((atoms ++ [(tbl[j], ps)]).map atD))) (.val (.list ps)) j10', by omega, .inl ?_, a3, b3, c3, left.eraseIdx k, atoms ++ [(tbl[j], ps)], tbl.eraseIdx j, _, _, (List.length_eraseIdx_of_lt hk).symm, qi.step hk hj g l, rfl⟩
  have f1 : mmut 6 "list" gPopAt (mcons (mv (mcallV F__law_below (mcons (mopd 0) (mcons (mv (mcb gLen (mcons (mopd 6) mnil))) mnil)))) mnil) (QS (.own (potD cs a b c)) s1 (.own (txt tbl)) j5 (.own (.list (left.map txt))) (.own (.list (atoms.map atD))) j8 j10) = .ok (txt left[k]) (QS (.own (potD cs a1 b1 c1)) s1 (.own (txt tbl)) j5 (.own (.list ((left.eraseIdx k).map txt))) (.own (.list (atoms.map atD))) j8 j10) :=
    e_mut (i := 6) (T := "list") (d0 := .list (left.map txt)) (d1 := .list (left.map txt)) rfl rfl (e_one (e_v e1)) rfl rfl (pop_map txt left hk (by omega))
  have f3 : mmut 2 "list" gPopAt (mcons (mv (mcallV F__law_below (mcons (mopd 0) (mcons (mv (mcb gLen (mcons (mopd 2) mnil))) mnil)))) mnil) (QS (.own (potD cs a2 b2 c2)) s1 (.own (txt tbl)) j5 (.own (.list ((left.eraseIdx k).map txt))) (.own (.list (atoms.map atD))) (.val (.list ps)) j10') = .ok (.str tbl[j]) (QS (.own (potD cs a3 b3 c3)) s1 (.own (txt (tbl.eraseIdx j))) j5 (.own (.list ((left.eraseIdx k).map txt))) (.own (.list (atoms.map atD))) (.val (.list ps)) j10') :=
    e_mut (i := 2) (T := "list") (d0 := txt tbl) (d1 := txt tbl) rfl rfl (e_one (e_v e3)) rfl rfl (pop_map .str tbl hj (by omega))
  refine s_seq (s_set f1) (s_seq e2 (s_seq (s_exp (e_mut rfl rfl (e_one (e_v (e_tup (e_two (e_v f3) (e_v (e_cb1 rfl rfl rfl))) (by show 2 ≤ 1000; omega) rfl))) rfl rfl (app_list (L := atoms.map atD) (lineN_lt (by rw [List.length_map]; omega))))) ?_))
  rw [List.map_append]; rfl
/-! ### the names' renaming -/
def ren (n : Str) : D → D
  | .str s => if s = "x" then .str n else .str s
  | d => d
theorem good_ren {n : Str} (hn : n ∈ T12) {p : D} (h : (∃ s ∈ T12, p = .str s) ∨ (∃ i : Int, 0 ≤ i ∧ i < 3 ∧ p = .int i)) : (∃ s ∈ T12, ren n p = .str s) ∨ (∃ i : Int, 0 ≤ i ∧ i < 3 ∧ ren n p = .int i) := by
  rcases h with ⟨s, hs, rfl⟩ | ⟨i, a, b, rfl⟩
  · left
    by_cases q : s = "x"
    · exact ⟨n, hn, if_pos q⟩
    · exact ⟨s, hs, if_neg q⟩
  · exact .inr ⟨i, a, b, rfl⟩
def renA (n : Str) (a : Atom) : Atom := (a.1, a.2.map (ren n))
theorem tabs_ren (n : Str) (ats : List Atom) : tabs (ats.map (renA n)) = tabs ats := by
  unfold tabs; rw [List.map_map]; rfl
theorem QI.ok {atoms : List Atom} {tbl : List Str} (h : QI [] atoms tbl) {n : Str} (hn : n ∈ T12) : QOk (atoms.map (renA n)) where
  nd := by rw [tabs_ren]; exact (List.nodup_append.mp h.nd).2.1
  few := by rw [List.length_map]; have := h.sum; change 0 + _ ≤ 6 at this; omega
  pos := fun z => by have := congrArg List.length z; rw [List.length_map] at this; have q := h.pos; change 1 ≤ 0 + _ at q; change atoms.length = 0 at this; omega
  short := fun a ha => by
    obtain ⟨b, hb, rfl⟩ := List.mem_map.mp ha
    show (b.2.map (ren n)).length ≤ 4
    rw [List.length_map]; exact h.sh b hb
  okt := fun a ha => by
    obtain ⟨b, hb, rfl⟩ := List.mem_map.mp ha
    exact h.t12 b.1 (List.mem_append_right _ (List.mem_map_of_mem hb))
  okp := fun a ha p hp => by
    obtain ⟨b, hb, rfl⟩ := List.mem_map.mp ha
    obtain ⟨q, hq, rfl⟩ := List.mem_map.mp hp
    exact good_ren hn (h.gp b hb q hq)
theorem tbl0 : QI [] [] ["r", "a", "t1", "s", "big", "c"] → True := fun _ => trivial
theorem tbl_nd : (["r", "a", "t1", "s", "big", "c"] : List Str).Nodup := by decide +kernel
theorem tbl_12 : ∀ t ∈ (["r", "a", "t1", "s", "big", "c"] : List Str), t ∈ T12 := by decide +kernel
theorem QI.init {L : List (List Str)} (h : Shp L) : QI L [] ["r", "a", "t1", "s", "big", "c"] where
  sum := h.2.1
  pos := List.length_pos_iff.mpr h.1
  six := rfl
  nd := by rw [show tabs [] = ([] : List Str) from rfl, List.append_nil]; exact tbl_nd
  t12 := by rw [show tabs [] = ([] : List Str) from rfl, List.append_nil]; exact tbl_12
  wd := h.2.2
  sh := fun _ h => nomatch h
  gp := fun _ h => nomatch h
theorem question_val (cs : List Int) (a b c : Int) : ∃ ats a' b' c', QOk ats ∧ F__law_some_question [.o (potD cs a b c)] = .ret (.val (qD (.tuple []) ats)) [potD cs a' b' c'] := by
  obtain ⟨L, s1, a1, b1, c1, j5, hL, hs, ρ1, e1, e2⟩ := names_step cs a b c
  obtain ⟨ρ2, e3, a2, b2, c2, atoms, tbl, j8, j10, qi, rfl⟩ := whileW cs a1 b1 c1 s1 j5 (QI.init hL)
  have al : atoms.length ≤ 6 := by have := qi.sum; change 0 + _ ≤ 6 at this; omega
  have f3 : spar 6 7 (mro (mcb gListA (mcons (mopd 1) mnil))) (mro (mlst mnil)) [.own (potD cs a1 b1 c1), s1, .emp, .emp, .emp, j5, .emp, .emp, .emp, .emp, .emp, .emp, .emp] = .next [.own (potD cs a1 b1 c1), s1, .emp, .emp, .emp, j5, .own (.list (L.map txt)), .own (.list []), .emp, .emp, .emp, .emp, .emp] := by
    rcases hs with rfl | rfl
    · exact s_par (ρ2 := [.own (potD cs a1 b1 c1), .val (.list (L.map txt)), .emp, .emp, .emp, j5, .emp, .emp, .emp, .emp, .emp, .emp, .emp]) (p := .own (.list (L.map txt))) (q := .own (.list [])) (e_ro (e_cb1 rfl rfl rfl)) (e_ro rfl)
    · exact s_par (ρ2 := [.own (potD cs a1 b1 c1), .own (.list (L.map txt)), .emp, .emp, .emp, j5, .emp, .emp, .emp, .emp, .emp, .emp, .emp]) (p := .own (.list (L.map txt))) (q := .own (.list [])) (e_ro (e_cb1 rfl rfl rfl)) (e_ro rfl)
  have lc : mlc (mitL (mvar 7)) (mName 11) (mret true) (mbin dIx (mopd 11) (mv (mret (.int 0)))) [11] [.own (potD cs a2 b2 c2), s1, .own (txt tbl), .emp, .emp, j5, .own (.list []), .val (.list (atoms.map atD)), j8, .emp, j10, .emp, .emp] = .ok (txt (tabs atoms)) [.own (potD cs a2 b2 c2), s1, .own (txt tbl), .emp, .emp, j5, .own (.list []), .val (.list (atoms.map atD)), j8, .emp, j10, .emp, .emp] := by
    have r := m_lca (L := atoms) (m := mName 11) (fi := mitL (mvar 7)) (fe := mbin dIx (mopd 11) (mv (mret (.int 0)))) (vs := [11]) (ρ := [.own (potD cs a2 b2 c2), s1, .own (txt tbl), .emp, .emp, j5, .own (.list []), .val (.list (atoms.map atD)), j8, .emp, j10, .emp, .emp]) atD (fun a => .str a.1) rfl rfl (lineN_big (by omega)) fun x hx => ⟨[.own (potD cs a2 b2 c2), s1, .own (txt tbl), .emp, .emp, j5, .own (.list []), .val (.list (atoms.map atD)), j8, .emp, j10, .val (atD x), .emp], rfl, e_bin rfl rfl rfl rfl rfl, rfl⟩
    rw [r]; unfold txt tabs; rw [List.map_map]; rfl
  have tl : ((["x", "y"] : List Str) ++ tabs atoms).length ≤ 8 := by rw [List.length_append, tabs_len]; show 2 + _ ≤ 8; omega
  obtain ⟨d, hd, a3, b3, c3, e4⟩ := e_pick' (cs := cs) a2 b2 c2 [s1, .own (txt tbl), .emp, .emp, j5, .own (.list []), .val (.list (atoms.map atD)), j8, .emp, j10, .emp, .emp] (f := mv (mbin dAdd (mv (mlst (mcons (mv (mret (.str "x"))) (mcons (mv (mret (.str "y"))) mnil)))) (mv (mlc (mitL (mvar 7)) (mName 11) (mret true) (mbin dIx (mopd 11) (mv (mret (.int 0)))) [11])))) (L := ((["x", "y"] : List Str) ++ tabs atoms).map .str) (e_v (e_bin rfl (e_v lc) rfl rfl (add_txt (L := ["x", "y"]) (M := tabs atoms) (by rw [tabs_len]; show 2 + _ ≤ 1000; omega)))) (by intro z; cases z) (by rw [List.length_map]; omega)
  obtain ⟨n, hn', rfl⟩ := List.mem_map.mp hd
  have hn : n ∈ T12 := by
    rcases List.mem_append.mp hn' with hn | hn
    · exact (by decide +kernel : ∀ s ∈ (["x", "y"] : List Str), s ∈ T12) n hn
    · exact qi.t12 n (List.mem_append_right _ hn)
  have lp := sloop_map (m := mTup [(mName 9), (mName 8)]) (t := (sseq (sbind (mmut 4 "list" gAppend (mcons (mv (mtup (mcons (mopd 9) (mcons (mv (mcb gTup (mcons (mv (mlc (mitT (mvar 8)) (mName 12) (mret true) (mif (mtest (mbin dEq (mopd 12) (mv (mret (.str "x"))))) (mvar 3) (mvar 12)) [12])) mnil))) mnil)))) mnil)) fun _ => snext)
  snext)) atD (fun (r : List Atom) (ρ : Rho) => ∃ (dn : List Atom) (x1 x2 x5 x6 x7 x8 x9 x10 : Sl), dn ++ r = atoms ∧ ρ = [.own (potD cs a3 b3 c3), x1, x2, .val (.str n), .own (.list ((dn.map (renA n)).map atD)), x5, x6, x7, x8, x9, x10, .emp, .emp]) atoms (demote [.own (potD cs a3 b3 c3), s1, .own (txt tbl), .val (.str n), .own (.list []), j5, .own (.list []), .val (.list (atoms.map atD)), j8, .emp, j10, .emp, .emp]) ⟨[], _, _, _, _, _, _, _, _, rfl, rfl⟩ ?_
  · obtain ⟨ρ', e5, dn, x1, x2, x5, x6, x7, x8, x9, x10, q, rfl⟩ := lp
    rw [List.append_nil] at q; subst q
    refine ⟨dn.map (renA n), a3, b3, c3, qi.ok hn, ?_⟩
    refine mkF_at [.own (potD cs a b c), .emp, .emp, .emp, .emp, .emp, .emp, .emp, .emp, .emp, .emp, .emp, .emp] rfl rfl rfl (ρ := [.own (potD cs a3 b3 c3), x1, x2, .val (.str n), .own (.list ((dn.map (renA n)).map atD)), x5, x6, x7, x8, x9, x10, .emp, .emp]) ?_ rfl
    refine s_seq e1 (s_seq e2 (s_seq f3 (s_seq (s_setF (d := txt ["r", "a", "t1", "s", "big", "c"]) rfl) (s_seq e3 ?_))))
    refine s_fz rfl (s_seq (s_set e4) (s_seq (s_setF rfl) (s_seq (s_for rfl e5) (s_ret (e_tup (e_two (e_v (e_tup rfl (by show 0 ≤ 1000; omega) rfl)) (e_v (e_cb1 rfl rfl rfl))) (by show 2 ≤ 1000; omega) rfl)))))
  · rintro x r ρ hx ⟨dn, x1, x2, x5, x6, x7, x8, x9, x10, q, rfl⟩
    have ld : dn.length + (r.length + 1) = atoms.length := by rw [← q, List.length_append, List.length_cons]
    have lc2 : mlc (mitT (mvar 8)) (mName 12) (mret true) (mif (mtest (mbin dEq (mopd 12) (mv (mret (.str "x"))))) (mvar 3) (mvar 12)) [12] [.own (potD cs a3 b3 c3), x1, x2, .val (.str n), .own (.list ((dn.map (renA n)).map atD)), x5, x6, x7, .val (.tuple x.2), .val (.str x.1), x10, .emp, .emp] = .ok (.list (x.2.map (ren n))) [.own (potD cs a3 b3 c3), x1, x2, .val (.str n), .own (.list ((dn.map (renA n)).map atD)), x5, x6, x7, .val (.tuple x.2), .val (.str x.1), x10, .emp, .emp] := by
      refine mlc_all (ren n) rfl rfl (lineN_big (by have := qi.sh x hx; omega)) fun d hd => ⟨[.own (potD cs a3 b3 c3), x1, x2, .val (.str n), .own (.list ((dn.map (renA n)).map atD)), x5, x6, x7, .val (.tuple x.2), .val (.str x.1), x10, .emp, .val d], rfl, ?_, rfl⟩
      rcases qi.gp x hx d hd with ⟨s, hs, rfl⟩ | ⟨i, _, _, rfl⟩
      · refine e_if (e_test (e_bin rfl rfl rfl rfl (eq_str _ _))) (fun z => ?_) (fun z => ?_)
        · rw [show ren n (.str s) = .str n from if_pos (of_decide_eq_true z)]; rfl
        · rw [show ren n (.str s) = .str s from if_neg (of_decide_eq_false z)]; rfl
      · exact e_if (k := false) (e_test (e_bin rfl rfl rfl rfl rfl)) (fun z => by cases z) (fun z => rfl)
    refine ⟨[.own (potD cs a3 b3 c3), x1, x2, .val (.str n), .own (.list ((dn.map (renA n)).map atD)), x5, x6, x7, .val (.tuple x.2), .val (.str x.1), x10, .emp, .emp], [.own (potD cs a3 b3 c3), x1, x2, .val (.str n), .own (.list (((dn ++ [x]).map (renA n)).map atD)), x5, x6, x7, .val (.tuple x.2), .val (.str x.1), x10, .emp, .emp], rfl, .inl (s_seq (s_exp (e_mut rfl rfl (e_one (e_v (e_tup (e_two rfl (e_v (e_cb1 (e_v lc2) rfl rfl))) (by show 2 ≤ 1000; omega) rfl))) rfl rfl (app_list (L := (dn.map (renA n)).map atD) (lineN_lt (by rw [List.length_map, List.length_map]; omega))))) ?_), dn ++ [x], _, _, _, _, _, _, _, _, by rw [List.append_assoc]; exact q, rfl⟩
    rw [List.map_append, List.map_append]; rfl
end G

set_option Elab.async false
set_option linter.all false
set_option maxRecDepth 100000
set_option maxHeartbeats 0
namespace G
open PySem L2 VS
/-! ### sizes -/
mutual
def siz : D → Nat
  | .none => 1
  | .bool _ => 1
  | .int _ => 1
  | .str _ => 1
  | .list xs => 1 + sizs xs
  | .tuple xs => 1 + sizs xs
  | .dict _ => 1
def sizs : List D → Nat
  | [] => 0
  | x :: xs => siz x + sizs xs
end
theorem siz_pos (d : D) : 1 ≤ siz d := by
  cases d <;> first | exact Nat.le_refl _ | (unfold siz; omega)
theorem sizs_app : ∀ (xs ys : List D), sizs (xs ++ ys) = sizs xs + sizs ys
  | [], ys => by show sizs ys = 0 + sizs ys; omega
  | x :: xs, ys => by
    show siz x + sizs (xs ++ ys) = siz x + sizs xs + sizs ys
    rw [sizs_app xs ys]; omega
theorem sizs_rev : ∀ (xs : List D), sizs xs.reverse = sizs xs
  | [] => rfl
  | x :: xs => by
    rw [List.reverse_cons, sizs_app, sizs_rev xs]
    show sizs xs + (siz x + 0) = siz x + sizs xs; omega
theorem sizs_take (xs : List D) (k : Nat) : sizs (xs.take k) + sizs (xs.drop k) = sizs xs := by
  rw [← sizs_app, List.take_append_drop]
theorem siz_mem : ∀ {xs : List D} {x : D}, x ∈ xs → siz x ≤ sizs xs
  | y :: xs, x, h => by
    show siz x ≤ siz y + sizs xs
    rcases List.mem_cons.mp h with rfl | h
    · omega
    · have := siz_mem h; omega
theorem depthAll_iff {n : Nat} : ∀ {xs : List D}, PyData.depthAll xs ≤ n ↔ ∀ x ∈ xs, x.depth ≤ n
  | [] => ⟨fun _ _ h => (nomatch h), fun _ => Nat.zero_le _⟩
  | x :: xs => by
    show max x.depth (PyData.depthAll xs) ≤ n ↔ _
    rw [Nat.max_le, depthAll_iff]
    exact ⟨fun ⟨a, b⟩ y hy => (List.mem_cons.mp hy).elim (fun z => z ▸ a) (b y), fun h => ⟨h x List.mem_cons_self, fun y hy => h y (List.mem_cons_of_mem _ hy)⟩⟩
/-- a thing within bounds -/
structure Gd (n w s : Nat) (d : D) : Prop where
  lf : lv d = true
  dp : d.depth ≤ n
  wd : wid d ≤ w
  sz : siz d ≤ s
theorem Gd.mono {n w s n' w' s' : Nat} {d : D} (h : Gd n w s d) (a : n ≤ n') (b : w ≤ w') (c : s ≤ s') : Gd n' w' s' d := ⟨h.lf, Nat.le_trans h.dp a, Nat.le_trans h.wd b, Nat.le_trans h.sz c⟩
theorem gd_tup {n w s : Nat} {xs : List D} (h : ∀ x ∈ xs, lv x = true ∧ x.depth ≤ n ∧ wid x ≤ w) (l : xs.length ≤ w) (z : 1 + sizs xs ≤ s) : Gd (n + 1) w s (.tuple xs) :=
  ⟨lvs_iff.mpr fun x hx => (h x hx).1, by show PyData.depthAll xs + 1 ≤ n + 1; have := depthAll_iff.mpr fun x hx => (h x hx).2.1; omega, wid_tup.mpr ⟨l, fun x hx => (h x hx).2.2⟩, z⟩
theorem gd_lst {n w s : Nat} {xs : List D} (h : ∀ x ∈ xs, lv x = true ∧ x.depth ≤ n ∧ wid x ≤ w) (l : xs.length ≤ w) (z : 1 + sizs xs ≤ s) : Gd (n + 1) w s (.list xs) :=
  ⟨lvs_iff.mpr fun x hx => (h x hx).1, by show PyData.depthAll xs + 1 ≤ n + 1; have := depthAll_iff.mpr fun x hx => (h x hx).2.1; omega, wid_lst.mpr ⟨l, fun x hx => (h x hx).2.2⟩, z⟩
theorem gd_str {s : Str} (h : s ∈ T14) : Gd 0 0 1 (.str s) := ⟨decide_eq_true h, Nat.le_refl _, Nat.le_refl _, Nat.le_refl _⟩
theorem sizs_str : ∀ (L : List Str), sizs (L.map .str) = L.length
  | [] => rfl
  | x :: L => by
    show 1 + sizs (L.map .str) = L.length + 1
    rw [sizs_str L]; omega
theorem gd_tupS {L : List Str} {w : Nat} (h : ∀ t ∈ L, t ∈ T14) (l : L.length ≤ w) : Gd 1 w (w + 1) (tupS L) := gd_tup (fun x hx => by
  obtain ⟨s, hs, rfl⟩ := List.mem_map.mp hx
  exact ⟨decide_eq_true (h s hs), Nat.le_refl _, Nat.zero_le _⟩) (by rw [List.length_map]; exact l) (by rw [sizs_str]; omega)
/-! ### what repr asks -/
theorem shown_leaf : ∀ s ∈ T14, (PyData.shown (.str s)).length ≤ 10 := by decide +kernel
theorem shown_zero : (PyData.shown (.int 0)).length ≤ 10 := by decide +kernel
theorem join_le' (ts : List Str) : (Str.join ", " ts).length ≤ piled ts := by
  by_cases h : ts = []
  · subst h; exact Nat.le_of_eq rfl
  · have := join_length_add ts h; omega
mutual
theorem shown_le : ∀ (d : D), lv d = true → d.showable = true ∧ d.shown.length + 2 ≤ 16 * siz d
  | .none, _ => ⟨rfl, by show 4 + 2 ≤ 16; omega⟩
  | .bool b, _ => ⟨rfl, by
    show (PyData.shown (.bool b)).length + 2 ≤ 16 * 1
    have : (PyData.shown (.bool b)).length ≤ 5 := by cases b <;> decide +kernel
    omega⟩
  | .int i, h => by
    have e : i = 0 := of_decide_eq_true h
    subst e
    refine ⟨by decide +kernel, ?_⟩
    show (PyData.shown (.int 0)).length + 2 ≤ 16 * 1
    have := shown_zero; omega
  | .str s, h => ⟨rfl, by
    show (PyData.shown (.str s)).length + 2 ≤ 16 * 1
    have := shown_leaf s (of_decide_eq_true h); omega⟩
  | .list xs, h => by
    obtain ⟨a, b⟩ := shown_les xs h
    refine ⟨a, ?_⟩
    show (listText (PyData.shownAll xs)).length + 2 ≤ 16 * (1 + sizs xs)
    rw [listText_eq_join, strLen_append, strLen_append]
    have j := join_le' (PyData.shownAll xs)
    have e2 : (("[" : String) : Str).length = 1 := rfl
    have e3 : (("]" : String) : Str).length = 1 := rfl
    omega
  | .tuple xs, h => by
    obtain ⟨a, b⟩ := shown_les xs h
    refine ⟨a, ?_⟩
    show (tupleText (PyData.shownAll xs)).length + 2 ≤ 16 * (1 + sizs xs)
    unfold tupleText
    rw [strLen_append, strLen_append]
    have j := join_le' (PyData.shownAll xs)
    have e : ((if (PyData.shownAll xs).length == 1 then ",)" else ")" : String) : Str).length ≤ 2 := by
      split
      · exact Nat.le_of_eq rfl
      · show 1 ≤ 2; omega
    have e2 : (("(" : String) : Str).length = 1 := rfl
    omega
  | .dict kv, h => by
    cases kv with
    | nil =>
      have e : (dictText []).length ≤ 2 := by decide +kernel
      exact ⟨rfl, show (dictText []).length + 2 ≤ 16 * 1 by omega⟩
    | cons _ _ => cases h
theorem shown_les : ∀ (xs : List D), lvs xs = true → PyData.showableAll xs = true ∧ piled (PyData.shownAll xs) ≤ 16 * sizs xs
  | [], _ => ⟨rfl, Nat.zero_le _⟩
  | x :: xs, h => by
    obtain ⟨h1, h2⟩ := Bool.and_eq_true_iff.mp (show (lv x && lvs xs) = true from h)
    obtain ⟨a, b⟩ := shown_le x h1
    obtain ⟨c, d⟩ := shown_les xs h2
    refine ⟨by show (PyData.showable x && PyData.showableAll xs) = true; rw [a, c]; rfl, ?_⟩
    show piled (PyData.shown x :: PyData.shownAll xs) ≤ 16 * (siz x + sizs xs)
    rw [piled_cons]; omega
end
theorem Gd.rep {n w s : Nat} {d : D} (h : Gd n w s d) (a : n ≤ 50) (b : s ≤ 1048576) : gRepr [d] = some (.str d.shown) := by
  obtain ⟨x, y⟩ := shown_le d h.lf
  have := h.sz
  have := h.dp
  exact if_pos ⟨x, by omega, by omega⟩
/-! ### things with something changed -/
theorem e_andF {f g : M Bool} {ρ ρ1 : Rho} (h : f ρ = .ok false ρ1) : mandT f g ρ = .ok false ρ1 := by
  unfold mandT mbind; rw [h]; rfl
theorem e_andR {f g : M Bool} {ρ ρ1 : Rho} {r : Res Bool} (h : f ρ = .ok true ρ1) (h2 : g ρ1 = r) : mandT f g ρ = r := by
  unfold mandT mbind; rw [h]; exact h2
end G

set_option Elab.async false
set_option linter.all false
set_option maxRecDepth 100000
set_option maxHeartbeats 0
namespace G
open PySem L2 VS
/-- [f(x) for x in L if ..], a test that changes slots -/
theorem cloop_sub {α : Type} {m : Tg} {ft : M Bool} {fe : M D} {vs : List Nat} (g f : α → D) (I : Rho → Prop) : ∀ (L : List α) (ρ : Rho), I ρ → (∀ x ∈ L, ∀ ρ, I ρ → ∃ ρ1 k ρ2, m (g x) ρ = some ρ1 ∧ ft ρ1 = .ok k ρ2 ∧ fe ρ2 = .ok (f x) ρ2 ∧ I (wipeR ρ2 vs)) →
    ∃ (M : List α) (ρ' : Rho), cloop (fun _ => True) m ft fe vs (L.map g) ρ = .ok (M.map f) ρ' ∧ I ρ' ∧ M.Sublist L
  | [], ρ, i, _ => ⟨[], ρ, by rw [List.map_nil]; unfold cloop; rw [if_pos trivial]; rfl, i, .slnil⟩
  | x :: L, ρ, i, h => by
    obtain ⟨ρ1, k, ρ2, e1, e2, e3, i2⟩ := h x List.mem_cons_self ρ i
    obtain ⟨M, ρ', e4, i3, l⟩ := cloop_sub g f I L _ i2 fun y hy => h y (List.mem_cons_of_mem _ hy)
    cases k with
    | true =>
      refine ⟨x :: M, ρ', ?_, i3, l.cons₂ x⟩
      rw [List.map_cons]; unfold cloop
      rw [if_pos trivial, e1]; dsimp only
      rw [e2]; dsimp only
      rw [if_pos rfl, e3]; dsimp only
      rw [e4]; rfl
    | false =>
      refine ⟨M, ρ', ?_, i3, l.cons x⟩
      rw [List.map_cons]; unfold cloop
      rw [if_pos trivial, e1]; dsimp only
      rw [e2]; dsimp only
      rw [if_neg Bool.false_ne_true, e4]
theorem m_sub {α : Type} {m : Tg} {fi : M (List D)} {ft : M Bool} {fe : M D} {vs : List Nat} {ρ : Rho} {L : List α} (g f : α → D) (I : Rho → Prop) (hi : fi ρ = .ok (L.map g) ρ) (hc : clean vs ρ = true) (hl : L.length ≤ lineN) (i : I ρ)
    (h : ∀ x ∈ L, ∀ ρ, I ρ → ∃ ρ1 k ρ2, m (g x) ρ = some ρ1 ∧ ft ρ1 = .ok k ρ2 ∧ fe ρ2 = .ok (f x) ρ2 ∧ I (wipeR ρ2 vs)) : ∃ (M : List α) (ρ' : Rho), mlc fi m ft fe vs ρ = .ok (.list (M.map f)) ρ' ∧ I ρ' ∧ M.Sublist L := by
  obtain ⟨M, ρ', e, i2, l⟩ := cloop_sub g f I L ρ i h
  refine ⟨M, ρ', ?_, i2, l⟩
  unfold mlc mcompL mbind
  rw [hi]; unfold Res.bind; dsimp only
  rw [if_pos ⟨hc, by rw [List.length_map]; exact hl⟩, e]; rfl
theorem s_skip {c : M Bool} {t : SM} {ρ ρ1 : Rho} (h : c ρ = .ok false ρ1) : sif c t snext ρ = .next ρ1 := s_if h (fun z => by cases z) fun _ => rfl
theorem e_same {f g : M Op} {a s : D} {ρ ρ1 ρ2 : Rho} (h1 : f ρ = .ok (.v a) ρ1) (h2 : g ρ1 = .ok (.v a) ρ2) (h : gRepr [a] = some s) : mnotT (mtest (mcallV F__law_same (mcons f (mcons g mnil)))) ρ = .ok false ρ2 :=
  e_not (k := true) (e_test (mcallV_val (e_two h1 h2) rfl rfl (same_val h) rfl))
theorem dRev_tupS (P : List Str) : dRev (tupS P) = some (tupS P.reverse) := by
  show some (PyData.tuple (P.map PyData.str).reverse) = _
  rw [← List.map_reverse]; rfl
theorem rep_bool (b : Bool) : gRepr [.bool b] = some (.str (PyData.bool b).shown) := by cases b <;> decide +kernel
theorem t12_14 {s : Str} (h : s ∈ T12) : s ∈ T14 := List.mem_append_left _ h
theorem tab14 {ats : List Atom} (ok : QOk ats) {t : Str} (h : t ∈ tabs ats) : t ∈ T14 := by
  obtain ⟨a, ha, rfl⟩ := List.mem_map.mp h
  exact t12_14 (ok.okt a ha)
/-! ### a part of a question -/
theorem part_ok {ats : List Atom} (ok : QOk ats) {P : List Str} (hP : ∀ t ∈ P, t ∈ tabs ats) (ne : P ≠ []) : QOk (ats.filter fun a => decide (a.1 ∈ P)) ∧ ∀ t ∈ P, t ∈ tabs (ats.filter fun a => decide (a.1 ∈ P)) := by
  have mem : ∀ t ∈ P, t ∈ tabs (ats.filter fun a => decide (a.1 ∈ P)) := fun t ht => by
    obtain ⟨a, ha, rfl⟩ := List.mem_map.mp (hP t ht)
    exact List.mem_map_of_mem (List.mem_filter.mpr ⟨ha, decide_eq_true ht⟩)
  refine ⟨⟨?_, Nat.le_trans (List.length_filter_le _ _) ok.few, fun z => ?_, fun a ha => ok.short a (List.mem_filter.mp ha).1, fun a ha => ok.okt a (List.mem_filter.mp ha).1, fun a ha => ok.okp a (List.mem_filter.mp ha).1⟩, mem⟩
  · exact ok.nd.sublist (List.filter_sublist.map _)
  · cases P with
    | nil => exact ne rfl
    | cons t P =>
      have := mem t List.mem_cons_self
      rw [z] at this; cases this
theorem pc_ne {ats : List Atom} {p : List Str} (h : p ∈ pcs ats) : p ≠ [] := by
  obtain ⟨s, hs, rfl⟩ := pcs_cls ats p h
  intro z
  have := mem_cls.mpr (⟨hs, .refl⟩ : s ∈ tabs ats ∧ Conn [] ats s s)
  rw [z] at this; cases this
/-! ### things told -/
theorem gd_none : Gd 3 6 27 .none := ⟨rfl, by decide, by decide, by decide⟩
theorem gd_pair {x y : D} {n w s : Nat} (hx : Gd n w s x) (hy : Gd n w s y) (h2 : 2 ≤ w) {u : Nat} (hu : 1 + (siz x + siz y) ≤ u) : Gd (n + 1) w u (.tuple [x, y]) := gd_tup (fun z hz => by
  rcases List.mem_cons.mp hz with rfl | hz
  · exact ⟨hx.lf, hx.dp, hx.wd⟩
  · cases List.mem_singleton.mp hz; exact ⟨hy.lf, hy.dp, hy.wd⟩) h2 (by show 1 + (siz x + (siz y + 0)) ≤ u; omega)
theorem gd_tri {a b c : Str} {L1 L2 L3 : List Str} (ha : a ∈ T14) (hb : b ∈ T14) (hc : c ∈ T14) (h1 : ∀ t ∈ L1, t ∈ T14) (h2 : ∀ t ∈ L2, t ∈ T14) (h3 : ∀ t ∈ L3, t ∈ T14) (l1 : L1.length ≤ 6) (l2 : L2.length ≤ 6) (l3 : L3.length ≤ 6) : Gd 3 6 27 (.tuple [tupS [a, b, c], .tuple [tupS L1, tupS L2, tupS L3]]) := by
  have g0 : Gd 1 6 4 (tupS [a, b, c]) := (gd_tupS (L := [a, b, c]) (w := 3) (fun t ht => by
    simp only [List.mem_cons, List.not_mem_nil, or_false] at ht
    rcases ht with rfl | rfl | rfl
    · exact ha
    · exact hb
    · exact hc) (Nat.le_refl 3)).mono (by omega) (by omega) (by omega)
  have g1 := gd_tupS h1 l1
  have g2 := gd_tupS h2 l2
  have g3 := gd_tupS h3 l3
  have gc : Gd 2 6 22 (.tuple [tupS L1, tupS L2, tupS L3]) := gd_tup (fun z hz => by
    simp only [List.mem_cons, List.not_mem_nil, or_false] at hz
    rcases hz with rfl | rfl | rfl
    · exact ⟨g1.lf, g1.dp, g1.wd⟩
    · exact ⟨g2.lf, g2.dp, g2.wd⟩
    · exact ⟨g3.lf, g3.dp, g3.wd⟩) (by show 3 ≤ 6; omega) (by
      have := g1.sz; have := g2.sz; have := g3.sz
      show 1 + (siz (tupS L1) + (siz (tupS L2) + (siz (tupS L3) + 0))) ≤ 22; omega)
  exact gd_pair (g0.mono (by omega) (by omega) (show 4 ≤ 22 by omega)) gc (by omega) (by have := g0.sz; have := gc.sz; omega)
end G

set_option Elab.async false
set_option linter.all false
set_option maxRecDepth 100000
namespace VS
open PySem L2
/-! ### exceptions, evaluated -/
section
variable {F : Fn} {fa : M (List Op)} {os : List Op} {ars : List Ar} {c : Str} {fs : List (Str × D)} {outs : List D} {ρ ρ1 ρ2 : Rho} {t u : SM} {f : M D} {i : Nat} {h : Str → Option Bool} {d : D} {fld : Str}
theorem mcall_exc (e1 : fa ρ = .ok os ρ1) (e2 : arsOf os ρ1 = some ars) (e3 : ndB (places os) = true) (e4 : F ars = .exc c fs outs) (e5 : putOuts os outs ρ1 = some ρ2) : mcall F fa ρ = .exc c fs ρ2 := by
  unfold mcall mbind Res.bind
  rw [e1]; dsimp only
  rw [e2]; dsimp only
  rw [if_pos e3, e4]; dsimp only
  unfold mput
  rw [e5]
theorem mcallV_exc (e1 : fa ρ = .ok os ρ1) (e2 : arsOf os ρ1 = some ars) (e3 : ndB (places os) = true) (e4 : F ars = .exc c fs outs) (e5 : putOuts os outs ρ1 = some ρ2) : mcallV F fa ρ = .exc c fs ρ2 := by
  unfold mcallV
  rw [show mbind (mcall F fa) _ ρ = (mcall F fa ρ).bind _ from rfl, mcall_exc e1 e2 e3 e4 e5]
  rfl
theorem mcallF_exc (e1 : fa ρ = .ok os ρ1) (e2 : arsOf os ρ1 = some ars) (e3 : ndB (places os) = true) (e4 : F ars = .exc c fs outs) (e5 : putOuts os outs ρ1 = some ρ2) : mcallF F fa ρ = .exc c fs ρ2 := by
  unfold mcallF
  rw [show mbind (mcall F fa) _ ρ = (mcall F fa ρ).bind _ from rfl, mcall_exc e1 e2 e3 e4 e5]
  rfl
theorem mkF_exc (ρ0 : Rho) {P : List Nat} {np n : Nat} (h1 : ars.length = np) (h2 : okArsB P 0 ars = true) (h0 : ars.map Ar.sl ++ List.replicate (n - np) .emp = ρ0) (h3 : t ρ0 = .exc c fs ρ) (h4 : outsOf ars ρ = some outs) : mkF P np n t ars = .exc c fs outs := by
  unfold mkF
  rw [if_pos ⟨h1, h2⟩, h0, h3]
  dsimp only
  unfold fret
  rw [h4]
theorem s_seqX (h1 : t ρ = .exc c fs ρ1) : sseq t u ρ = .exc c fs ρ1 := by
  unfold sseq; rw [h1]
theorem s_setX (h1 : f ρ = .exc c fs ρ1) : sset i f ρ = .exc c fs ρ1 := by
  unfold sset sbind; rw [h1]
theorem s_raise1 (h1 : f ρ = .ok d ρ1) : sraise1 c fld f ρ = .exc c [(fld, d)] ρ1 := by
  unfold sraise1 sbind; rw [h1]
theorem s_tryN (h1 : t ρ = .next ρ1) : stry h i t u ρ = .next ρ1 := by
  unfold stry; rw [h1]
theorem s_tryR {r : Rt} (h1 : t ρ = .ret r ρ1) : stry h i t u ρ = .ret r ρ1 := by
  unfold stry; rw [h1]
theorem s_tryX (h1 : t ρ = .exc c fs ρ1) (h2 : h c = some true) (h3 : u (ρ1.set i (.exc c fs)) = .next ρ2) : stry h i t u ρ = .next (ρ2.set i .emp) := by
  unfold stry; rw [h1]; dsimp only; rw [h2]; dsimp only; rw [h3]; rfl
theorem e_isiX {tb : Str → Option Bool} {b : Bool} (h1 : ρ[i]? = some (.exc c fs)) (h2 : tb c = some b) : misiX i tb ρ = .ok (.bool b) ρ := by
  unfold misiX; rw [h1]; dsimp only; rw [h2]
theorem e_attX {ok : Str → Bool} (h1 : ρ[i]? = some (.exc c fs)) (h2 : ok c = true) (h3 : fs.lookup fld = some d) : mattX i fld ok ρ = .ok d ρ := by
  unfold mattX; rw [h1]; dsimp only; rw [if_pos h2, h3]
end
end VS

set_option Elab.async false
set_option linter.all false
set_option maxRecDepth 100000
set_option maxHeartbeats 0
namespace G
open PySem L2 VS
theorem lnD_none : lnD none = .none := rfl
theorem tupS_none (K : List Str) : gIsN (tupS K) .none = some (.bool false) := rfl
section
variable {h0 : D} {ats : List Atom} (ok : QOk ats) {T : List Str} (hT : ∀ t ∈ T, t ∈ tabs ats) (nd : T.Nodup) (l6 : T.length ≤ 6)
include ok hT l6
theorem need_some {K : List Str} (h : LB ats 8 [] T = some K) : F_need_line [.v (qD h0 ats), .v (tupS T)] = .ret (.val (tupS K)) [] := by
  let ρ0 : Rho := [.val (qD h0 ats), .val (tupS T), .emp]
  let ρ1 : Rho := [.val (qD h0 ats), .val (tupS T), .val (tupS K)]
  have e := line_val (h0 := h0) ok hT l6
  rw [h] at e
  exact mkF_at ρ0 rfl rfl rfl (ρ := ρ1) (s_seq (s_set (ρ1 := ρ0) (d := tupS K) (mcallV_val (e_two rfl rfl) rfl rfl e rfl)) (s_seq (s_if (k := false) (e_test (e_bin rfl rfl rfl rfl rfl)) (fun z => by cases z) fun _ => rfl) (s_retvV rfl))) rfl
include nd
theorem need_none (h : LB ats 8 [] T = none) {d : D} (hd : F_triad_of [.v (qD h0 ats), .v (tupS T)] = .ret (.val d) []) : F_need_line [.v (qD h0 ats), .v (tupS T)] = .exc "NoLine" [("paper", d)] [] := by
  let ρ0 : Rho := [.val (qD h0 ats), .val (tupS T), .emp]
  let ρ1 : Rho := [.val (qD h0 ats), .val (tupS T), .val .none]
  have e := line_val (h0 := h0) ok hT l6
  rw [h] at e
  exact mkF_exc ρ0 rfl rfl rfl (ρ := ρ1) (s_seq (s_set (ρ1 := ρ0) (d := .none) (mcallV_val (e_two rfl rfl) rfl rfl e rfl)) (s_seqX (s_if (k := true) (e_test (e_bin rfl rfl rfl rfl rfl)) (fun _ => s_seqX (s_raise1 (mcallV_val (e_two rfl rfl) rfl rfl hd rfl))) fun z => by cases z))) rfl
theorem paper_val (h : LB ats 8 [] T = none) {d : D} (hd : F_triad_of [.v (qD h0 ats), .v (tupS T)] = .ret (.val d) []) : F__law_need_or_paper [.v (qD h0 ats), .v (tupS T)] = .ret (.val (.tuple [.str "none", d])) [] := by
  let ρ0 : Rho := [.val (qD h0 ats), .val (tupS T), .emp, .emp, .emp]
  let ρ1 : Rho := [.val (qD h0 ats), .val (tupS T), .emp, .val .none, .val .none]
  let ρ2 : Rho := [.val (qD h0 ats), .val (tupS T), .emp, .val .none, .exc "NoLine" [("paper", d)]]
  have sx : sset 3 (mcallV F_need_line (mcons (mopd 0) (mcons (mopd 1) mnil))) ρ1 = .exc "NoLine" [("paper", d)] ρ1 := s_setX (mcallV_exc (e_two rfl rfl) rfl rfl (need_none ok hT nd l6 h hd) rfl)
  have z0 : hdT [("NoLine", true)] "NoLine" = some true := by decide +kernel
  have s2 : sseq (scpX 4 2) snext (ρ1.set 2 (.exc "NoLine" [("paper", d)])) = .next [.val (qD h0 ats), .val (tupS T), .exc "NoLine" [("paper", d)], .val .none, .exc "NoLine" [("paper", d)]] := rfl
  have st : stry (hdT [("NoLine", true)]) 2 (sseq (sset 3 (mcallV F_need_line (mcons (mopd 0) (mcons (mopd 1) mnil)))) snext) (sseq (scpX 4 2) snext) ρ1 = .next ρ2 := s_tryX (s_seqX sx) z0 s2
  have rv : mif (mtest (misiX 4 (hdT [("NoLine", true)]))) (mtup (mcons (mv (mret (.str "none"))) (mcons (mv (mattX 4 "paper" (inT ["NoLine"]))) mnil))) (mret (.str "odd")) ρ2 = .ok (.tuple [.str "none", d]) ρ2 := by
    have z : inT ["NoLine"] "NoLine" = true := by decide +kernel
    have z2 : ([(("paper" : Str), d)] : List (Str × D)).lookup ("paper" : Str) = some d := by
      rw [List.lookup_cons, beq_self_eq_true]
    exact e_if (k := true) (ρ1 := ρ2) (e_test (e_isiX rfl z0)) (fun _ => e_tup (e_two rfl (e_v (e_attX rfl z z2))) (by show 2 ≤ 1000; omega) rfl) fun z => by cases z
  exact mkF_at ρ0 rfl rfl rfl (ρ := ρ2) (s_seq (s_asg (ρ1 := ρ0) (d := .tuple [.none, .none]) (e_tup (e_two rfl rfl) (by show 2 ≤ 1000; omega) rfl) rfl) (s_seq st (s_seq (s_if (k := false) (ρ1 := ρ2) rfl (fun z => by cases z) fun _ => rfl) (s_ret rv)))) rfl
end
end G

set_option Elab.async false
set_option linter.all false
set_option maxRecDepth 100000
set_option maxHeartbeats 0
namespace G
open PySem L2 VS
theorem mem_stS (acc : List Str) (x y : Str) : y ∈ stS acc x ↔ y ∈ acc ∨ y = x := by
  unfold stS; split
  · rename_i h
    exact ⟨.inl, fun q => q.elim id fun z => z ▸ h⟩
  · rw [List.mem_cons]; exact Or.comm
theorem nd_stS {acc : List Str} (x : Str) (h : acc.Nodup) : (stS acc x).Nodup := by
  unfold stS; split
  · exact h
  · rename_i q; exact List.nodup_cons.mpr ⟨q, h⟩
theorem ddS_aux : ∀ (xs acc : List Str), acc.Nodup → (xs.foldl stS acc).Nodup ∧ ∀ y, y ∈ xs.foldl stS acc ↔ y ∈ acc ∨ y ∈ xs
  | [], acc, h => ⟨h, fun y => ⟨.inl, fun q => q.elim id fun z => nomatch z⟩⟩
  | x :: xs, acc, h => by
    obtain ⟨a, b⟩ := ddS_aux xs (stS acc x) (nd_stS x h)
    refine ⟨a, fun y => ?_⟩
    rw [List.foldl_cons, b y, mem_stS, List.mem_cons]
    exact or_assoc
theorem ddS_nd (xs : List Str) : (ddS xs).Nodup := (ddS_aux xs [] List.nodup_nil).1
theorem ddS_mem' (xs : List Str) (y : Str) : y ∈ ddS xs ↔ y ∈ xs := by
  unfold ddS
  rw [(ddS_aux xs [] List.nodup_nil).2 y]
  exact ⟨fun h => h.elim (fun z => nomatch z) id, .inr⟩
theorem ddS_len {L : List Str} (h : L.Nodup) : (ddS L).length = L.length := by
  exact Nat.le_antisymm (nodup_len _ _ (ddS_nd L) fun x hx => (ddS_mem' L x).mp hx) (nodup_len _ _ h fun x hx => (ddS_mem' L x).mpr hx)
theorem at_of {T L : List Str} (hL : ∀ t ∈ L, t ∈ T) (nd : L.Nodup) : AT T (tupS L) = true := by
  show ((L.map PyData.str).all (okE T) && decide ((ddS ((L.map PyData.str).filterMap getS)).length = (L.map PyData.str).length)) = true
  rw [okE_all hL, getS_map, List.length_map, ddS_len nd, decide_eq_true rfl]
  rfl
theorem eq_self {L : List Str} (h : ∀ t ∈ L, okT t = true) : dEq (tupS L) (tupS L) = some (.bool true) := by
  have s := shp_tupS h
  have e : gEq (tupS L) (tupS L) = some (.bool true) := by
    unfold gEq
    rw [if_pos ⟨s, s⟩, PySem.SeqAt.eqv_refl _ (SeqAt.canLay_of_shaped s)]
  unfold dEq orG
  rw [show gEqS (tupS L) (tupS L) = none from rfl]
  exact e
theorem ne_self {L : List Str} (h : ∀ t ∈ L, okT t = true) : dNe (tupS L) (tupS L) = some (.bool false) := by
  have s := shp_tupS h
  have e : gNe (tupS L) (tupS L) = some (.bool false) := by
    unfold gNe
    rw [if_pos ⟨s, s⟩, PySem.SeqAt.eqv_refl _ (SeqAt.canLay_of_shaped s)]
    rfl
  unfold dNe orG
  rw [show gNot gEqS (tupS L) (tupS L) = none from rfl]
  exact e
theorem ix_tupD {xs : List D} {i : Nat} {d : D} (h : xs[i]? = some d) : dIx (.tuple xs) (.int (i : Nat)) = some d := by
  show atI xs (i : Nat) = _
  unfold atI
  rw [ixN_nat (List.getElem?_eq_some_iff.mp h).1]; exact h
end G

set_option Elab.async false
set_option linter.all false
set_option maxRecDepth 100000
set_option maxHeartbeats 0
namespace G
open PySem L2 VS
theorem ft_some {ats : List Atom} {T : List Str} {p : Str × Str × Str} (h : FT ats T = some p) (nd : T.Nodup) : (∀ t ∈ [p.1, p.2.1, p.2.2], t ∈ T) ∧ [p.1, p.2.1, p.2.2].Nodup := by
  unfold FT at h
  obtain ⟨⟨a, i⟩, ha, h⟩ := List.exists_of_findSome?_eq_some h
  obtain ⟨⟨b, j⟩, hb, h⟩ := List.exists_of_findSome?_eq_some h
  obtain ⟨c, hc, h⟩ := List.exists_of_findSome?_eq_some h
  by_cases q : tri ats a b c = true
  · have h : (if tri ats a b c = true then some (a, b, c) else none) = some p := h
    rw [if_pos q] at h
    cases h
    have ea := mem_zip ha
    have eb := mem_zip hb
    rw [List.getElem?_drop] at eb
    obtain ⟨k, kk, ec⟩ := mem_drop.mp hc
    have dif : ∀ {i j : Nat} {x y : Str}, i ≠ j → T[i]? = some x → T[j]? = some y → x ≠ y := fun {i j x y} n e1 e2 z => by
      subst z
      exact n ((List.getElem?_inj (List.getElem?_eq_some_iff.mp e1).1 nd).mp (e1.trans e2.symm))
    have ab : a ≠ b := dif (by omega) ea eb
    have ac : a ≠ c := dif (by show i ≠ k; omega) ea ec
    have bc : b ≠ c := dif (by show i + 1 + j ≠ k; omega) eb ec
    refine ⟨fun t ht => ?_, by simp [ab, ac, bc]⟩
    simp only [List.mem_cons, List.not_mem_nil, or_false] at ht
    rcases ht with rfl | rfl | rfl
    · exact List.mem_of_getElem? ea
    · exact List.mem_of_getElem? eb
    · exact List.mem_of_getElem? ec
  · have h : (if tri ats a b c = true then some (a, b, c) else none) = some p := h
    rw [if_neg q] at h; cases h
section
variable {ats : List Atom} (ok : QOk ats) {T : List Str} (hT : ∀ t ∈ T, t ∈ tabs ats) (nd : T.Nodup) (l6 : T.length ≤ 6)
include ok hT nd l6
theorem right_val {h0 : D} : F__law_right [.v (qD h0 ats), .v (tupS T)] = .ret (.val (.bool true)) [] := by
  let Q : D := qD h0 ats
  have own := own_val (h0 := h0) ok
  have fl := lline_val (h0 := h0) ok hT l6
  have ft := ltriad_val ok hT
  have ln := line_val (h0 := h0) ok hT l6
  obtain ⟨d, tr, hd⟩ := triad_val (h0 := h0) ok hT nd
  let due : D := lnD (LB ats 8 [] T)
  let three : D := trD (FT ats T)
  let ρ0 : Rho := [.val Q, .val (tupS T), .emp, .emp, .emp, .emp, .emp, .emp, .emp, .emp, .emp, .emp, .emp]
  let ρ1 : Rho := [.val Q, .val (tupS T), .val (nbD ats), .emp, .emp, .emp, .emp, .emp, .emp, .emp, .emp, .emp, .emp]
  let ρ2 : Rho := [.val Q, .val (tupS T), .val (nbD ats), .emp, .val due, .val three, .emp, .emp, .emp, .emp, .emp, .emp, .emp]
  let ρ3 : Rho := [.val Q, .val (tupS T), .val (nbD ats), .emp, .val due, .val three, .val due, .val d, .emp, .emp, .emp, .emp, .emp]
  have s1 : sset 2 (mcallF F__law_own_names (mcons (mopd 0) mnil)) ρ0 = .next ρ1 := s_set (ρ1 := ρ0) (d := nbD ats) (mcallF_val (e_one rfl) rfl rfl own rfl)
  have s2 : spar 4 5 (mrv (mcallV F__law_first_line (mcons (mopd 0) (mcons (mopd 1) mnil)))) (mrv (mcallV F__law_first_triad (mcons (mopd 2) (mcons (mopd 1) mnil)))) ρ1 = .next ρ2 :=
    s_par (ρ1 := ρ1) (ρ2 := ρ1) (p := .val due) (q := .val three) (e_rv (mcallV_val (e_two rfl rfl) rfl rfl fl rfl)) (e_rv (mcallV_val (e_two rfl rfl) rfl rfl ft rfl))
  have s3 : spar 6 7 (mrv (mcallV F_line_of (mcons (mopd 0) (mcons (mopd 1) mnil)))) (mrv (mcallV F_triad_of (mcons (mopd 0) (mcons (mopd 1) mnil)))) ρ2 = .next ρ3 :=
    s_par (ρ1 := ρ2) (ρ2 := ρ2) (p := .val due) (q := .val d) (e_rv (mcallV_val (e_two rfl rfl) rfl rfl ln rfl)) (e_rv (mcallV_val (e_two rfl rfl) rfl rfl tr rfl))
  rcases line_or_triad hT nd l6 with ⟨fn, K, lb, pk, hl⟩ | ⟨⟨p, fp⟩, lb⟩
  · -- a line
    have ed : due = tupS K := by show lnD (LB ats 8 [] T) = _; rw [lb]; rfl
    have et : three = .none := by show trD (FT ats T) = _; rw [fn]; rfl
    rw [fn] at hd
    have hd : d = .none := hd
    have hK : ∀ t ∈ K, t ∈ tabs ats := fun t ht => hT t (pk.mem_iff.mp ht)
    have lK : K.length ≤ 6 := by rw [pk.length_eq]; exact l6
    have gK := (gd_tupS (L := K) (fun t ht => tab14 ok (hK t ht)) lK)
    have e3 : ρ3 = [.val Q, .val (tupS T), .val (nbD ats), .emp, .val (tupS K), .val .none, .val (tupS K), .val .none, .emp, .emp, .emp, .emp, .emp] := by
      show [Sl.val Q, .val (tupS T), .val (nbD ats), .emp, .val due, .val three, .val due, .val d, .emp, .emp, .emp, .emp, .emp] = _
      rw [ed, et, hd]
    let ρ4 : Rho := [.val Q, .val (tupS T), .val (nbD ats), .emp, .val (tupS K), .val .none, .val (tupS K), .val .none, .emp, .emp, .emp, .emp, .emp]
    have e3 : ρ3 = ρ4 := e3
    rw [e3] at s3
    have t1 : morT (mtest (mbin dEq (mv (mbin gIsN (mopd 4) (mv (mret .none)))) (mv (mbin gIsN (mopd 5) (mv (mret .none)))))) (mnotT (mtest (mcallV F__law_same (mcons (mopd 6) (mcons (mopd 4) mnil))))) ρ4 = .ok false ρ4 :=
      e_orF (ρ1 := ρ4) (e_test (e_bin (e_v (e_bin rfl rfl rfl rfl (tupS_none K))) (e_v (e_bin rfl rfl rfl rfl rfl)) rfl rfl (by decide +kernel))) (e_same (a := tupS K) rfl rfl (gK.rep (by omega) (by omega)))
    have sh := shline_val (h0 := h0) ok hT l6 (d := tupS K) gK.lf (wid_hw (Nat.le_trans gK.wd (by omega)))
    have aK : AT T (tupS K) = true := at_of (fun t ht => pk.mem_iff.mp ht) (pk.nodup_iff.mpr nd)
    rw [SL_tup aK, pk.length_eq, decide_eq_true rfl, decide_eq_true hl] at sh
    have nl := need_some (h0 := h0) ok hT l6 lb
    have rv : mandV (mbin gIsN (mopd 7) (mv (mret .none))) (mandV (mbin gIsB (mv (mcallV F_shows_line (mcons (mopd 0) (mcons (mopd 1) (mcons (mopd 6) mnil))))) (mv (mret (.bool true)))) (mbin dEq (mv (mcallV F_need_line (mcons (mopd 0) (mcons (mopd 1) mnil)))) (mopd 6))) ρ4 = .ok (.bool true) ρ4 :=
      e_andV (k := true) (l := true) (ρ1 := ρ4) (e_bin rfl rfl rfl rfl rfl) fun _ => e_andV (k := true) (l := true) (e_bin (e_v (mcallV_val (e_three rfl rfl rfl) rfl rfl sh rfl)) rfl rfl rfl rfl) fun _ => e_bin (e_v (mcallV_val (e_two rfl rfl) rfl rfl nl rfl)) rfl rfl rfl (eq_self fun t ht => tab_ok ok (hK t ht))
    exact mkF_at ρ0 rfl rfl rfl (ρ := ρ4) (s_seq s1 (s_seq s2 (s_seq s3 (s_seq (s_if t1 (fun z => by cases z) fun _ => rfl) (s_seqR (s_if (k := true) (ρ1 := ρ4) (e_test (e_bin rfl rfl rfl rfl rfl)) (fun _ => s_ret rv) fun z => by cases z)))))) rfl
  · -- a triad
    obtain ⟨a, b, c⟩ := p
    have ed : due = .none := by show lnD (LB ats 8 [] T) = _; rw [lb]; rfl
    have et : three = tupS [a, b, c] := by show trD (FT ats T) = _; rw [fp]; rfl
    obtain ⟨mT, nd3⟩ := ft_some fp nd
    rw [fp] at hd
    obtain ⟨C1, C2, C3, edd, h1, h2, h3, q1, q2, q3⟩ := hd
    dsimp only at edd h1 h2 h3 mT nd3
    have ta : a ∈ tabs ats := hT a (mT a (by simp))
    have tb : b ∈ tabs ats := hT b (mT b (by simp))
    have tc : c ∈ tabs ats := hT c (mT c (by simp))
    have m3 : ∀ t ∈ [a, b, c], okT t = true := fun t ht => tab_ok ok (hT t (mT t ht))
    have in14 : ∀ {o e p : Str} {C : List Str}, CH ats o e p (tupS C) → ∀ t ∈ C, t ∈ T14 := fun {o e p C} h t ht => by
      obtain ⟨L, eL, _, hL, _⟩ := h
      cases tupS_inj (show tupS C = tupS L from eL)
      exact tab14 ok (hL t ht)
    have gd : Gd 3 6 27 d := by
      rw [edd]
      exact gd_tri (tab14 ok ta) (tab14 ok tb) (tab14 ok tc) (in14 h1) (in14 h2) (in14 h3) q1 q2 q3
    let ρ4 : Rho := [.val Q, .val (tupS T), .val (nbD ats), .emp, .val .none, .val (tupS [a, b, c]), .val .none, .val d, .emp, .emp, .emp, .emp, .emp]
    have e3 : ρ3 = ρ4 := by
      show [Sl.val Q, .val (tupS T), .val (nbD ats), .emp, .val due, .val three, .val due, .val d, .emp, .emp, .emp, .emp, .emp] = _
      rw [ed, et]
    rw [e3] at s3
    let ρ5 : Rho := [.val Q, .val (tupS T), .val (nbD ats), .emp, .val .none, .val (tupS [a, b, c]), .val .none, .val d, .val (.str a), .val (.str b), .val (.str c), .emp, .emp]
    have t1 : morT (mtest (mbin dEq (mv (mbin gIsN (mopd 4) (mv (mret .none)))) (mv (mbin gIsN (mopd 5) (mv (mret .none)))))) (mnotT (mtest (mcallV F__law_same (mcons (mopd 6) (mcons (mopd 4) mnil))))) ρ4 = .ok false ρ4 :=
      e_orF (ρ1 := ρ4) (e_test (e_bin (e_v (e_bin rfl rfl rfl rfl rfl)) (e_v (e_bin rfl rfl rfl rfl (tupS_none _))) rfl rfl (by decide +kernel))) (e_same (a := .none) rfl rfl (gd_none.rep (by omega) (by omega)))
    have t2 : mtest (mbin gIsN (mopd 5) (mv (mret .none))) ρ4 = .ok false ρ4 := e_test (e_bin rfl rfl rfl rfl (tupS_none _))
    have ix0 : dIx d (.int 0) = some (tupS [a, b, c]) := by rw [edd]; exact ix_tupD (i := 0) rfl
    have ix1 : dIx d (.int 1) = some (.tuple [tupS C1, tupS C2, tupS C3]) := by rw [edd]; exact ix_tupD (i := 1) rfl
    have l2 : gLen [d] = some (.int 2) := by rw [edd]; rfl
    have t3 : morT (mtest (mbin gIsN (mopd 7) (mv (mret .none)))) (morT (mtest (mbin dNe (mv (mbin dIx (mopd 7) (mv (mret (.int 0))))) (mopd 5))) (morT (mtest (mbin dNe (mv (mcb gLen (mcons (mopd 7) mnil))) (mv (mret (.int 2))))) (mtest (mbin dNe (mv (mcb gLen (mcons (mv (mbin dIx (mopd 7) (mv (mret (.int 1))))) mnil))) (mv (mret (.int 3))))))) ρ4 = .ok false ρ4 :=
      e_orF (ρ1 := ρ4) (e_test (e_bin rfl rfl rfl rfl (by rw [edd]; rfl))) (e_orF (ρ1 := ρ4) (e_test (e_bin (e_v (e_bin rfl rfl rfl rfl ix0)) rfl rfl rfl (ne_self m3))) (e_orF (ρ1 := ρ4) (e_test (e_bin (e_v (e_cb1 rfl rfl l2)) rfl rfl rfl (by decide +kernel))) (e_test (e_bin (e_v (e_cb1 (e_v (e_bin rfl rfl rfl rfl ix1)) rfl rfl)) rfl rfl rfl (show dNe (.int 3) (.int 3) = some (.bool false) by decide +kernel)))))
    have s4 : sasg (mvar 5) (mTup [(mName 8), (mName 9), (mName 10)]) ρ4 = .next ρ5 := s_asg (ρ1 := ρ4) (d := tupS [a, b, c]) rfl rfl
    have lp := sloop_map (m := mTup [(mName 11), (mName 12)]) (t := (sseq (sif (mnotT (mtest (mcallV F__law_is_chain (mcons (mopd 2) (mcons (mopd 11) (mcons (mv (mbin dIx (mopd 12) (mv (mret (.int 0))))) (mcons (mv (mbin dIx (mopd 12) (mv (mret (.int 1))))) (mcons (mv (mbin dIx (mopd 12) (mv (mret (.int 2))))) mnil)))))))) (sseq (sbind (mret (.bool false)) fun d ρ => .ret (.val d) ρ)
  snext) snext)
  snext)) (fun q : List Str × Str × Str × Str => .tuple [tupS q.1, tupS [q.2.1, q.2.2.1, q.2.2.2]]) (fun (_ : List (List Str × Str × Str × Str)) (ρ : Rho) => ∃ (j11 j12 : Sl), ρ = [.val Q, .val (tupS T), .val (nbD ats), .emp, .val .none, .val (tupS [a, b, c]), .val .none, .val d, .val (.str a), .val (.str b), .val (.str c), j11, j12]) [(C1, a, b, c), (C2, a, c, b), (C3, b, c, a)] ρ5 ⟨_, _, rfl⟩ (by
      rintro ⟨C, x, y, z⟩ r ρ hm ⟨j11, j12, rfl⟩
      have hc : CH ats x y z (tupS C) ∧ C.length ≤ 6 ∧ z ∈ tabs ats := by
        simp only [List.mem_cons, List.not_mem_nil, or_false, Prod.mk.injEq] at hm
        rcases hm with ⟨rfl, rfl, rfl, rfl⟩ | ⟨rfl, rfl, rfl, rfl⟩ | ⟨rfl, rfl, rfl, rfl⟩
        · exact ⟨h1, q1, tc⟩
        · exact ⟨h2, q2, tb⟩
        · exact ⟨h3, q3, ta⟩
      let R : Rho := [.val Q, .val (tupS T), .val (nbD ats), .emp, .val .none, .val (tupS [a, b, c]), .val .none, .val d, .val (.str a), .val (.str b), .val (.str c), .val (tupS C), .val (tupS [x, y, z])]
      have lc := lchain_val ok hc.2.2 hc.1 hc.2.1
      have tst : mnotT (mtest (mcallV F__law_is_chain (mcons (mopd 2) (mcons (mopd 11) (mcons (mv (mbin dIx (mopd 12) (mv (mret (.int 0))))) (mcons (mv (mbin dIx (mopd 12) (mv (mret (.int 1))))) (mcons (mv (mbin dIx (mopd 12) (mv (mret (.int 2))))) mnil))))))) R = .ok false R :=
        e_not (k := true) (e_test (mcallV_val (ρ1 := R) (e_cons rfl (e_cons rfl (e_cons (e_v (e_bin rfl rfl rfl rfl (ix_tupS (L := [x, y, z]) (i := 0) rfl))) (e_cons (e_v (e_bin rfl rfl rfl rfl (ix_tupS (L := [x, y, z]) (i := 1) rfl))) (e_cons (e_v (e_bin rfl rfl rfl rfl (ix_tupS (L := [x, y, z]) (i := 2) rfl))) e_nil))))) rfl rfl lc rfl))
      exact ⟨R, R, rfl, .inl (s_seq (s_if tst (fun z => by cases z) fun _ => rfl) rfl), _, _, rfl⟩)
    obtain ⟨ρ', el, j11, j12, rfl⟩ := lp
    let ρ6 : Rho := [.val Q, .val (tupS T), .val (nbD ats), .emp, .val .none, .val (tupS [a, b, c]), .val .none, .val d, .val (.str a), .val (.str b), .val (.str c), j11, j12]
    let ρ7 : Rho := [.val Q, .val (tupS T), .val (nbD ats), .val (.tuple [.str "none", d]), .val .none, .val (tupS [a, b, c]), .val .none, .val d, .val (.str a), .val (.str b), .val (.str c), j11, j12]
    have it : mitZtl (mcons (mv (mbin dIx (mopd 7) (mv (mret (.int 1))))) (mcons (mv (mlst (mcons (mv (mtup (mcons (mopd 8) (mcons (mopd 9) (mcons (mopd 10) mnil))))) (mcons (mv (mtup (mcons (mopd 8) (mcons (mopd 10) (mcons (mopd 9) mnil))))) (mcons (mv (mtup (mcons (mopd 9) (mcons (mopd 10) (mcons (mopd 8) mnil))))) mnil))))) mnil)) ρ5 = .ok ([(C1, a, b, c), (C2, a, c, b), (C3, b, c, a)].map fun q : List Str × Str × Str × Str => .tuple [tupS q.1, tupS [q.2.1, q.2.2.1, q.2.2.2]]) ρ5 :=
      e_itZtl (ys := [tupS [a, b, c], tupS [a, c, b], tupS [b, c, a]]) (ρ1 := ρ5) (e_v (e_bin rfl rfl rfl rfl ix1)) (e_v (e_lst (e_three (e_v (e_tup (e_three rfl rfl rfl) (by show 3 ≤ 1000; omega) rfl)) (e_v (e_tup (e_three rfl rfl rfl) (by show 3 ≤ 1000; omega) rfl)) (e_v (e_tup (e_three rfl rfl rfl) (by show 3 ≤ 1000; omega) rfl))) (by show 3 ≤ 1000; omega) rfl))
    have sh := shtriad_val (h0 := h0) ok hT (d := d) gd.lf (Nat.le_trans gd.wd (by omega))
    have tR : TR ats T d := ⟨tupS [a, b, c], .tuple [tupS C1, tupS C2, tupS C3], edd, at_of mT nd3, a, b, c, tupS C1, tupS C2, tupS C3, rfl, rfl, h1, h2, h3⟩
    rw [decide_eq_true tR] at sh
    have t4 : mtest (mbin gNotB (mv (mcallV F_shows_triad (mcons (mopd 0) (mcons (mopd 1) (mcons (mopd 7) mnil))))) (mv (mret (.bool true)))) ρ6 = .ok false ρ6 := e_test (e_bin (e_v (mcallV_val (e_three rfl rfl rfl) rfl rfl sh rfl)) rfl rfl rfl rfl)
    have s5 : sset 3 (mcallV F__law_need_or_paper (mcons (mopd 0) (mcons (mopd 1) mnil))) ρ6 = .next ρ7 := s_set (ρ1 := ρ6) (d := .tuple [.str "none", d]) (mcallV_val (e_two rfl rfl) rfl rfl (paper_val ok hT nd l6 lb tr) rfl)
    have rv : mandV (misi "tuple" (mopd 3)) (mandV (mbin dEq (mv (mbin dIx (mopd 3) (mv (mret (.int 0))))) (mv (mret (.str "none")))) (mbin gIsB (mv (mcallV F_shows_triad (mcons (mopd 0) (mcons (mopd 1) (mcons (mv (mbin dIx (mopd 3) (mv (mret (.int 1))))) mnil))))) (mv (mret (.bool true))))) ρ7 = .ok (.bool true) ρ7 :=
      e_andV (k := true) (l := true) (ρ1 := ρ7) (e_isi (T := "tuple") (f := mopd 3) (a := .v (.tuple [.str "none", d])) (x := .tuple [.str "none", d]) rfl rfl) fun _ => e_andV (k := true) (l := true) (e_bin (e_v (e_bin rfl rfl rfl rfl (ix_tupD (xs := [.str "none", d]) (i := 0) rfl))) rfl rfl rfl (eq_str _ _)) fun _ => e_bin (e_v (mcallV_val (e_three rfl rfl (e_v (e_bin rfl rfl rfl rfl (ix_tupD (xs := [.str "none", d]) (i := 1) rfl)))) rfl rfl sh rfl)) rfl rfl rfl rfl
    exact mkF_at ρ0 rfl rfl rfl (ρ := ρ7) (s_seq s1 (s_seq s2 (s_seq s3 (s_seq (s_if t1 (fun z => by cases z) fun _ => rfl) (s_seq (s_if t2 (fun z => by cases z) fun _ => rfl) (s_seq (s_if t3 (fun z => by cases z) fun _ => rfl) (s_seq s4 (s_seq (s_for it el) (s_seq (s_if t4 (fun z => by cases z) fun _ => rfl) (s_seq s5 (s_ret rv))))))))))) rfl
end
end G

set_option Elab.async false
set_option linter.all false
set_option maxRecDepth 100000
set_option maxHeartbeats 0
namespace G
open PySem L2 VS
/-! ### ruling -/
def posS (t : Str) : List Str → Nat
  | [] => 0
  | x :: L => if x = t then 0 else posS t L + 1
def sub (ats : List Atom) (s t : Str) : Prop := ∀ n ∈ nm ats s, n ∈ nm ats t
def pv (pr : Str → Option Int) (t : Str) : Int := (pr t).getD 0
def ruleP (ats : List Atom) (pr : Str → Option Int) (o t : Str) : Prop := o ≠ t ∧ sub ats o t ∧ pv pr o ≤ pv pr t ∧ Conn [] ats o t ∧ (sub ats t o ∧ pv pr o = pv pr t → posS o (tabs ats) < posS t (tabs ats))
noncomputable instance ruleDec (ats : List Atom) (pr : Str → Option Int) (s t : Str) : Decidable (ruleP ats pr s t) := Classical.propDecidable _
noncomputable def ruleB (ats : List Atom) (pr : Str → Option Int) (o t : Str) : Bool := decide (ruleP ats pr o t)
def loose (ats : List Atom) (pr : Str → Option Int) : List Str := (tabs ats).filter fun t => (pr t).isSome
noncomputable def firsts (ats : List Atom) (pr : Str → Option Int) : List Str := (loose ats pr).filter fun t => !((loose ats pr).any fun o => ruleB ats pr o t)
/-! ### prices -/
def opD : Option Int → D
  | none => .none
  | some i => .int i
def POk (ats : List Atom) (pd : D) (pr : Str → Option Int) : Prop := ∀ t ∈ tabs ats, dIx pd (.str t) = some (opD (pr t))
theorem notN_op (o : Option Int) : gNotN (opD o) .none = some (.bool o.isSome) := by cases o <;> rfl
theorem loose_map (ats : List Atom) (pr : Str → Option Int) : ((ats.filter fun a => (pr a.1).isSome).map fun a => PyData.str a.1) = (loose ats pr).map .str := by
  unfold loose tabs
  rw [List.filter_map, List.map_map]; rfl
theorem loose_tab {ats : List Atom} {pr : Str → Option Int} {t : Str} (h : t ∈ loose ats pr) : t ∈ tabs ats := (List.mem_filter.mp h).1
theorem price_of {ats : List Atom} {pd : D} {pr : Str → Option Int} (pk : POk ats pd pr) {t : Str} (h : t ∈ loose ats pr) : dIx pd (.str t) = some (.int (pv pr t)) := by
  rw [pk t (loose_tab h)]
  have := (List.mem_filter.mp h).2
  unfold pv
  cases e : pr t with
  | none => rw [e] at this; cases this
  | some i => rfl
theorem loose_len (ats : List Atom) (pr : Str → Option Int) : (loose ats pr).length ≤ ats.length := by
  rw [← tabs_len ats]; exact List.length_filter_le _ _
theorem ixV_str (t : Str) : ∀ {L : List Str}, t ∈ L → ixV (.str t) (L.map V.str) = some (posS t L)
  | [], h => nomatch h
  | x :: L, h => by
    show (if (x == t) = true then some 0 else (ixV (.str t) (L.map V.str)).map (· + 1)) = some (if x = t then 0 else posS t L + 1)
    by_cases e : x = t
    · rw [if_pos e, if_pos (by rw [e, beq_iff_eq])]
    · rw [if_neg e, if_neg (by rw [beq_iff_eq]; exact e), ixV_str t ((List.mem_cons.mp h).resolve_left fun z => e z.symm)]; rfl
theorem scVs_str : ∀ (L : List Str), scVs (L.map PyData.str) = some (L.map V.str)
  | [] => rfl
  | x :: L => by
    show (scVs (L.map PyData.str)).map _ = _
    rw [scVs_str L]; rfl
theorem index_txt {t : Str} {L : List Str} (h : t ∈ L) : gIndex (txt L) [.str t] = some (.int (posS t L : Nat)) := by
  show (scVs (L.map PyData.str)).bind _ = _
  rw [scVs_str]
  show (ixV (.str t) (L.map V.str)).map _ = _
  rw [ixV_str t h]; rfl
def subb (A B : List Str) : Bool := A.all fun n => decide (n ∈ B)
theorem subb_iff {ats : List Atom} {s t : Str} : subb (nm ats s) (nm ats t) = true ↔ sub ats s t := by
  unfold subb sub
  rw [List.all_eq_true]
  exact ⟨fun h n hn => of_decide_eq_true (h n hn), fun h n hn => decide_eq_true (h n hn)⟩
section
variable {h0 : D} {ats : List Atom} (ok : QOk ats)
include ok
section
variable {pd : D} {pr : Str → Option Int} (pk : POk ats pd pr)
include pk
theorem loose_val : F_loose_tables [.v (qD h0 ats), .v pd] = .ret (.val (tupS (loose ats pr))) [] := by
  have few := ok.few
  refine mkF_at [.val (qD h0 ats), .val pd, .emp, .emp] rfl rfl rfl (ρ := [.val (qD h0 ats), .val pd, .emp, .emp]) (s_ret ?_) rfl
  unfold tupS
  rw [← loose_map]
  exact e_cb1 (e_v (m_lc (L := ats) atD (fun a => (pr a.1).isSome) (fun a => .str a.1) rfl rfl (lineN_big (by omega)) fun a ha => ⟨[.val (qD h0 ats), .val pd, .val (.str a.1), .val (.tuple a.2)], rfl, e_test (e_bin (e_v (e_bin rfl rfl rfl rfl (pk _ (List.mem_map_of_mem ha)))) rfl rfl rfl (notN_op _)), fun _ => rfl, rfl⟩)) rfl rfl
omit ok pk in
theorem lie_val {A B : List Str} (hA : ∀ s ∈ A, okT s = true) (hB : ∀ s ∈ B, okT s = true) (l : A.length ≤ 1000) : F_lie_in [.v (txt A), .v (txt B)] = .ret (.val (.bool (subb A B))) [] := by
  refine mkF_at [.val (txt A), .val (txt B), .emp] rfl rfl rfl (ρ := [.val (txt A), .val (txt B), .emp]) (s_ret (e_cb1 (e_v (m_lca (L := A) PyData.str (fun n => .bool (decide (n ∈ B))) rfl rfl (lineN_big l) fun n hn => ⟨[.val (txt A), .val (txt B), .val (.str n)], rfl, e_bin rfl rfl rfl rfl (in_txt (hA n hn) hB), rfl⟩)) rfl (all_bools _ _))) rfl
theorem rule_val {o t : Str} (ho : o ∈ loose ats pr) (ht : t ∈ loose ats pr) : F_does_rule [.v (qD h0 ats), .v pd, .v (.str o), .v (.str t)] = .ret (.val (.bool (ruleB ats pr o t))) [] := by
  have ot := loose_tab ho
  have tt := loose_tab ht
  have lo := nm_len ok o
  have lt := nm_len ok t
  obtain ⟨kv, L, eR, ek, hL, _⟩ := reached_val (W := []) ok (fun _ h => nomatch h) ot
  have p1 := price_of pk ho
  have p2 := price_of pk ht
  let ρ1 : Rho := [.val (qD h0 ats), .val pd, .val (.str o), .val (.str t), .val (nbD ats), .emp]
  have l1 : mcallV F_lie_in (mcons (mv (mbin dIx (mopd 4) (mopd 2))) (mcons (mv (mbin dIx (mopd 4) (mopd 3))) mnil)) ρ1 = .ok (.bool (subb (nm ats o) (nm ats t))) ρ1 :=
    mcallV_val (e_two (e_v (e_bin rfl rfl rfl rfl (ix_nb ot))) (e_v (e_bin rfl rfl rfl rfl (ix_nb tt)))) rfl rfl (lie_val (nm_ok ok o) (nm_ok ok t) (by omega)) rfl
  have l2 : mcallV F_lie_in (mcons (mv (mbin dIx (mopd 4) (mopd 3))) (mcons (mv (mbin dIx (mopd 4) (mopd 2))) mnil)) ρ1 = .ok (.bool (subb (nm ats t) (nm ats o))) ρ1 :=
    mcallV_val (e_two (e_v (e_bin rfl rfl rfl rfl (ix_nb tt))) (e_v (e_bin rfl rfl rfl rfl (ix_nb ot)))) rfl rfl (lie_val (nm_ok ok t) (nm_ok ok o) (by omega)) rfl
  have t1 : morT (mtest (mbin dEq (mopd 2) (mopd 3))) (morT (mnotT (mtest (mcallV F_lie_in (mcons (mv (mbin dIx (mopd 4) (mopd 2))) (mcons (mv (mbin dIx (mopd 4) (mopd 3))) mnil))))) (mtest (mbin dGt (mv (mbin dIx (mopd 1) (mopd 2))) (mv (mbin dIx (mopd 1) (mopd 3)))))) ρ1 = .ok (decide (o = t) || (!subb (nm ats o) (nm ats t) || decide (pv pr t < pv pr o))) ρ1 :=
    e_or (e_test (e_bin rfl rfl rfl rfl (eq_str o t))) fun _ => e_or (e_not (e_test l1)) fun _ => e_test (e_bin (e_v (e_bin rfl rfl rfl rfl p1)) (e_v (e_bin rfl rfl rfl rfl p2)) rfl rfl rfl)
  have t2 : mtest (mbin dNotIn (mopd 3) (mv (mcallF F_reached (mcons (mopd 4) (mcons (mopd 2) (mcons (mv (mlst mnil)) mnil)))))) ρ1 = .ok (!decide (t ∈ L)) ρ1 :=
    e_test (e_bin rfl (e_v (mcallF_val (e_three rfl rfl rfl) rfl rfl eR rfl)) rfl rfl (notIn_keys ek))
  have t3 : mandT (mtest (mcallV F_lie_in (mcons (mv (mbin dIx (mopd 4) (mopd 3))) (mcons (mv (mbin dIx (mopd 4) (mopd 2))) mnil)))) (mtest (mbin dEq (mv (mbin dIx (mopd 1) (mopd 2))) (mv (mbin dIx (mopd 1) (mopd 3))))) ρ1 = .ok (subb (nm ats t) (nm ats o) && decide (pv pr o = pv pr t)) ρ1 :=
    e_and (e_test l2) fun _ => e_test (e_bin (e_v (e_bin rfl rfl rfl rfl p1)) (e_v (e_bin rfl rfl rfl rfl p2)) rfl rfl (eq_int _ _))
  have key : ∀ b : Bool, (∃ ρ, t_does_rule [.val (qD h0 ats), .val pd, .val (.str o), .val (.str t), .emp, .emp] = .ret (.val (.bool b)) ρ ∧ outsOf [.v (qD h0 ats), .v pd, .v (.str o), .v (.str t)] ρ = some []) → ruleB ats pr o t = b → F_does_rule [.v (qD h0 ats), .v pd, .v (.str o), .v (.str t)] = .ret (.val (.bool (ruleB ats pr o t))) [] := by
    rintro b ⟨ρ, e, q⟩ rfl
    exact mkF_at [.val (qD h0 ats), .val pd, .val (.str o), .val (.str t), .emp, .emp] rfl rfl rfl e q
  have st := s_set (i := 4) (mcallF_val (F := F_names_by_table) (ρ := [.val (qD h0 ats), .val pd, .val (.str o), .val (.str t), .emp, .emp]) (fa := mcons (mopd 0) mnil) (e_one rfl) rfl rfl (names_val ok) rfl)
  by_cases c1 : (decide (o = t) || (!subb (nm ats o) (nm ats t) || decide (pv pr t < pv pr o))) = true
  · refine key false ⟨ρ1, s_seq st (s_seqR (s_if t1 (fun _ => s_ret rfl) fun z => by rw [c1] at z; cases z)), rfl⟩ ?_
    refine decide_eq_false fun ⟨q1, q2, q3, _, _⟩ => ?_
    rw [Bool.or_eq_true, Bool.or_eq_true, decide_eq_true_iff, decide_eq_true_iff] at c1
    rcases c1 with c1 | c1 | c1
    · exact q1 c1
    · rw [subb_iff.mpr q2] at c1; cases c1
    · omega
  have c1f := Bool.eq_false_iff.mpr c1
  rw [Bool.or_eq_true, Bool.or_eq_true, decide_eq_true_iff, decide_eq_true_iff] at c1
  have q1 : o ≠ t := fun z => c1 (.inl z)
  have q2 : subb (nm ats o) (nm ats t) = true := by
    cases e : subb (nm ats o) (nm ats t) with
    | true => rfl
    | false => exact absurd (.inr (.inl (by rw [e]; rfl))) c1
  have q3 : pv pr o ≤ pv pr t := by
    by_cases z : pv pr t < pv pr o
    · exact absurd (.inr (.inr z)) c1
    · omega
  by_cases c2 : t ∉ L
  · have c2t : (!decide (t ∈ L)) = true := by rw [decide_eq_false c2]; rfl
    refine key false ⟨ρ1, s_seq st (s_seq (s_if t1 (fun z => by rw [c1f] at z; cases z) fun _ => rfl) (s_seqR (s_if t2 (fun _ => s_ret rfl) fun z => by rw [c2t] at z; cases z))), rfl⟩ ?_
    exact decide_eq_false fun ⟨_, _, _, q4, _⟩ => c2 ((hL t).mpr q4)
  have c2 := Classical.not_not.mp c2
  have c2f : (!decide (t ∈ L)) = false := by rw [decide_eq_true c2]; rfl
  have q4 := (hL t).mp c2
  have ord : mcb gListA (mcons (mopd 4) mnil) ρ1 = .ok (txt (tabs ats)) ρ1 := e_cb1 rfl rfl (by show some (PyData.list ((nbL ats).map (·.1))) = _; rw [nbL_keys]; rfl)
  cases c3 : (subb (nm ats t) (nm ats o) && decide (pv pr o = pv pr t)) with
  | true =>
    refine key (decide (posS o (tabs ats) < posS t (tabs ats))) ⟨[.val (qD h0 ats), .val pd, .val (.str o), .val (.str t), .val (nbD ats), .val (txt (tabs ats))], s_seq st (s_seq (s_if t1 (fun z => by rw [c1f] at z; cases z) fun _ => rfl) (s_seq (s_if t2 (fun z => by rw [c2f] at z; cases z) fun _ => rfl) (s_seqR (s_if t3 (fun _ => s_seq (s_set ord) (s_ret (e_bin (e_v (e_meth1 rfl rfl rfl rfl rfl (index_txt ot))) (e_v (e_meth1 rfl rfl rfl rfl rfl (index_txt tt))) rfl rfl (lt_nat _ _)))) fun z => by rw [c3] at z; cases z)))), rfl⟩ ?_
    obtain ⟨u, v⟩ := Bool.and_eq_true_iff.mp c3
    unfold ruleB
    rw [Bool.eq_iff_iff, decide_eq_true_iff, decide_eq_true_iff]
    exact ⟨fun h => h.2.2.2.2 ⟨subb_iff.mp u, of_decide_eq_true v⟩, fun h => ⟨q1, subb_iff.mp q2, q3, q4, fun _ => h⟩⟩
  | false =>
    refine key true ⟨ρ1, s_seq st (s_seq (s_if t1 (fun z => by rw [c1f] at z; cases z) fun _ => rfl) (s_seq (s_if t2 (fun z => by rw [c2f] at z; cases z) fun _ => rfl) (s_seq (s_if t3 (fun z => by rw [c3] at z; cases z) fun _ => rfl) (s_ret rfl)))), rfl⟩ ?_
    refine decide_eq_true ⟨q1, subb_iff.mp q2, q3, q4, fun ⟨u, v⟩ => ?_⟩
    rw [subb_iff.mpr u, decide_eq_true v] at c3; cases c3
theorem ruling_val : F_ruling [.v (qD h0 ats), .v pd] = .ret (.val (tupS (firsts ats pr))) [] := by
  have few := ok.few
  have ll := loose_len ats pr
  refine mkF_at [.val (qD h0 ats), .val pd, .emp, .emp, .emp] rfl rfl rfl (ρ := [.val (qD h0 ats), .val pd, .val (tupS (loose ats pr)), .emp, .emp]) (s_seq (s_set (mcallV_val (e_two rfl rfl) rfl rfl (loose_val ok pk) rfl)) (s_ret (e_cb1 (e_v (m_lc (L := loose ats pr) PyData.str (fun t => !((loose ats pr).any fun o => ruleB ats pr o t)) PyData.str rfl rfl (lineN_big (by omega)) fun t ht => ⟨[.val (qD h0 ats), .val pd, .val (tupS (loose ats pr)), .val (.str t), .emp], rfl, ?_, fun _ => rfl, rfl⟩)) rfl rfl))) rfl
  exact e_not (e_test (e_cb1 (e_v (m_lca (L := loose ats pr) PyData.str (fun o => .bool (ruleB ats pr o t)) rfl rfl (lineN_big (by omega)) fun o ho => ⟨[.val (qD h0 ats), .val pd, .val (tupS (loose ats pr)), .val (.str t), .val (.str o)], rfl, mcallV_val (e_four rfl rfl rfl rfl) rfl rfl (rule_val ok pk ho ht) rfl, rfl⟩)) rfl (any_bools _ _)))
end
end
/-! ### prices -/
def okPr : D → Bool
  | .none => true
  | .int i => decide (i.natAbs.log2 < 1920)
  | _ => false
def PL : List D := [.list [.int 1], .list [.int 1, .int 2, .int 3], .list [.int 1, .int 2, .int 3, .none], .list [.int 1, .int 1, .none], .list [.int (10 ^ 30), .int (10 ^ 30 - 1), .int 7]]
def okPL : D → Bool
  | .list xs => !xs.isEmpty && decide (xs.length ≤ 10) && xs.all okPr
  | _ => false
theorem PL_ok : PL.all okPL = true := by decide +kernel
theorem pl_of {d : D} (h : d ∈ PL) : ∃ xs, d = .list xs ∧ xs ≠ [] ∧ xs.length ≤ 10 ∧ ∀ x ∈ xs, okPr x = true := by
  have q := List.all_eq_true.mp PL_ok d h
  cases d with
  | list xs =>
    obtain ⟨a, b⟩ := Bool.and_eq_true_iff.mp q
    obtain ⟨a, c⟩ := Bool.and_eq_true_iff.mp a
    exact ⟨xs, rfl, fun z => (by subst z; cases a), of_decide_eq_true c, fun x hx => List.all_eq_true.mp b x hx⟩
  | none => cases q
  | bool _ => cases q
  | int _ => cases q
  | str _ => cases q
  | tuple _ => cases q
  | dict _ => cases q
def prOf (kv : List (D × D)) (t : Str) : Option Int := match dlook kv (.inr t) with
  | some (.int i) => some i
  | _ => none
theorem prOf_ok {kv : List (D × D)} {K : List Str} (ek : kv.map (·.1) = K.map PyData.str) (hp : ∀ p ∈ kv, okPr p.2 = true) {t : Str} (ht : t ∈ K) : dIx (.dict kv) (.str t) = some (opD (prOf kv t)) := by
  show dlook kv (.inr t) = _
  have h := dlook_keys t kv K ek
  rw [decide_eq_true ht] at h
  unfold prOf
  cases e : dlook kv (.inr t) with
  | none => rw [e] at h; cases h
  | some d =>
    have m : okPr d = true := by
      unfold dlook at e
      obtain ⟨p, hp1, rfl⟩ := Option.map_eq_some_iff.mp e
      exact hp p (List.mem_of_find?_eq_some hp1)
    cases d with
    | none => rfl
    | int i => rfl
    | bool _ => cases m
    | str _ => cases m
    | list _ => cases m
    | tuple _ => cases m
    | dict _ => cases m
def stepP : SM := (sseq (sset 5 (mmut 3 "list" gPopAt (mcons (mv (mcallV F__law_below (mcons (mopd 0) (mcons (mv (mcb gLen (mcons (mopd 3) mnil))) mnil)))) mnil)))
  (sseq (sputD 4 (mcallV F__law_pick (mcons (mopd 0) (mcons (mopd 2) mnil))) (mvar 5))
  snext))
theorem prices_val (cs : List Int) (a b c : Int) {h0 : D} {ats : List Atom} (ok : QOk ats) : ∃ kv a' b' c', F__law_some_prices [.o (potD cs a b c), .v (qD h0 ats)] = .ret (.own (.dict kv)) [potD cs a' b' c'] ∧ POk ats (.dict kv) (prOf kv) := by
  have few := ok.few
  obtain ⟨d, hd, a1, b1, c1, e1⟩ := e_pick' (cs := cs) a b c [.val (qD h0 ats), .emp, .emp, .emp, .emp, .emp] (f := mv (mlst (mcons (mv (mlst (mcons (mv (mret (.int 1))) mnil))) (mcons (mv (mlst (mcons (mv (mret (.int 1))) (mcons (mv (mret (.int 2))) (mcons (mv (mret (.int 3))) mnil))))) (mcons (mv (mlst (mcons (mv (mret (.int 1))) (mcons (mv (mret (.int 2))) (mcons (mv (mret (.int 3))) (mcons (mv (mret .none)) mnil)))))) (mcons (mv (mlst (mcons (mv (mret (.int 1))) (mcons (mv (mret (.int 1))) (mcons (mv (mret .none)) mnil))))) (mcons (mv (mlst (mcons (mv (mbin dPow (mv (mret (.int 10))) (mv (mret (.int 30))))) (mcons (mv (mbin dSub (mv (mbin dPow (mv (mret (.int 10))) (mv (mret (.int 30))))) (mv (mret (.int 1))))) (mcons (mv (mret (.int 7))) mnil))))) mnil))))))) (L := PL) rfl (by intro z; cases z) (by show 5 ≤ 1000; omega)
  obtain ⟨xs, rfl, xne, xl, xp⟩ := pl_of hd
  have lc : mlc (mitT (mbin dIx (mopd 1) (mv (mret (.int 1))))) (mTup [(mName 5), (mName 6)]) (mret true) (mvar 5) [5, 6] [.own (potD cs a1 b1 c1), .val (qD h0 ats), .val (.list xs), .emp, .emp, .emp, .emp] = .ok (txt (tabs ats)) [.own (potD cs a1 b1 c1), .val (qD h0 ats), .val (.list xs), .emp, .emp, .emp, .emp] := by
    have r := m_lca (L := ats) (m := mTup [(mName 5), (mName 6)]) (fi := mitT (mbin dIx (mopd 1) (mv (mret (.int 1))))) (fe := mvar 5) (vs := [5, 6]) (ρ := [.own (potD cs a1 b1 c1), .val (qD h0 ats), .val (.list xs), .emp, .emp, .emp, .emp]) atD (fun a => .str a.1) rfl rfl (lineN_big (by omega)) fun x hx => ⟨[.own (potD cs a1 b1 c1), .val (qD h0 ats), .val (.list xs), .emp, .emp, .val (.str x.1), .val (.tuple x.2)], rfl, rfl, rfl⟩
    rw [r]; unfold txt tabs; rw [List.map_map]; rfl
  have W := swhile_inv (c := mtest (mbin dNe (mopd 3) (mv (mlst mnil)))) (t := stepP) (fun (n : Nat) (ρ : Rho) => ∃ (a b c : Int) (tbl K : List Str) (kv : List (D × D)) (j5 : Sl), n = tbl.length ∧ kv.map (·.1) = K.map PyData.str ∧ (tbl ++ K).Perm (tabs ats) ∧ (∀ p ∈ kv, okPr p.2 = true) ∧ ρ = [.own (potD cs a b c), .val (qD h0 ats), .val (.list xs), .own (txt tbl), .own (.dict kv), j5, .emp])
    (fun (ρ : Rho) => ∃ (a b c : Int) (K : List Str) (kv : List (D × D)) (j5 : Sl), kv.map (·.1) = K.map PyData.str ∧ K.Perm (tabs ats) ∧ (∀ p ∈ kv, okPr p.2 = true) ∧ ρ = [.own (potD cs a b c), .val (qD h0 ats), .val (.list xs), .own (txt []), .own (.dict kv), j5, .emp]) ?_ (tabs ats).length 1000 [.own (potD cs a1 b1 c1), .val (qD h0 ats), .val (.list xs), .own (txt (tabs ats)), .own (.dict []), .emp, .emp] (by rw [tabs_len]; omega) ⟨a1, b1, c1, tabs ats, [], [], .emp, rfl, rfl, by rw [List.append_nil], fun _ h => (nomatch h), rfl⟩
  · obtain ⟨ρ', e, a', b', c', K, kv, j5, ek, pm, hp, rfl⟩ := W
    refine ⟨kv, a', b', c', ?_, fun t ht => prOf_ok ek hp (pm.mem_iff.mpr ht)⟩
    · refine mkF_at [.own (potD cs a b c), .val (qD h0 ats), .emp, .emp, .emp, .emp, .emp] rfl rfl rfl (ρ := [.own (potD cs a' b' c'), .val (qD h0 ats), .val (.list xs), .own (txt []), .emp, j5, .emp]) ?_ rfl
      exact s_seq (s_set e1) (s_seq (s_par (e_ro lc) (e_ro rfl)) (s_seq e (s_retv rfl)))
  · rintro n ρ ⟨a, b, c, tbl, K, kv, j5, rfl, ek, pm, hp, rfl⟩
    have t12 : ∀ s ∈ tbl, okT s = true := fun s hs => tab_ok ok (pm.mem_iff.mp (List.mem_append_left _ hs))
    have tst : mtest (mbin dNe (mopd 3) (mv (mlst mnil))) [.own (potD cs a b c), .val (qD h0 ats), .val (.list xs), .own (txt tbl), .own (.dict kv), j5, .emp] = .ok (!(tbl.map PyData.str).isEmpty) [.own (potD cs a b c), .val (qD h0 ats), .val (.list xs), .own (txt tbl), .own (.dict kv), j5, .emp] := e_test (e_bin rfl rfl rfl rfl (ne_nil (shp_txt t12)))
    by_cases hz : tbl = []
    · subst hz
      exact .inl ⟨tst, a, b, c, K, kv, j5, ek, pm, hp, rfl⟩
    right
    have hl : 0 < tbl.length := List.length_pos_iff.mpr hz
    have he : (!(tbl.map PyData.str).isEmpty) = true := by cases tbl with
      | nil => exact absurd rfl hz
      | cons _ _ => rfl
    rw [he] at tst
    have l2 := pm.length_eq
    rw [List.length_append, tabs_len] at l2
    have l1 := congrArg List.length ek
    rw [List.length_map, List.length_map] at l1
    obtain ⟨x, a2, b2, c2, x0, x1, e2⟩ := e_below' (cs := cs) a b c [.val (qD h0 ats), .val (.list xs), .own (txt tbl), .own (.dict kv), j5, .emp] (f := mv (mcb gLen (mcons (mopd 3) mnil))) (n := (tbl.length : Nat)) (e_v (e_cb1 rfl rfl (len_txt tbl))) (by omega) (by omega)
    obtain ⟨k, rfl⟩ := Int.eq_ofNat_of_zero_le x0
    have hk : k < tbl.length := by omega
    have f1 : mmut 3 "list" gPopAt (mcons (mv (mcallV F__law_below (mcons (mopd 0) (mcons (mv (mcb gLen (mcons (mopd 3) mnil))) mnil)))) mnil) [.own (potD cs a b c), .val (qD h0 ats), .val (.list xs), .own (txt tbl), .own (.dict kv), j5, .emp] = .ok (.str tbl[k]) [.own (potD cs a2 b2 c2), .val (qD h0 ats), .val (.list xs), .own (txt (tbl.eraseIdx k)), .own (.dict kv), j5, .emp] :=
      e_mut (i := 3) (T := "list") (d0 := txt tbl) (d1 := txt tbl) rfl rfl (e_one (e_v e2)) rfl rfl (pop_map .str tbl hk (by omega))
    obtain ⟨d, hd, a3, b3, c3, e3⟩ := e_pick' (cs := cs) a2 b2 c2 [.val (qD h0 ats), .val (.list xs), .own (txt (tbl.eraseIdx k)), .own (.dict kv), .val (.str tbl[k]), .emp] (f := mopd 2) (L := xs) rfl xne (by omega)
    have pm2 : (tbl.eraseIdx k ++ (K ++ [tbl[k]])).Perm (tabs ats) := by
      rw [← List.append_assoc]
      exact ((List.perm_append_singleton _ _).trans ((erase_perm tbl k hk).append_right K)).trans pm
    have nin : tbl[k] ∉ K := fun z => by
      have nd : (tbl ++ K).Nodup := pm.nodup_iff.mpr ok.nd
      exact (List.nodup_append.mp nd).2.2 _ (List.getElem_mem hk) _ z rfl
    refine ⟨tst, tbl.length - 1, [.own (potD cs a3 b3 c3), .val (qD h0 ats), .val (.list xs), .own (txt (tbl.eraseIdx k)), .own (.dict (kv ++ [(.str tbl[k], d)])), .val (.str tbl[k]), .emp], by omega, .inl ?_, a3, b3, c3, tbl.eraseIdx k, K ++ [tbl[k]], _, _, (List.length_eraseIdx_of_lt hk).symm, ?_, pm2, ?_, rfl⟩
    · refine s_seq (s_set f1) (s_seq (s_putD e3 rfl rfl rfl rfl (lineN_lt (by omega))) ?_)
      rw [dput_new _ ek nin]; rfl
    · rw [List.map_append, List.map_append, ek]; rfl
    · intro p hp'
      rcases List.mem_append.mp hp' with hp' | hp'
      · exact hp p hp'
      · cases List.mem_singleton.mp hp'; exact xp d hd
end G

set_option Elab.async false
set_option linter.all false
set_option maxRecDepth 100000
set_option maxHeartbeats 0
namespace G
open PySem L2 VS
def Lw (ns : List Int) (pot : D) (j2 j3 j4 j5 j6 j7 j8 j9 : Sl) : Rho := [.scr ns, .own pot, j2, j3, j4, j5, j6, j7, j8, j9, .emp]
def drw : M Bool := mtest (mbin dEq (mv (mcallV F__law_below (mcons (mopd 1) (mcons (mv (mret (.int 2))) mnil)))) (mv (mret (.int 0))))
def bodyT : SM := (sseq (sif (mnotT (mtest (mcallV F__law_right (mcons (mopd 6) (mcons (mopd 8) mnil))))) (sseq (sbind (mret (.bool false)) fun d ρ => .ret (.val d) ρ)
  snext) snext)
  snext)
def threeT : M D := mtup (mcons (mopd 5) (mcons (mv (mslice (mopd 5) (mpart (mret (.int 1))) (mret none))) (mcons (mv (mcb gTup (mcons (mv (mlc (mitT (mvar 5)) (mName 10) (mtest (mbin dIn (mopd 10) (mopd 7))) (mvar 10) [10])) mnil))) mnil)))
def someT : M D := mcb gTup (mcons (mv (mlc (mitT (mvar 5)) (mName 10) drw (mvar 10) [10])) mnil)
def bodyP : SM := (sseq (sset 6 (mif drw (mvar 3) (mcallV F__law_part_by (mcons (mopd 3) (mcons (mopd 5) mnil)))))
  (sseq (sset 7 (mcallV F_ruling (mcons (mopd 3) (mcons (mopd 4) mnil))))
  (sseq (sfor (mitT threeT) (mName 8) bodyT)
  (sseq (sset 9 someT)
  (sseq (sif (mnotT (mtest (mcallV F__law_right (mcons (mopd 6) (mcons (mopd 9) mnil))))) (sseq (sbind (mret (.bool false)) fun d ρ => .ret (.val d) ρ)
  snext) snext)
  snext)))))
def bodyL : SM := (sseq (sset 3 (mcallV F__law_some_question (mcons (mopd 1) mnil)))
  (sseq (sset 4 (mcallF F__law_some_prices (mcons (mopd 1) (mcons (mopd 3) mnil))))
  (sseq (sfor (mitT (mcallV F__law_all_pieces (mcons (mopd 3) mnil))) (mName 5) bodyP)
  snext)))
theorem drw_val (ns cs : List Int) (a b c : Int) (r : List Sl) : ∃ k a' b' c', drw (.scr ns :: .own (potD cs a b c) :: r) = .ok k (.scr ns :: .own (potD cs a' b' c') :: r) := by
  obtain ⟨x, a1, b1, c1, x0, x1, e⟩ := below_val cs a b c (n := 2) (by decide) (by decide)
  let R0 : Rho := .scr ns :: .own (potD cs a b c) :: r
  let R1 : Rho := .scr ns :: .own (potD cs a1 b1 c1) :: r
  have k1 : mcallV F__law_below (mcons (mopd 1) (mcons (mv (mret (.int 2))) mnil)) R0 = .ok (.int x) R1 := mcallV_val (e_two (a := .p 1) (ρ1 := R0) (ρ2 := R0) rfl rfl) rfl rfl e rfl
  exact ⟨decide (x = 0), a1, b1, c1, e_test (e_bin (e_v k1) rfl rfl rfl (eq_int _ _))⟩
theorem bodyP_val (ns cs : List Int) (a b c : Int) {ats : List Atom} (ok : QOk ats) {pd : D} {pr : Str → Option Int} (pk : POk ats pd pr) {P : List Str} (hp : P ∈ pcs ats) (j2 j6 j7 j8 j9 : Sl) :
    ∃ a' b' c' k2 k6 k7 k8 k9, bodyP (Lw ns (potD cs a b c) j2 (.val (qD (.tuple []) ats)) (.val pd) (.val (tupS P)) j6 j7 j8 j9) = .next (Lw ns (potD cs a' b' c') k2 (.val (qD (.tuple []) ats)) (.val pd) (.val (tupS P)) k6 k7 k8 k9) := by
  have few := ok.few
  obtain ⟨hPt, lP, ndP⟩ : (∀ t ∈ P, t ∈ tabs ats) ∧ P.length ≤ 6 ∧ P.Nodup := by
    obtain ⟨u, _, rfl⟩ := pcs_cls ats P hp
    exact ⟨fun t ht => (mem_cls.mp ht).1, Nat.le_trans (cls_len ats u) few, ok.nd.filter _⟩
  let q : D := qD (.tuple []) ats
  let R0 : Rho := Lw ns (potD cs a b c) j2 (.val q) (.val pd) (.val (tupS P)) j6 j7 j8 j9
  have st6 : ∃ ap a1 b1 c1, QOk ap ∧ (∀ t ∈ P, t ∈ tabs ap) ∧ sset 6 (mif drw (mvar 3) (mcallV F__law_part_by (mcons (mopd 3) (mcons (mopd 5) mnil)))) R0 = .next (Lw ns (potD cs a1 b1 c1) j2 (.val q) (.val pd) (.val (tupS P)) (.val (qD (.tuple []) ap)) j7 j8 j9) := by
    obtain ⟨k, a1, b1, c1, t1⟩ := drw_val ns cs a b c [j2, .val q, .val pd, .val (tupS P), j6, j7, j8, j9, .emp]
    let R1 : Rho := Lw ns (potD cs a1 b1 c1) j2 (.val q) (.val pd) (.val (tupS P)) j6 j7 j8 j9
    have t1 : drw R0 = .ok k R1 := t1
    cases k with
    | true => exact ⟨ats, a1, b1, c1, ok, hPt, s_set (ρ1 := R1) (d := q) (e_if t1 (fun _ => rfl) fun z => by cases z)⟩
    | false =>
      obtain ⟨ok', mem⟩ := part_ok ok hPt (pc_ne hp)
      exact ⟨_, a1, b1, c1, ok', mem, s_set (ρ1 := R1) (d := partD ats P) (e_if t1 (fun z => by cases z) fun _ => mcallV_val (e_two rfl rfl) rfl rfl (lpart_val ok (pc_ok ok hp)) rfl)⟩
  obtain ⟨ap, a1, b1, c1, okp, hPp, s6⟩ := st6
  let qp : D := qD (.tuple []) ap
  let F := firsts ats pr
  let R2 : Rho := Lw ns (potD cs a1 b1 c1) j2 (.val q) (.val pd) (.val (tupS P)) (.val qp) j7 j8 j9
  let R3 : Rho := Lw ns (potD cs a1 b1 c1) j2 (.val q) (.val pd) (.val (tupS P)) (.val qp) (.val (tupS F)) j8 j9
  have s7 : sset 7 (mcallV F_ruling (mcons (mopd 3) (mcons (mopd 4) mnil))) R2 = .next R3 := s_set (ρ1 := R2) (d := tupS F) (mcallV_val (e_two rfl rfl) rfl rfl (ruling_val ok pk) rfl)
  have fok : ∀ t ∈ F, okT t = true := fun t ht => tab_ok ok (loose_tab (List.mem_filter.mp ht).1)
  let M : List Str := P.filter fun t => decide (t ∈ F)
  have lcM : mlc (mitT (mvar 5)) (mName 10) (mtest (mbin dIn (mopd 10) (mopd 7))) (mvar 10) [10] R3 = .ok (.list (M.map .str)) R3 :=
    m_lc (L := P) PyData.str (fun t => decide (t ∈ F)) PyData.str rfl rfl (lineN_big (by omega)) fun t ht => ⟨[.scr ns, .own (potD cs a1 b1 c1), j2, .val q, .val pd, .val (tupS P), .val qp, .val (tupS F), j8, j9, .val (.str t)], rfl, e_test (e_bin rfl rfl rfl rfl (in_tupS (tab_ok ok (hPt t ht)) fok)), fun _ => rfl, rfl⟩
  have it : mitT threeT R3 = .ok ([P, P.drop 1, M].map tupS) R3 := e_itT (e_tup (e_three rfl (e_v (e_slice rfl (e_part rfl) rfl rfl (sl_drop P 1))) (e_v (e_cb1 (e_v lcM) rfl rfl))) (by show 3 ≤ 1000; omega) rfl)
  have right : ∀ T : List Str, T.Sublist P → F__law_right [.v qp, .v (tupS T)] = .ret (.val (.bool true)) [] := fun T h => right_val okp (fun t ht => hPp t (h.subset ht)) (ndP.sublist h) (Nat.le_trans h.length_le lP)
  have lp := sloop_map (m := mName 8) (t := bodyT) tupS (fun (_ : List (List Str)) (ρ : Rho) => ∃ (j8 : Sl), ρ = Lw ns (potD cs a1 b1 c1) j2.demote (.val q) (.val pd) (.val (tupS P)) (.val qp) (.val (tupS F)) j8 j9.demote) [P, P.drop 1, M] (Lw ns (potD cs a1 b1 c1) j2.demote (.val q) (.val pd) (.val (tupS P)) (.val qp) (.val (tupS F)) j8.demote j9.demote) ⟨_, rfl⟩ (by
    rintro T r ρ hm ⟨j8, rfl⟩
    have sub : T.Sublist P := by
      simp only [List.mem_cons, List.not_mem_nil, or_false] at hm
      rcases hm with rfl | rfl | rfl
      · exact List.Sublist.refl _
      · exact List.drop_sublist 1 P
      · exact List.filter_sublist
    let R : Rho := Lw ns (potD cs a1 b1 c1) j2.demote (.val q) (.val pd) (.val (tupS P)) (.val qp) (.val (tupS F)) (.val (tupS T)) j9.demote
    have tst : mnotT (mtest (mcallV F__law_right (mcons (mopd 6) (mcons (mopd 8) mnil)))) R = .ok false R := e_not (k := true) (e_test (mcallV_val (e_two rfl rfl) rfl rfl (right T sub) rfl))
    exact ⟨R, R, rfl, .inl (s_seq (s_if tst (fun z => by cases z) fun _ => rfl) rfl), _, rfl⟩)
  obtain ⟨ρ', el, k8, rfl⟩ := lp
  let R4 : Rho := Lw ns (potD cs a1 b1 c1) j2.demote (.val q) (.val pd) (.val (tupS P)) (.val qp) (.val (tupS F)) k8 j9.demote
  obtain ⟨T, ρT, eT, ⟨a2, b2, c2, rfl⟩, sT⟩ := m_sub (L := P) (m := mName 10) (fi := mitT (mvar 5)) (ft := drw) (fe := mvar 10) (vs := [10]) (ρ := R4) PyData.str PyData.str (fun ρ => ∃ a b c, ρ = Lw ns (potD cs a b c) j2.demote (.val q) (.val pd) (.val (tupS P)) (.val qp) (.val (tupS F)) k8 j9.demote) rfl rfl (lineN_big (by omega)) ⟨_, _, _, rfl⟩ (by
    rintro t ht ρ ⟨a, b, c, rfl⟩
    obtain ⟨k, a', b', c', e⟩ := drw_val ns cs a b c [j2.demote, .val q, .val pd, .val (tupS P), .val qp, .val (tupS F), k8, j9.demote, .val (.str t)]
    exact ⟨_, k, _, rfl, e, rfl, a', b', c', rfl⟩)
  let R5 : Rho := Lw ns (potD cs a2 b2 c2) j2.demote (.val q) (.val pd) (.val (tupS P)) (.val qp) (.val (tupS F)) k8 j9.demote
  let R6 : Rho := Lw ns (potD cs a2 b2 c2) j2.demote (.val q) (.val pd) (.val (tupS P)) (.val qp) (.val (tupS F)) k8 (.val (tupS T))
  have s9 : sset 9 someT R4 = .next R6 := s_set (ρ1 := R5) (d := tupS T) (e_cb1 (e_v eT) rfl rfl)
  have tst : mnotT (mtest (mcallV F__law_right (mcons (mopd 6) (mcons (mopd 9) mnil)))) R6 = .ok false R6 := e_not (k := true) (e_test (mcallV_val (e_two rfl rfl) rfl rfl (right T sT) rfl))
  exact ⟨a2, b2, c2, _, _, _, _, _, s_seq s6 (s_seq s7 (s_seq (s_for it el) (s_seq s9 (s_seq (s_if tst (fun z => by cases z) fun _ => rfl) rfl))))⟩
theorem turn_val (ns cs : List Int) (a b c : Int) (j2 j3 j4 j5 j6 j7 j8 j9 : Sl) : ∃ a' b' c' k2 k3 k4 k5 k6 k7 k8 k9, bodyL (Lw ns (potD cs a b c) j2 j3 j4 j5 j6 j7 j8 j9) = .next (Lw ns (potD cs a' b' c') k2 k3 k4 k5 k6 k7 k8 k9) := by
  obtain ⟨ats, a1, b1, c1, ok, e1⟩ := question_val cs a b c
  let q : D := qD (.tuple []) ats
  obtain ⟨kv, a2, b2, c2, e2, pk⟩ := prices_val cs a1 b1 c1 (h0 := .tuple []) ok
  let R0 : Rho := Lw ns (potD cs a b c) j2 j3 j4 j5 j6 j7 j8 j9
  let R1 : Rho := Lw ns (potD cs a1 b1 c1) j2 (.val q) j4 j5 j6 j7 j8 j9
  let R2 : Rho := Lw ns (potD cs a2 b2 c2) j2 (.val q) (.val (.dict kv)) j5 j6 j7 j8 j9
  have s3 : sset 3 (mcallV F__law_some_question (mcons (mopd 1) mnil)) R0 = .next R1 := s_set (ρ1 := Lw ns (potD cs a1 b1 c1) j2 j3 j4 j5 j6 j7 j8 j9) (d := q) (mcallV_val (e_one rfl) rfl rfl e1 rfl)
  have s4 : sset 4 (mcallF F__law_some_prices (mcons (mopd 1) (mcons (mopd 3) mnil))) R1 = .next R2 := s_set (ρ1 := Lw ns (potD cs a2 b2 c2) j2 (.val q) j4 j5 j6 j7 j8 j9) (d := .dict kv) (mcallF_val (e_two (a := .p 1) (ρ1 := R1) rfl rfl) rfl rfl e2 rfl)
  have it : mitT (mcallV F__law_all_pieces (mcons (mopd 3) mnil)) R2 = .ok ((pcs ats).map tupS) R2 := e_itT (mcallV_val (e_one rfl) rfl rfl (lpieces_val ok) rfl)
  have lp := sloop_map (m := mName 5) (t := bodyP) tupS (fun (_ : List (List Str)) (ρ : Rho) => ∃ (a b c : Int) (k2 k5 k6 k7 k8 k9 : Sl), ρ = Lw ns (potD cs a b c) k2 (.val q) (.val (.dict kv)) k5 k6 k7 k8 k9) (pcs ats) (Lw ns (potD cs a2 b2 c2) j2.demote (.val q) (.val (.dict kv)) j5.demote j6.demote j7.demote j8.demote j9.demote) ⟨_, _, _, _, _, _, _, _, _, rfl⟩ (by
    rintro P r ρ hP ⟨a, b, c, k2, k5, k6, k7, k8, k9, rfl⟩
    obtain ⟨a', b', c', m2, m6, m7, m8, m9, e⟩ := bodyP_val ns cs a b c ok pk hP k2 k6 k7 k8 k9
    exact ⟨_, _, rfl, .inl e, a', b', c', _, _, _, _, _, _, rfl⟩)
  obtain ⟨ρ', e, a', b', c', k2, k5, k6, k7, k8, k9, rfl⟩ := lp
  exact ⟨a', b', c', _, _, _, _, _, _, _, _, s_seq s3 (s_seq s4 (s_seq (s_for it e) rfl))⟩
def Lw' (ns : List Int) : Rho := [.scr ns, .emp, .emp, .emp, .emp, .emp, .emp, .emp, .emp, .emp, .emp]
theorem law_holds (ns : List Int) (h : ns.length ≤ 63) : frTrue (F_law [.s ns]) := by
  obtain ⟨cs, e0⟩ := pot_val ns h
  have lp := sloop_map (m := mName 2) (t := bodyL) (fun i : Nat => .int (0 + (i : Int))) (fun (_ : List Nat) (ρ : Rho) => ∃ (a b c : Int) (j2 j3 j4 j5 j6 j7 j8 j9 : Sl), ρ = Lw ns (potD cs a b c) j2 j3 j4 j5 j6 j7 j8 j9) (List.range 12) (Lw ns (potD cs 0 0 0) .emp .emp .emp .emp .emp .emp .emp .emp) ⟨_, _, _, _, _, _, _, _, _, _, _, rfl⟩ (by
    rintro i r ρ hi ⟨a, b, c, j2, j3, j4, j5, j6, j7, j8, j9, rfl⟩
    obtain ⟨a', b', c', k2, k3, k4, k5, k6, k7, k8, k9, e⟩ := turn_val ns cs a b c (.val (.int (0 + (i : Int)))) j3 j4 j5 j6 j7 j8 j9
    exact ⟨_, _, rfl, .inl e, a', b', c', _, _, _, _, _, _, _, _, rfl⟩)
  obtain ⟨ρ', e, a, b, c, j2, j3, j4, j5, j6, j7, j8, j9, rfl⟩ := lp
  have r : F_law [.s ns] = .ret (.val (.bool true)) [] := by
    refine mkF_at (Lw' ns) rfl rfl rfl (ρ := Lw ns (potD cs a b c) j2 j3 j4 j5 j6 j7 j8 j9) ?_ rfl
    exact s_seq (s_setF (ρ1 := Lw' ns) (d := potD cs 0 0 0) (mcallF_val (e_one rfl) rfl rfl e0 rfl)) (s_seq (s_forR (e_R1 rfl rfl) e) (s_ret rfl))
  rw [r]; trivial
end G

set_option Elab.async false
set_option linter.all false
set_option maxRecDepth 100000
set_option maxHeartbeats 0
namespace G
open PySem L2 VS
/-! ### the head -/
theorem all_mk {l : PySem.W.OpenLaw} {w : World} {K : PySem.W.Frag} {h : Heap} {mg : Str → Option Value} {fa : Addr} (X : K.In h) (G : h.Ns mainGlobals mg) (hfa : mg "law" = some (.ref fa))
    {f0 f1 f2 f3 f4 f5 f6 f7 f8 f9 f10 f11 f12 f13 f14 f15 f16 f17 f18 f19 f20 f21 f22 f23 f24 f25 f26 f27 f28 f29 f30 f31 f32 f33 f34 f35 f36 f37 f38 : Addr}
    {od0 an0 : Option Addr} {sl0 : Array (Option Value)} {oc0 kV0 dc0 pm0 cd0 ct0 : Value}
    (a0 : PySem.W.nsIn K mainGlobals "names_by_table" = some (some (.ref f0))) (l0 : K.lookup f0 = some ⟨oc0, od0, .func (PySem.W.fnOf "names_by_table" "names_by_table" (defArgs s_names_by_table) (defBody s_names_by_table) (defScope s_names_by_table) .none kV0 dc0 pm0 an0 cd0 ct0), sl0⟩) (c0 : PySem.W.codeIn K cd0 "names_by_table" = true) (k0 : PySem.W.keepIn K (.ref f0) = true)
    {od1 an1 : Option Addr} {sl1 : Array (Option Value)} {oc1 kV1 dc1 pm1 cd1 ct1 : Value}
    (a1 : PySem.W.nsIn K mainGlobals "reached" = some (some (.ref f1))) (l1 : K.lookup f1 = some ⟨oc1, od1, .func (PySem.W.fnOf "reached" "reached" (defArgs s_reached) (defBody s_reached) (defScope s_reached) .none kV1 dc1 pm1 an1 cd1 ct1), sl1⟩) (c1 : PySem.W.codeIn K cd1 "reached" = true) (k1 : PySem.W.keepIn K (.ref f1) = true)
    {od2 an2 : Option Addr} {sl2 : Array (Option Value)} {oc2 kV2 dc2 pm2 cd2 ct2 : Value}
    (a2 : PySem.W.nsIn K mainGlobals "lie_in" = some (some (.ref f2))) (l2 : K.lookup f2 = some ⟨oc2, od2, .func (PySem.W.fnOf "lie_in" "lie_in" (defArgs s_lie_in) (defBody s_lie_in) (defScope s_lie_in) .none kV2 dc2 pm2 an2 cd2 ct2), sl2⟩) (c2 : PySem.W.codeIn K cd2 "lie_in" = true) (k2 : PySem.W.keepIn K (.ref f2) = true)
    {od3 an3 : Option Addr} {sl3 : Array (Option Value)} {oc3 kV3 dc3 pm3 cd3 ct3 : Value}
    (a3 : PySem.W.nsIn K mainGlobals "does_part" = some (some (.ref f3))) (l3 : K.lookup f3 = some ⟨oc3, od3, .func (PySem.W.fnOf "does_part" "does_part" (defArgs s_does_part) (defBody s_does_part) (defScope s_does_part) .none kV3 dc3 pm3 an3 cd3 ct3), sl3⟩) (c3 : PySem.W.codeIn K cd3 "does_part" = true) (k3 : PySem.W.keepIn K (.ref f3) = true)
    {od4 an4 : Option Addr} {sl4 : Array (Option Value)} {oc4 kV4 dc4 pm4 cd4 ct4 : Value}
    (a4 : PySem.W.nsIn K mainGlobals "loose_tables" = some (some (.ref f4))) (l4 : K.lookup f4 = some ⟨oc4, od4, .func (PySem.W.fnOf "loose_tables" "loose_tables" (defArgs s_loose_tables) (defBody s_loose_tables) (defScope s_loose_tables) .none kV4 dc4 pm4 an4 cd4 ct4), sl4⟩) (c4 : PySem.W.codeIn K cd4 "loose_tables" = true) (k4 : PySem.W.keepIn K (.ref f4) = true)
    {od5 an5 : Option Addr} {sl5 : Array (Option Value)} {oc5 kV5 dc5 pm5 cd5 ct5 : Value}
    (a5 : PySem.W.nsIn K mainGlobals "does_rule" = some (some (.ref f5))) (l5 : K.lookup f5 = some ⟨oc5, od5, .func (PySem.W.fnOf "does_rule" "does_rule" (defArgs s_does_rule) (defBody s_does_rule) (defScope s_does_rule) .none kV5 dc5 pm5 an5 cd5 ct5), sl5⟩) (c5 : PySem.W.codeIn K cd5 "does_rule" = true) (k5 : PySem.W.keepIn K (.ref f5) = true)
    {od6 an6 : Option Addr} {sl6 : Array (Option Value)} {oc6 kV6 dc6 pm6 cd6 ct6 : Value}
    (a6 : PySem.W.nsIn K mainGlobals "ruling" = some (some (.ref f6))) (l6 : K.lookup f6 = some ⟨oc6, od6, .func (PySem.W.fnOf "ruling" "ruling" (defArgs s_ruling) (defBody s_ruling) (defScope s_ruling) .none kV6 dc6 pm6 an6 cd6 ct6), sl6⟩) (c6 : PySem.W.codeIn K cd6 "ruling" = true) (k6 : PySem.W.keepIn K (.ref f6) = true)
    {od7 an7 : Option Addr} {sl7 : Array (Option Value)} {oc7 kV7 dc7 pm7 cd7 ct7 : Value}
    (a7 : PySem.W.nsIn K mainGlobals "fits_line" = some (some (.ref f7))) (l7 : K.lookup f7 = some ⟨oc7, od7, .func (PySem.W.fnOf "fits_line" "fits_line" (defArgs s_fits_line) (defBody s_fits_line) (defScope s_fits_line) .none kV7 dc7 pm7 an7 cd7 ct7), sl7⟩) (c7 : PySem.W.codeIn K cd7 "fits_line" = true) (k7 : PySem.W.keepIn K (.ref f7) = true)
    {od8 an8 : Option Addr} {sl8 : Array (Option Value)} {oc8 kV8 dc8 pm8 cd8 ct8 : Value}
    (a8 : PySem.W.nsIn K mainGlobals "line_behind" = some (some (.ref f8))) (l8 : K.lookup f8 = some ⟨oc8, od8, .func (PySem.W.fnOf "line_behind" "line_behind" (defArgs s_line_behind) (defBody s_line_behind) (defScope s_line_behind) .none kV8 dc8 pm8 an8 cd8 ct8), sl8⟩) (c8 : PySem.W.codeIn K cd8 "line_behind" = true) (k8 : PySem.W.keepIn K (.ref f8) = true)
    {od9 an9 : Option Addr} {sl9 : Array (Option Value)} {oc9 kV9 dc9 pm9 cd9 ct9 : Value}
    (a9 : PySem.W.nsIn K mainGlobals "line_of" = some (some (.ref f9))) (l9 : K.lookup f9 = some ⟨oc9, od9, .func (PySem.W.fnOf "line_of" "line_of" (defArgs s_line_of) (defBody s_line_of) (defScope s_line_of) .none kV9 dc9 pm9 an9 cd9 ct9), sl9⟩) (c9 : PySem.W.codeIn K cd9 "line_of" = true) (k9 : PySem.W.keepIn K (.ref f9) = true)
    {od10 an10 : Option Addr} {sl10 : Array (Option Value)} {oc10 kV10 dc10 pm10 cd10 ct10 : Value}
    (a10 : PySem.W.nsIn K mainGlobals "is_triad" = some (some (.ref f10))) (l10 : K.lookup f10 = some ⟨oc10, od10, .func (PySem.W.fnOf "is_triad" "is_triad" (defArgs s_is_triad) (defBody s_is_triad) (defScope s_is_triad) .none kV10 dc10 pm10 an10 cd10 ct10), sl10⟩) (c10 : PySem.W.codeIn K cd10 "is_triad" = true) (k10 : PySem.W.keepIn K (.ref f10) = true)
    {od11 an11 : Option Addr} {sl11 : Array (Option Value)} {oc11 kV11 dc11 pm11 cd11 ct11 : Value}
    (a11 : PySem.W.nsIn K mainGlobals "chain_of" = some (some (.ref f11))) (l11 : K.lookup f11 = some ⟨oc11, od11, .func (PySem.W.fnOf "chain_of" "chain_of" (defArgs s_chain_of) (defBody s_chain_of) (defScope s_chain_of) .none kV11 dc11 pm11 an11 cd11 ct11), sl11⟩) (c11 : PySem.W.codeIn K cd11 "chain_of" = true) (k11 : PySem.W.keepIn K (.ref f11) = true)
    {od12 an12 : Option Addr} {sl12 : Array (Option Value)} {oc12 kV12 dc12 pm12 cd12 ct12 : Value}
    (a12 : PySem.W.nsIn K mainGlobals "triad_of" = some (some (.ref f12))) (l12 : K.lookup f12 = some ⟨oc12, od12, .func (PySem.W.fnOf "triad_of" "triad_of" (defArgs s_triad_of) (defBody s_triad_of) (defScope s_triad_of) .none kV12 dc12 pm12 an12 cd12 ct12), sl12⟩) (c12 : PySem.W.codeIn K cd12 "triad_of" = true) (k12 : PySem.W.keepIn K (.ref f12) = true)
    {od13 an13 : Option Addr} {sl13 : Array (Option Value)} {oc13 kV13 dc13 pm13 cd13 ct13 : Value}
    (a13 : PySem.W.nsIn K mainGlobals "need_line" = some (some (.ref f13))) (l13 : K.lookup f13 = some ⟨oc13, od13, .func (PySem.W.fnOf "need_line" "need_line" (defArgs s_need_line) (defBody s_need_line) (defScope s_need_line) .none kV13 dc13 pm13 an13 cd13 ct13), sl13⟩) (c13 : PySem.W.codeIn K cd13 "need_line" = true) (k13 : PySem.W.keepIn K (.ref f13) = true)
    {od14 an14 : Option Addr} {sl14 : Array (Option Value)} {oc14 kV14 dc14 pm14 cd14 ct14 : Value}
    (a14 : PySem.W.nsIn K mainGlobals "are_tables" = some (some (.ref f14))) (l14 : K.lookup f14 = some ⟨oc14, od14, .func (PySem.W.fnOf "are_tables" "are_tables" (defArgs s_are_tables) (defBody s_are_tables) (defScope s_are_tables) .none kV14 dc14 pm14 an14 cd14 ct14), sl14⟩) (c14 : PySem.W.codeIn K cd14 "are_tables" = true) (k14 : PySem.W.keepIn K (.ref f14) = true)
    {od15 an15 : Option Addr} {sl15 : Array (Option Value)} {oc15 kV15 dc15 pm15 cd15 ct15 : Value}
    (a15 : PySem.W.nsIn K mainGlobals "shows_line" = some (some (.ref f15))) (l15 : K.lookup f15 = some ⟨oc15, od15, .func (PySem.W.fnOf "shows_line" "shows_line" (defArgs s_shows_line) (defBody s_shows_line) (defScope s_shows_line) .none kV15 dc15 pm15 an15 cd15 ct15), sl15⟩) (c15 : PySem.W.codeIn K cd15 "shows_line" = true) (k15 : PySem.W.keepIn K (.ref f15) = true)
    {od16 an16 : Option Addr} {sl16 : Array (Option Value)} {oc16 kV16 dc16 pm16 cd16 ct16 : Value}
    (a16 : PySem.W.nsIn K mainGlobals "is_chain" = some (some (.ref f16))) (l16 : K.lookup f16 = some ⟨oc16, od16, .func (PySem.W.fnOf "is_chain" "is_chain" (defArgs s_is_chain) (defBody s_is_chain) (defScope s_is_chain) .none kV16 dc16 pm16 an16 cd16 ct16), sl16⟩) (c16 : PySem.W.codeIn K cd16 "is_chain" = true) (k16 : PySem.W.keepIn K (.ref f16) = true)
    {od17 an17 : Option Addr} {sl17 : Array (Option Value)} {oc17 kV17 dc17 pm17 cd17 ct17 : Value}
    (a17 : PySem.W.nsIn K mainGlobals "shows_triad" = some (some (.ref f17))) (l17 : K.lookup f17 = some ⟨oc17, od17, .func (PySem.W.fnOf "shows_triad" "shows_triad" (defArgs s_shows_triad) (defBody s_shows_triad) (defScope s_shows_triad) .none kV17 dc17 pm17 an17 cd17 ct17), sl17⟩) (c17 : PySem.W.codeIn K cd17 "shows_triad" = true) (k17 : PySem.W.keepIn K (.ref f17) = true)
    {od18 an18 : Option Addr} {sl18 : Array (Option Value)} {oc18 kV18 dc18 pm18 cd18 ct18 : Value}
    (a18 : PySem.W.nsIn K mainGlobals "_law_kneaded" = some (some (.ref f18))) (l18 : K.lookup f18 = some ⟨oc18, od18, .func (PySem.W.fnOf "_law_kneaded" "_law_kneaded" (defArgs s__law_kneaded) (defBody s__law_kneaded) (defScope s__law_kneaded) .none kV18 dc18 pm18 an18 cd18 ct18), sl18⟩) (c18 : PySem.W.codeIn K cd18 "_law_kneaded" = true) (k18 : PySem.W.keepIn K (.ref f18) = true)
    {od19 an19 : Option Addr} {sl19 : Array (Option Value)} {oc19 kV19 dc19 pm19 cd19 ct19 : Value}
    (a19 : PySem.W.nsIn K mainGlobals "_law_pot_of" = some (some (.ref f19))) (l19 : K.lookup f19 = some ⟨oc19, od19, .func (PySem.W.fnOf "_law_pot_of" "_law_pot_of" (defArgs s__law_pot_of) (defBody s__law_pot_of) (defScope s__law_pot_of) .none kV19 dc19 pm19 an19 cd19 ct19), sl19⟩) (c19 : PySem.W.codeIn K cd19 "_law_pot_of" = true) (k19 : PySem.W.keepIn K (.ref f19) = true)
    {od20 an20 : Option Addr} {sl20 : Array (Option Value)} {oc20 kV20 dc20 pm20 cd20 ct20 : Value}
    (a20 : PySem.W.nsIn K mainGlobals "_law_below" = some (some (.ref f20))) (l20 : K.lookup f20 = some ⟨oc20, od20, .func (PySem.W.fnOf "_law_below" "_law_below" (defArgs s__law_below) (defBody s__law_below) (defScope s__law_below) .none kV20 dc20 pm20 an20 cd20 ct20), sl20⟩) (c20 : PySem.W.codeIn K cd20 "_law_below" = true) (k20 : PySem.W.keepIn K (.ref f20) = true)
    {od21 an21 : Option Addr} {sl21 : Array (Option Value)} {oc21 kV21 dc21 pm21 cd21 ct21 : Value}
    (a21 : PySem.W.nsIn K mainGlobals "_law_pick" = some (some (.ref f21))) (l21 : K.lookup f21 = some ⟨oc21, od21, .func (PySem.W.fnOf "_law_pick" "_law_pick" (defArgs s__law_pick) (defBody s__law_pick) (defScope s__law_pick) .none kV21 dc21 pm21 an21 cd21 ct21), sl21⟩) (c21 : PySem.W.codeIn K cd21 "_law_pick" = true) (k21 : PySem.W.keepIn K (.ref f21) = true)
    {od22 an22 : Option Addr} {sl22 : Array (Option Value)} {oc22 kV22 dc22 pm22 cd22 ct22 : Value}
    (a22 : PySem.W.nsIn K mainGlobals "_law_same" = some (some (.ref f22))) (l22 : K.lookup f22 = some ⟨oc22, od22, .func (PySem.W.fnOf "_law_same" "_law_same" (defArgs s__law_same) (defBody s__law_same) (defScope s__law_same) .none kV22 dc22 pm22 an22 cd22 ct22), sl22⟩) (c22 : PySem.W.codeIn K cd22 "_law_same" = true) (k22 : PySem.W.keepIn K (.ref f22) = true)
    {od23 an23 : Option Addr} {sl23 : Array (Option Value)} {oc23 kV23 dc23 pm23 cd23 ct23 : Value}
    (a23 : PySem.W.nsIn K mainGlobals "_law_shapes" = some (some (.ref f23))) (l23 : K.lookup f23 = some ⟨oc23, od23, .func (PySem.W.fnOf "_law_shapes" "_law_shapes" (defArgs s__law_shapes) (defBody s__law_shapes) (defScope s__law_shapes) .none kV23 dc23 pm23 an23 cd23 ct23), sl23⟩) (c23 : PySem.W.codeIn K cd23 "_law_shapes" = true) (k23 : PySem.W.keepIn K (.ref f23) = true)
    {od24 an24 : Option Addr} {sl24 : Array (Option Value)} {oc24 kV24 dc24 pm24 cd24 ct24 : Value}
    (a24 : PySem.W.nsIn K mainGlobals "_law_some_question" = some (some (.ref f24))) (l24 : K.lookup f24 = some ⟨oc24, od24, .func (PySem.W.fnOf "_law_some_question" "_law_some_question" (defArgs s__law_some_question) (defBody s__law_some_question) (defScope s__law_some_question) .none kV24 dc24 pm24 an24 cd24 ct24), sl24⟩) (c24 : PySem.W.codeIn K cd24 "_law_some_question" = true) (k24 : PySem.W.keepIn K (.ref f24) = true)
    {od25 an25 : Option Addr} {sl25 : Array (Option Value)} {oc25 kV25 dc25 pm25 cd25 ct25 : Value}
    (a25 : PySem.W.nsIn K mainGlobals "_law_some_prices" = some (some (.ref f25))) (l25 : K.lookup f25 = some ⟨oc25, od25, .func (PySem.W.fnOf "_law_some_prices" "_law_some_prices" (defArgs s__law_some_prices) (defBody s__law_some_prices) (defScope s__law_some_prices) .none kV25 dc25 pm25 an25 cd25 ct25), sl25⟩) (c25 : PySem.W.codeIn K cd25 "_law_some_prices" = true) (k25 : PySem.W.keepIn K (.ref f25) = true)
    {od26 an26 : Option Addr} {sl26 : Array (Option Value)} {oc26 kV26 dc26 pm26 cd26 ct26 : Value}
    (a26 : PySem.W.nsIn K mainGlobals "_law_own_names" = some (some (.ref f26))) (l26 : K.lookup f26 = some ⟨oc26, od26, .func (PySem.W.fnOf "_law_own_names" "_law_own_names" (defArgs s__law_own_names) (defBody s__law_own_names) (defScope s__law_own_names) .none kV26 dc26 pm26 an26 cd26 ct26), sl26⟩) (c26 : PySem.W.codeIn K cd26 "_law_own_names" = true) (k26 : PySem.W.keepIn K (.ref f26) = true)
    {od27 an27 : Option Addr} {sl27 : Array (Option Value)} {oc27 kV27 dc27 pm27 cd27 ct27 : Value}
    (a27 : PySem.W.nsIn K mainGlobals "_law_reached" = some (some (.ref f27))) (l27 : K.lookup f27 = some ⟨oc27, od27, .func (PySem.W.fnOf "_law_reached" "_law_reached" (defArgs s__law_reached) (defBody s__law_reached) (defScope s__law_reached) .none kV27 dc27 pm27 an27 cd27 ct27), sl27⟩) (c27 : PySem.W.codeIn K cd27 "_law_reached" = true) (k27 : PySem.W.keepIn K (.ref f27) = true)
    {od28 an28 : Option Addr} {sl28 : Array (Option Value)} {oc28 kV28 dc28 pm28 cd28 ct28 : Value}
    (a28 : PySem.W.nsIn K mainGlobals "_law_all_pieces" = some (some (.ref f28))) (l28 : K.lookup f28 = some ⟨oc28, od28, .func (PySem.W.fnOf "_law_all_pieces" "_law_all_pieces" (defArgs s__law_all_pieces) (defBody s__law_all_pieces) (defScope s__law_all_pieces) .none kV28 dc28 pm28 an28 cd28 ct28), sl28⟩) (c28 : PySem.W.codeIn K cd28 "_law_all_pieces" = true) (k28 : PySem.W.keepIn K (.ref f28) = true)
    {od29 an29 : Option Addr} {sl29 : Array (Option Value)} {oc29 kV29 dc29 pm29 cd29 ct29 : Value}
    (a29 : PySem.W.nsIn K mainGlobals "_law_part_by" = some (some (.ref f29))) (l29 : K.lookup f29 = some ⟨oc29, od29, .func (PySem.W.fnOf "_law_part_by" "_law_part_by" (defArgs s__law_part_by) (defBody s__law_part_by) (defScope s__law_part_by) .none kV29 dc29 pm29 an29 cd29 ct29), sl29⟩) (c29 : PySem.W.codeIn K cd29 "_law_part_by" = true) (k29 : PySem.W.keepIn K (.ref f29) = true)
    {od30 an30 : Option Addr} {sl30 : Array (Option Value)} {oc30 kV30 dc30 pm30 cd30 ct30 : Value}
    (a30 : PySem.W.nsIn K mainGlobals "_law_does_part" = some (some (.ref f30))) (l30 : K.lookup f30 = some ⟨oc30, od30, .func (PySem.W.fnOf "_law_does_part" "_law_does_part" (defArgs s__law_does_part) (defBody s__law_does_part) (defScope s__law_does_part) .none kV30 dc30 pm30 an30 cd30 ct30), sl30⟩) (c30 : PySem.W.codeIn K cd30 "_law_does_part" = true) (k30 : PySem.W.keepIn K (.ref f30) = true)
    {od31 an31 : Option Addr} {sl31 : Array (Option Value)} {oc31 kV31 dc31 pm31 cd31 ct31 : Value}
    (a31 : PySem.W.nsIn K mainGlobals "_law_is_end" = some (some (.ref f31))) (l31 : K.lookup f31 = some ⟨oc31, od31, .func (PySem.W.fnOf "_law_is_end" "_law_is_end" (defArgs s__law_is_end) (defBody s__law_is_end) (defScope s__law_is_end) .none kV31 dc31 pm31 an31 cd31 ct31), sl31⟩) (c31 : PySem.W.codeIn K cd31 "_law_is_end" = true) (k31 : PySem.W.keepIn K (.ref f31) = true)
    {od32 an32 : Option Addr} {sl32 : Array (Option Value)} {oc32 kV32 dc32 pm32 cd32 ct32 : Value}
    (a32 : PySem.W.nsIn K mainGlobals "_law_grown" = some (some (.ref f32))) (l32 : K.lookup f32 = some ⟨oc32, od32, .func (PySem.W.fnOf "_law_grown" "_law_grown" (defArgs s__law_grown) (defBody s__law_grown) (defScope s__law_grown) .none kV32 dc32 pm32 an32 cd32 ct32), sl32⟩) (c32 : PySem.W.codeIn K cd32 "_law_grown" = true) (k32 : PySem.W.keepIn K (.ref f32) = true)
    {od33 an33 : Option Addr} {sl33 : Array (Option Value)} {oc33 kV33 dc33 pm33 cd33 ct33 : Value}
    (a33 : PySem.W.nsIn K mainGlobals "_law_first_line" = some (some (.ref f33))) (l33 : K.lookup f33 = some ⟨oc33, od33, .func (PySem.W.fnOf "_law_first_line" "_law_first_line" (defArgs s__law_first_line) (defBody s__law_first_line) (defScope s__law_first_line) .none kV33 dc33 pm33 an33 cd33 ct33), sl33⟩) (c33 : PySem.W.codeIn K cd33 "_law_first_line" = true) (k33 : PySem.W.keepIn K (.ref f33) = true)
    {od34 an34 : Option Addr} {sl34 : Array (Option Value)} {oc34 kV34 dc34 pm34 cd34 ct34 : Value}
    (a34 : PySem.W.nsIn K mainGlobals "_law_first_triad" = some (some (.ref f34))) (l34 : K.lookup f34 = some ⟨oc34, od34, .func (PySem.W.fnOf "_law_first_triad" "_law_first_triad" (defArgs s__law_first_triad) (defBody s__law_first_triad) (defScope s__law_first_triad) .none kV34 dc34 pm34 an34 cd34 ct34), sl34⟩) (c34 : PySem.W.codeIn K cd34 "_law_first_triad" = true) (k34 : PySem.W.keepIn K (.ref f34) = true)
    {od35 an35 : Option Addr} {sl35 : Array (Option Value)} {oc35 kV35 dc35 pm35 cd35 ct35 : Value}
    (a35 : PySem.W.nsIn K mainGlobals "_law_is_chain" = some (some (.ref f35))) (l35 : K.lookup f35 = some ⟨oc35, od35, .func (PySem.W.fnOf "_law_is_chain" "_law_is_chain" (defArgs s__law_is_chain) (defBody s__law_is_chain) (defScope s__law_is_chain) .none kV35 dc35 pm35 an35 cd35 ct35), sl35⟩) (c35 : PySem.W.codeIn K cd35 "_law_is_chain" = true) (k35 : PySem.W.keepIn K (.ref f35) = true)
    {od36 an36 : Option Addr} {sl36 : Array (Option Value)} {oc36 kV36 dc36 pm36 cd36 ct36 : Value}
    (a36 : PySem.W.nsIn K mainGlobals "_law_need_or_paper" = some (some (.ref f36))) (l36 : K.lookup f36 = some ⟨oc36, od36, .func (PySem.W.fnOf "_law_need_or_paper" "_law_need_or_paper" (defArgs s__law_need_or_paper) (defBody s__law_need_or_paper) (defScope s__law_need_or_paper) .none kV36 dc36 pm36 an36 cd36 ct36), sl36⟩) (c36 : PySem.W.codeIn K cd36 "_law_need_or_paper" = true) (k36 : PySem.W.keepIn K (.ref f36) = true)
    {od37 an37 : Option Addr} {sl37 : Array (Option Value)} {oc37 kV37 dc37 pm37 cd37 ct37 : Value}
    (a37 : PySem.W.nsIn K mainGlobals "_law_right" = some (some (.ref f37))) (l37 : K.lookup f37 = some ⟨oc37, od37, .func (PySem.W.fnOf "_law_right" "_law_right" (defArgs s__law_right) (defBody s__law_right) (defScope s__law_right) .none kV37 dc37 pm37 an37 cd37 ct37), sl37⟩) (c37 : PySem.W.codeIn K cd37 "_law_right" = true) (k37 : PySem.W.keepIn K (.ref f37) = true)
    {od38 an38 : Option Addr} {sl38 : Array (Option Value)} {oc38 kV38 dc38 pm38 cd38 ct38 : Value}
    (a38 : PySem.W.nsIn K mainGlobals "law" = some (some (.ref f38))) (l38 : K.lookup f38 = some ⟨oc38, od38, .func (PySem.W.fnOf "law" "law" (defArgs s_law) (defBody s_law) (defScope s_law) .none kV38 dc38 pm38 an38 cd38 ct38), sl38⟩) (c38 : PySem.W.codeIn K cd38 "law" = true) (k38 : PySem.W.keepIn K (.ref f38) = true)
    {C_NoLine : Addr} (xa0 : PySem.W.nsIn K mainGlobals "NoLine" = some (some (.ref C_NoLine)))
    (xk0 : PySem.W.keepIn K (.ref C_NoLine) = true)
    {fI0 cda0 cc0 N0 : Addr} {qual0 nm0 q0 file0 : Str} {kV_0 doc0 pm_0 ct_0 oc_0 ccl0 cl0 : Value} {an_0 od_0 cdd0 cld0 dd0 : Option Addr} {vs0 : Array Value} {tf0 : Tok} {ccs0 csl0 osl0 : Array (Option Value)} {bs0 bm0 sub0 : List Value} {sn0 : List Str} {ab0 : Bool} {col0 : Option Bool} {ka0 kb0 kc0 kd0 ke0 : Option Value}
    (xl0 : K.lookup C_NoLine = some (excClassObj nm0 q0 C_NoLine N0 bs0 bm0 true sn0 sub0 ab0 col0 dd0 ka0 kb0 kc0 kd0 ke0 "ValueError.__new__")) (xr0 : PySem.HandSPX.refsVE bm0 = true) (xi0 : PySem.W.findIn K (.ref C_NoLine) "__init__" = some (some (.ref fI0))) (xb0 : xiB l.prog K C_NoLine fI0 "paper" = true)
    (xf0 : K.lookup fI0 = some ⟨oc_0, od_0, .func (PySem.W.ksFn "__init__" qual0 (defArgs si_NoLine) (defBody si_NoLine) (defScope si_NoLine) .none kV_0 doc0 pm_0 an_0 (.ref cda0) ct_0 cc0), osl0⟩) (xc0 : PySem.W.codeIn K (.ref cda0) qual0 = true) (xd0 : K.lookup cda0 = some ⟨ccl0, cdd0, .fields vs0, ccs0⟩)
    (xv0 : vs0[2]? = some (.str file0 tf0)) (xw0 : ((l.prog.main.file : Str) == file0) = true) (xe0 : K.lookup cc0 = some ⟨cl0, cld0, .cell (some (.ref C_NoLine)), csl0⟩)
    {C_AnswerError : Addr} (xa1 : PySem.W.nsIn K mainGlobals "AnswerError" = some (some (.ref C_AnswerError)))
    (e_NoLine_AnswerError : PySem.W.exmOne K (.ref C_NoLine) (.ref C_AnswerError) = some true)
    (i_NoLine_NoLine : PySem.W.kitOne K (.ref C_NoLine) (.ref C_NoLine) = some true)
    (g_NoLine_paper : PySem.W.findIn K (.ref C_NoLine) "paper" = some none)
    (z_len : PySem.W.nsIn K mainGlobals "len" = some none)
    (z_isinstance : PySem.W.nsIn K mainGlobals "isinstance" = some none)
    (z_tuple : PySem.W.nsIn K mainGlobals "tuple" = some none)
    (z_list : PySem.W.nsIn K mainGlobals "list" = some none)
    (z_any : PySem.W.nsIn K mainGlobals "any" = some none)
    (z_all : PySem.W.nsIn K mainGlobals "all" = some none)
    (z_sum : PySem.W.nsIn K mainGlobals "sum" = some none)
    (z_abs : PySem.W.nsIn K mainGlobals "abs" = some none)
    (z_int : PySem.W.nsIn K mainGlobals "int" = some none)
    (z_str : PySem.W.nsIn K mainGlobals "str" = some none)
    (z_bool : PySem.W.nsIn K mainGlobals "bool" = some none)
    (z_dict : PySem.W.nsIn K mainGlobals "dict" = some none)
    (z_set : PySem.W.nsIn K mainGlobals "set" = some none)
    (z_sorted : PySem.W.nsIn K mainGlobals "sorted" = some none)
    (z_repr : PySem.W.nsIn K mainGlobals "repr" = some none)
    (z_enumerate : PySem.W.nsIn K mainGlobals "enumerate" = some none)
    (z_zip : PySem.W.nsIn K mainGlobals "zip" = some none)
    (z_range : PySem.W.nsIn K mainGlobals "range" = some none)
    : ∃ fd : FuncData, (∀ (s : Shared) (u : Value), BindsTo s fd ⟨[u], []⟩ [("script", u)]) ∧ ∀ base : Heap, K.In base → base.Ns mainGlobals mg → (∃ o, base.get? sysModules = some o) → FnG l.prog w K mg base 16 fa fd ["script"] (spV K mg F_law) := by
  have e := hfa.symm.trans (PySem.W.mg_of X G a38)
  cases e
  have b_ : Bi mg := ⟨PySem.W.mg_none_of X G z_len, PySem.W.mg_none_of X G z_isinstance, PySem.W.mg_none_of X G z_tuple, PySem.W.mg_none_of X G z_list, PySem.W.mg_none_of X G z_any, PySem.W.mg_none_of X G z_all, PySem.W.mg_none_of X G z_sum, PySem.W.mg_none_of X G z_abs, PySem.W.mg_none_of X G z_int, PySem.W.mg_none_of X G z_str, PySem.W.mg_none_of X G z_bool, PySem.W.mg_none_of X G z_dict, PySem.W.mg_none_of X G z_set, PySem.W.mg_none_of X G z_sorted, PySem.W.mg_none_of X G z_repr, PySem.W.mg_none_of X G z_enumerate, PySem.W.mg_none_of X G z_zip, PySem.W.mg_none_of X G z_range⟩
  refine ⟨PySem.W.fnOf "law" "law" (defArgs s_law) (defBody s_law) (defScope s_law) .none kV38 dc38 pm38 an38 cd38 ct38, fun s u => .of_eq rfl, fun base KB GB sys => ?_⟩
  have x_NoLine := xi_mk (P := l.prog) (msg := "no line") (fld := "paper") (par := "paper") X G xa0 xk0 xl0 xr0 xi0 xb0 xf0 xc0 xd0 xv0 xw0 xe0 rfl rfl rfl (fun _ _ => rfl) ⟨rfl, rfl, rfl, by decide +kernel, rfl, rfl, rfl, rfl, by decide, by decide, rfl⟩
  have x_AnswerError := xn_mk X G xa1
  have F0 := fun_mk (st := s_names_by_table) l0 c0 k0
  have h_names_by_table := ok_names_by_table (P := l.prog) (w := w) (base := base) b_ sys F0 (PySem.W.mg_of X G a0) (F0.binds (ps := ["question"]) fun _ _ _ _ _ _ us hl => match us, hl with | [_], _ => rfl)
  have F1 := fun_mk (st := s_reached) l1 c1 k1
  have h_reached := ok_reached (P := l.prog) (w := w) (base := base) b_ sys F1 (PySem.W.mg_of X G a1) (F1.binds (ps := ["names", "start", "without"]) fun _ _ _ _ _ _ us hl => match us, hl with | [_, _, _], _ => rfl)
  have F2 := fun_mk (st := s_lie_in) l2 c2 k2
  have h_lie_in := ok_lie_in (P := l.prog) (w := w) (base := base) b_ sys F2 (PySem.W.mg_of X G a2) (F2.binds (ps := ["some", "others"]) fun _ _ _ _ _ _ us hl => match us, hl with | [_, _], _ => rfl)
  have F3 := fun_mk (st := s_does_part) l3 c3 k3
  have h_does_part := ok_does_part (P := l.prog) (w := w) (base := base) b_ sys F3 (PySem.W.mg_of X G a3) (F3.binds (ps := ["names", "one", "middle", "other"]) fun _ _ _ _ _ _ us hl => match us, hl with | [_, _, _, _], _ => rfl) h_reached
  have F4 := fun_mk (st := s_loose_tables) l4 c4 k4
  have h_loose_tables := ok_loose_tables (P := l.prog) (w := w) (base := base) b_ sys F4 (PySem.W.mg_of X G a4) (F4.binds (ps := ["question", "prices"]) fun _ _ _ _ _ _ us hl => match us, hl with | [_, _], _ => rfl)
  have F5 := fun_mk (st := s_does_rule) l5 c5 k5
  have h_does_rule := ok_does_rule (P := l.prog) (w := w) (base := base) b_ sys F5 (PySem.W.mg_of X G a5) (F5.binds (ps := ["question", "prices", "one", "other"]) fun _ _ _ _ _ _ us hl => match us, hl with | [_, _, _, _], _ => rfl) h_names_by_table h_lie_in h_reached
  have F6 := fun_mk (st := s_ruling) l6 c6 k6
  have h_ruling := ok_ruling (P := l.prog) (w := w) (base := base) b_ sys F6 (PySem.W.mg_of X G a6) (F6.binds (ps := ["question", "prices"]) fun _ _ _ _ _ _ us hl => match us, hl with | [_, _], _ => rfl) h_loose_tables h_does_rule
  have F7 := fun_mk (st := s_fits_line) l7 c7 k7
  have h_fits_line := ok_fits_line (P := l.prog) (w := w) (base := base) b_ sys F7 (PySem.W.mg_of X G a7) (F7.binds (ps := ["names", "line"]) fun _ _ _ _ _ _ us hl => match us, hl with | [_, _], _ => rfl) h_does_part
  have F8 := fun_mk (st := s_line_behind) l8 c8 k8
  have h_line_behind := ok_line_behind (P := l.prog) (w := w) (base := base) b_ sys F8 (PySem.W.mg_of X G a8) (F8.binds (ps := ["names", "line", "rest"]) fun _ _ _ _ _ _ us hl => match us, hl with | [_, _, _], _ => rfl) h_fits_line 8
  have F9 := fun_mk (st := s_line_of) l9 c9 k9
  have h_line_of := ok_line_of (P := l.prog) (w := w) (base := base) b_ sys F9 (PySem.W.mg_of X G a9) (F9.binds (ps := ["question", "tables"]) fun _ _ _ _ _ _ us hl => match us, hl with | [_, _], _ => rfl) h_line_behind h_names_by_table
  have F10 := fun_mk (st := s_is_triad) l10 c10 k10
  have h_is_triad := ok_is_triad (P := l.prog) (w := w) (base := base) b_ sys F10 (PySem.W.mg_of X G a10) (F10.binds (ps := ["names", "some"]) fun _ _ _ _ _ _ us hl => match us, hl with | [_, _], _ => rfl) h_does_part
  have F11 := fun_mk (st := s_chain_of) l11 c11 k11
  have h_chain_of := ok_chain_of (P := l.prog) (w := w) (base := base) b_ sys F11 (PySem.W.mg_of X G a11) (F11.binds (ps := ["names", "one", "other", "past"]) fun _ _ _ _ _ _ us hl => match us, hl with | [_, _, _, _], _ => rfl) h_reached
  have F12 := fun_mk (st := s_triad_of) l12 c12 k12
  have h_triad_of := ok_triad_of (P := l.prog) (w := w) (base := base) b_ sys F12 (PySem.W.mg_of X G a12) (F12.binds (ps := ["question", "tables"]) fun _ _ _ _ _ _ us hl => match us, hl with | [_, _], _ => rfl) h_names_by_table h_is_triad h_chain_of
  have F13 := fun_mk (st := s_need_line) l13 c13 k13
  have h_need_line := ok_need_line (P := l.prog) (w := w) (base := base) b_ sys F13 (PySem.W.mg_of X G a13) (F13.binds (ps := ["question", "tables"]) fun _ _ _ _ _ _ us hl => match us, hl with | [_, _], _ => rfl) x_NoLine h_line_of h_triad_of
  have F14 := fun_mk (st := s_are_tables) l14 c14 k14
  have h_are_tables := ok_are_tables (P := l.prog) (w := w) (base := base) b_ sys F14 (PySem.W.mg_of X G a14) (F14.binds (ps := ["tables", "thing"]) fun _ _ _ _ _ _ us hl => match us, hl with | [_, _], _ => rfl)
  have F15 := fun_mk (st := s_shows_line) l15 c15 k15
  have h_shows_line := ok_shows_line (P := l.prog) (w := w) (base := base) b_ sys F15 (PySem.W.mg_of X G a15) (F15.binds (ps := ["question", "tables", "thing"]) fun _ _ _ _ _ _ us hl => match us, hl with | [_, _, _], _ => rfl) h_are_tables h_names_by_table h_fits_line
  have F16 := fun_mk (st := s_is_chain) l16 c16 k16
  have h_is_chain := ok_is_chain (P := l.prog) (w := w) (base := base) b_ sys F16 (PySem.W.mg_of X G a16) (F16.binds (ps := ["names", "one", "other", "past", "thing"]) fun _ _ _ _ _ _ us hl => match us, hl with | [_, _, _, _, _], _ => rfl)
  have F17 := fun_mk (st := s_shows_triad) l17 c17 k17
  have h_shows_triad := ok_shows_triad (P := l.prog) (w := w) (base := base) b_ sys F17 (PySem.W.mg_of X G a17) (F17.binds (ps := ["question", "tables", "thing"]) fun _ _ _ _ _ _ us hl => match us, hl with | [_, _, _], _ => rfl) h_are_tables h_names_by_table h_is_chain
  have F18 := fun_mk (st := s__law_kneaded) l18 c18 k18
  have h__law_kneaded := ok__law_kneaded (P := l.prog) (w := w) (base := base) b_ sys F18 (PySem.W.mg_of X G a18) (F18.binds (ps := ["seed", "lap"]) fun _ _ _ _ _ _ us hl => match us, hl with | [_, _], _ => rfl)
  have F19 := fun_mk (st := s__law_pot_of) l19 c19 k19
  have h__law_pot_of := ok__law_pot_of (P := l.prog) (w := w) (base := base) b_ sys F19 (PySem.W.mg_of X G a19) (F19.binds (ps := ["script"]) fun _ _ _ _ _ _ us hl => match us, hl with | [_], _ => rfl)
  have F20 := fun_mk (st := s__law_below) l20 c20 k20
  have h__law_below := ok__law_below (P := l.prog) (w := w) (base := base) b_ sys F20 (PySem.W.mg_of X G a20) (F20.binds (ps := ["pot", "bound"]) fun _ _ _ _ _ _ us hl => match us, hl with | [_, _], _ => rfl) h__law_kneaded
  have F21 := fun_mk (st := s__law_pick) l21 c21 k21
  have h__law_pick := ok__law_pick (P := l.prog) (w := w) (base := base) b_ sys F21 (PySem.W.mg_of X G a21) (F21.binds (ps := ["pot", "items"]) fun _ _ _ _ _ _ us hl => match us, hl with | [_, _], _ => rfl) h__law_below
  have F22 := fun_mk (st := s__law_same) l22 c22 k22
  have h__law_same := ok__law_same (P := l.prog) (w := w) (base := base) b_ sys F22 (PySem.W.mg_of X G a22) (F22.binds (ps := ["one", "other"]) fun _ _ _ _ _ _ us hl => match us, hl with | [_, _], _ => rfl)
  have F23 := fun_mk (st := s__law_shapes) l23 c23 k23
  have h__law_shapes := ok__law_shapes (P := l.prog) (w := w) (base := base) b_ sys F23 (PySem.W.mg_of X G a23) (F23.binds (ps := []) fun _ _ _ _ _ _ us hl => match us, hl with | [], _ => rfl)
  have F24 := fun_mk (st := s__law_some_question) l24 c24 k24
  have h__law_some_question := ok__law_some_question (P := l.prog) (w := w) (base := base) b_ sys F24 (PySem.W.mg_of X G a24) (F24.binds (ps := ["pot"]) fun _ _ _ _ _ _ us hl => match us, hl with | [_], _ => rfl) h__law_pick h__law_shapes h__law_below
  have F25 := fun_mk (st := s__law_some_prices) l25 c25 k25
  have h__law_some_prices := ok__law_some_prices (P := l.prog) (w := w) (base := base) b_ sys F25 (PySem.W.mg_of X G a25) (F25.binds (ps := ["pot", "question"]) fun _ _ _ _ _ _ us hl => match us, hl with | [_, _], _ => rfl) h__law_pick h__law_below
  have F26 := fun_mk (st := s__law_own_names) l26 c26 k26
  have h__law_own_names := ok__law_own_names (P := l.prog) (w := w) (base := base) b_ sys F26 (PySem.W.mg_of X G a26) (F26.binds (ps := ["question"]) fun _ _ _ _ _ _ us hl => match us, hl with | [_], _ => rfl)
  have F27 := fun_mk (st := s__law_reached) l27 c27 k27
  have h__law_reached := ok__law_reached (P := l.prog) (w := w) (base := base) b_ sys F27 (PySem.W.mg_of X G a27) (F27.binds (ps := ["own", "start", "without"]) fun _ _ _ _ _ _ us hl => match us, hl with | [_, _, _], _ => rfl)
  have F28 := fun_mk (st := s__law_all_pieces) l28 c28 k28
  have h__law_all_pieces := ok__law_all_pieces (P := l.prog) (w := w) (base := base) b_ sys F28 (PySem.W.mg_of X G a28) (F28.binds (ps := ["question"]) fun _ _ _ _ _ _ us hl => match us, hl with | [_], _ => rfl) h__law_own_names h__law_reached
  have F29 := fun_mk (st := s__law_part_by) l29 c29 k29
  have h__law_part_by := ok__law_part_by (P := l.prog) (w := w) (base := base) b_ sys F29 (PySem.W.mg_of X G a29) (F29.binds (ps := ["question", "piece"]) fun _ _ _ _ _ _ us hl => match us, hl with | [_, _], _ => rfl)
  have F30 := fun_mk (st := s__law_does_part) l30 c30 k30
  have h__law_does_part := ok__law_does_part (P := l.prog) (w := w) (base := base) b_ sys F30 (PySem.W.mg_of X G a30) (F30.binds (ps := ["own", "one", "middle", "other"]) fun _ _ _ _ _ _ us hl => match us, hl with | [_, _, _, _], _ => rfl) h__law_reached
  have F31 := fun_mk (st := s__law_is_end) l31 c31 k31
  have h__law_is_end := ok__law_is_end (P := l.prog) (w := w) (base := base) b_ sys F31 (PySem.W.mg_of X G a31) (F31.binds (ps := ["own", "line", "last"]) fun _ _ _ _ _ _ us hl => match us, hl with | [_, _, _], _ => rfl) h__law_does_part
  have F32 := fun_mk (st := s__law_grown) l32 c32 k32
  have h__law_grown := ok__law_grown (P := l.prog) (w := w) (base := base) b_ sys F32 (PySem.W.mg_of X G a32) (F32.binds (ps := ["own", "line", "rest"]) fun _ _ _ _ _ _ us hl => match us, hl with | [_, _, _], _ => rfl) h__law_is_end 8
  have F33 := fun_mk (st := s__law_first_line) l33 c33 k33
  have h__law_first_line := ok__law_first_line (P := l.prog) (w := w) (base := base) b_ sys F33 (PySem.W.mg_of X G a33) (F33.binds (ps := ["question", "tables"]) fun _ _ _ _ _ _ us hl => match us, hl with | [_, _], _ => rfl) h__law_grown h__law_own_names
  have F34 := fun_mk (st := s__law_first_triad) l34 c34 k34
  have h__law_first_triad := ok__law_first_triad (P := l.prog) (w := w) (base := base) b_ sys F34 (PySem.W.mg_of X G a34) (F34.binds (ps := ["own", "tables"]) fun _ _ _ _ _ _ us hl => match us, hl with | [_, _], _ => rfl) h__law_does_part
  have F35 := fun_mk (st := s__law_is_chain) l35 c35 k35
  have h__law_is_chain := ok__law_is_chain (P := l.prog) (w := w) (base := base) b_ sys F35 (PySem.W.mg_of X G a35) (F35.binds (ps := ["own", "chain", "one", "other", "past"]) fun _ _ _ _ _ _ us hl => match us, hl with | [_, _, _, _, _], _ => rfl)
  have F36 := fun_mk (st := s__law_need_or_paper) l36 c36 k36
  have h__law_need_or_paper := ok__law_need_or_paper (P := l.prog) (w := w) (base := base) b_ sys F36 (PySem.W.mg_of X G a36) (F36.binds (ps := ["question", "tables"]) fun _ _ _ _ _ _ us hl => match us, hl with | [_, _], _ => rfl) x_AnswerError x_NoLine e_NoLine_AnswerError i_NoLine_NoLine g_NoLine_paper h_need_line
  have F37 := fun_mk (st := s__law_right) l37 c37 k37
  have h__law_right := ok__law_right (P := l.prog) (w := w) (base := base) b_ sys F37 (PySem.W.mg_of X G a37) (F37.binds (ps := ["question", "tables"]) fun _ _ _ _ _ _ us hl => match us, hl with | [_, _], _ => rfl) h__law_own_names h__law_first_line h__law_first_triad h_line_of h_triad_of h__law_same h_need_line h_shows_line h__law_is_chain h_shows_triad h__law_need_or_paper
  have F38 := fun_mk (st := s_law) l38 c38 k38
  exact ok_law (P := l.prog) (w := w) (base := base) b_ sys F38 h__law_pot_of h__law_some_question h__law_some_prices h__law_all_pieces h__law_below h__law_part_by h_ruling h__law_right
-- names a0 l0 c0 k0 a1 l1 c1 k1 a2 l2 c2 k2 a3 l3 c3 k3 a4 l4 c4 k4 a5 l5 c5 k5 a6 l6 c6 k6 a7 l7 c7 k7 a8 l8 c8 k8 a9 l9 c9 k9 a10 l10 c10 k10 a11 l11 c11 k11 a12 l12 c12 k12 a13 l13 c13 k13 a14 l14 c14 k14 a15 l15 c15 k15 a16 l16 c16 k16 a17 l17 c17 k17 a18 l18 c18 k18 a19 l19 c19 k19 a20 l20 c20 k20 a21 l21 c21 k21 a22 l22 c22 k22 a23 l23 c23 k23 a24 l24 c24 k24 a25 l25 c25 k25 a26 l26 c26 k26 a27 l27 c27 k27 a28 l28 c28 k28 a29 l29 c29 k29 a30 l30 c30 k30 a31 l31 c31 k31 a32 l32 c32 k32 a33 l33 c33 k33 a34 l34 c34 k34 a35 l35 c35 k35 a36 l36 c36 k36 a37 l37 c37 k37 a38 l38 c38 k38 xa0:k_is xk0:k_is xl0:k_is xr0:rfl xi0:k_is xb0:kernel_rfl xf0:k_is xc0:k_is xd0:k_is xv0:rfl xw0:kernel_rfl xe0:k_is xa1:k_is e_NoLine_AnswerError:kernel_rfl i_NoLine_NoLine:kernel_rfl g_NoLine_paper:kernel_rfl z_len z_isinstance z_tuple z_list z_any z_all z_sum z_abs z_int z_str z_bool z_dict z_set z_sorted z_repr z_enumerate z_zip z_range
end G

open PySem PySem.W PyProof.Rows in
set_option maxRecDepth 100000 in
set_option maxHeartbeats 0 in
theorem PySem.Challenge.cw_answercut_k14_whole_line_or_triad_holds : PySem.Challenge.rw_answercut_k14_whole_line_or_triad.Holds := by
  w_on; o_law; k_head; (case hw => w_witness2)
  k_fill
  refine VS.walk_V (l := PySem.Challenge.rw_answercut_k14_whole_line_or_triad) (n := 63) (k := 16) (x := "script") (F := G.F_law) rfl (by decide) rfl ⟨rfl, by decide, by decide⟩ rfl (fun w h Y => PySem.W.kIn_of Y) ?F fun ns h _ => G.law_holds ns h
  case F =>
    intro w mg fa h KX GX hmg
    refine' G.all_mk KX GX hmg ?a0 ?l0 ?c0 ?k0 ?a1 ?l1 ?c1 ?k1 ?a2 ?l2 ?c2 ?k2 ?a3 ?l3 ?c3 ?k3 ?a4 ?l4 ?c4 ?k4 ?a5 ?l5 ?c5 ?k5 ?a6 ?l6 ?c6 ?k6 ?a7 ?l7 ?c7 ?k7 ?a8 ?l8 ?c8 ?k8 ?a9 ?l9 ?c9 ?k9 ?a10 ?l10 ?c10 ?k10 ?a11 ?l11 ?c11 ?k11 ?a12 ?l12 ?c12 ?k12 ?a13 ?l13 ?c13 ?k13 ?a14 ?l14 ?c14 ?k14 ?a15 ?l15 ?c15 ?k15 ?a16 ?l16 ?c16 ?k16 ?a17 ?l17 ?c17 ?k17 ?a18 ?l18 ?c18 ?k18 ?a19 ?l19 ?c19 ?k19 ?a20 ?l20 ?c20 ?k20 ?a21 ?l21 ?c21 ?k21 ?a22 ?l22 ?c22 ?k22 ?a23 ?l23 ?c23 ?k23 ?a24 ?l24 ?c24 ?k24 ?a25 ?l25 ?c25 ?k25 ?a26 ?l26 ?c26 ?k26 ?a27 ?l27 ?c27 ?k27 ?a28 ?l28 ?c28 ?k28 ?a29 ?l29 ?c29 ?k29 ?a30 ?l30 ?c30 ?k30 ?a31 ?l31 ?c31 ?k31 ?a32 ?l32 ?c32 ?k32 ?a33 ?l33 ?c33 ?k33 ?a34 ?l34 ?c34 ?k34 ?a35 ?l35 ?c35 ?k35 ?a36 ?l36 ?c36 ?k36 ?a37 ?l37 ?c37 ?k37 ?a38 ?l38 ?c38 ?k38 ?xa0 ?xk0 ?xl0 ?xr0 ?xi0 ?xb0 ?xf0 ?xc0 ?xd0 ?xv0 ?xw0 ?xe0 ?xa1 ?e_NoLine_AnswerError ?i_NoLine_NoLine ?g_NoLine_paper ?z_len ?z_isinstance ?z_tuple ?z_list ?z_any ?z_all ?z_sum ?z_abs ?z_int ?z_str ?z_bool ?z_dict ?z_set ?z_sorted ?z_repr ?z_enumerate ?z_zip ?z_range
    (case a0 => k_is)
    (case l0 => k_is)
    (case c0 => k_is)
    (case k0 => k_is)
    (case a1 => k_is)
    (case l1 => k_is)
    (case c1 => k_is)
    (case k1 => k_is)
    (case a2 => k_is)
    (case l2 => k_is)
    (case c2 => k_is)
    (case k2 => k_is)
    (case a3 => k_is)
    (case l3 => k_is)
    (case c3 => k_is)
    (case k3 => k_is)
    (case a4 => k_is)
    (case l4 => k_is)
    (case c4 => k_is)
    (case k4 => k_is)
    (case a5 => k_is)
    (case l5 => k_is)
    (case c5 => k_is)
    (case k5 => k_is)
    (case a6 => k_is)
    (case l6 => k_is)
    (case c6 => k_is)
    (case k6 => k_is)
    (case a7 => k_is)
    (case l7 => k_is)
    (case c7 => k_is)
    (case k7 => k_is)
    (case a8 => k_is)
    (case l8 => k_is)
    (case c8 => k_is)
    (case k8 => k_is)
    (case a9 => k_is)
    (case l9 => k_is)
    (case c9 => k_is)
    (case k9 => k_is)
    (case a10 => k_is)
    (case l10 => k_is)
    (case c10 => k_is)
    (case k10 => k_is)
    (case a11 => k_is)
    (case l11 => k_is)
    (case c11 => k_is)
    (case k11 => k_is)
    (case a12 => k_is)
    (case l12 => k_is)
    (case c12 => k_is)
    (case k12 => k_is)
    (case a13 => k_is)
    (case l13 => k_is)
    (case c13 => k_is)
    (case k13 => k_is)
    (case a14 => k_is)
    (case l14 => k_is)
    (case c14 => k_is)
    (case k14 => k_is)
    (case a15 => k_is)
    (case l15 => k_is)
    (case c15 => k_is)
    (case k15 => k_is)
    (case a16 => k_is)
    (case l16 => k_is)
    (case c16 => k_is)
    (case k16 => k_is)
    (case a17 => k_is)
    (case l17 => k_is)
    (case c17 => k_is)
    (case k17 => k_is)
    (case a18 => k_is)
    (case l18 => k_is)
    (case c18 => k_is)
    (case k18 => k_is)
    (case a19 => k_is)
    (case l19 => k_is)
    (case c19 => k_is)
    (case k19 => k_is)
    (case a20 => k_is)
    (case l20 => k_is)
    (case c20 => k_is)
    (case k20 => k_is)
    (case a21 => k_is)
    (case l21 => k_is)
    (case c21 => k_is)
    (case k21 => k_is)
    (case a22 => k_is)
    (case l22 => k_is)
    (case c22 => k_is)
    (case k22 => k_is)
    (case a23 => k_is)
    (case l23 => k_is)
    (case c23 => k_is)
    (case k23 => k_is)
    (case a24 => k_is)
    (case l24 => k_is)
    (case c24 => k_is)
    (case k24 => k_is)
    (case a25 => k_is)
    (case l25 => k_is)
    (case c25 => k_is)
    (case k25 => k_is)
    (case a26 => k_is)
    (case l26 => k_is)
    (case c26 => k_is)
    (case k26 => k_is)
    (case a27 => k_is)
    (case l27 => k_is)
    (case c27 => k_is)
    (case k27 => k_is)
    (case a28 => k_is)
    (case l28 => k_is)
    (case c28 => k_is)
    (case k28 => k_is)
    (case a29 => k_is)
    (case l29 => k_is)
    (case c29 => k_is)
    (case k29 => k_is)
    (case a30 => k_is)
    (case l30 => k_is)
    (case c30 => k_is)
    (case k30 => k_is)
    (case a31 => k_is)
    (case l31 => k_is)
    (case c31 => k_is)
    (case k31 => k_is)
    (case a32 => k_is)
    (case l32 => k_is)
    (case c32 => k_is)
    (case k32 => k_is)
    (case a33 => k_is)
    (case l33 => k_is)
    (case c33 => k_is)
    (case k33 => k_is)
    (case a34 => k_is)
    (case l34 => k_is)
    (case c34 => k_is)
    (case k34 => k_is)
    (case a35 => k_is)
    (case l35 => k_is)
    (case c35 => k_is)
    (case k35 => k_is)
    (case a36 => k_is)
    (case l36 => k_is)
    (case c36 => k_is)
    (case k36 => k_is)
    (case a37 => k_is)
    (case l37 => k_is)
    (case c37 => k_is)
    (case k37 => k_is)
    (case a38 => k_is)
    (case l38 => k_is)
    (case c38 => k_is)
    (case k38 => k_is)
    (case xa0 => k_is)
    (case xk0 => k_is)
    (case xl0 => k_is)
    (case xr0 => rfl)
    (case xi0 => k_is)
    (case xb0 => kernel_rfl)
    (case xf0 => k_is)
    (case xc0 => k_is)
    (case xd0 => k_is)
    (case xv0 => rfl)
    (case xw0 => kernel_rfl)
    (case xe0 => k_is)
    (case xa1 => k_is)
    (case e_NoLine_AnswerError => kernel_rfl)
    (case i_NoLine_NoLine => kernel_rfl)
    (case g_NoLine_paper => kernel_rfl)
    (case z_len => k_is)
    (case z_isinstance => k_is)
    (case z_tuple => k_is)
    (case z_list => k_is)
    (case z_any => k_is)
    (case z_all => k_is)
    (case z_sum => k_is)
    (case z_abs => k_is)
    (case z_int => k_is)
    (case z_str => k_is)
    (case z_bool => k_is)
    (case z_dict => k_is)
    (case z_set => k_is)
    (case z_sorted => k_is)
    (case z_repr => k_is)
    (case z_enumerate => k_is)
    (case z_zip => k_is)
    (case z_range => k_is)
