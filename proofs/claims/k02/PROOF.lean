import PyProof.Rows.All
import Wide.All
import OpenK.AllK
import Wide.FinOn
import HandS.ForExc
import HandS.ForMost
import HandS.Evl
import HandS.TupAny
import HandS.TupMul
import HandS.Wide
import HandS.Style
import HandS.Conv
import HandS.TupLe
import HandS.IsInst
import HandS.Dict
import HandS.ExcOwn
import HandS.Iter
import KE.SortData
import KE.DataMinKey
import HandS.SortOrd
import HandS.SortInts
import HandS.SortKw
import PyProof.ReprLen
import HandS.Ends
import PySem.Challenge.RW_gatewords_k02_whole_free_words
set_option Elab.async false
set_option linter.all false
set_option maxRecDepth 100000
set_option maxHeartbeats 2000000
/-! The data layer: values as data (lists and tuples that stand still inlined), objects that change kept apart (Mu). -/
namespace DL
open PySem PySem.Spec PyProof.Rows L2

inductive D where
  | non | bl (b : Bool) | int (i : Int) | str (x : Str)
  | lst (ds : List D) | tup (ds : List D) | arg (ds : List D) | ins (c : Str) (fs : List (Str × D)) | ref (a : Addr) | ty (n : String) | cls (c : Str)

def Ext (H H' : Hp) : Prop := ∀ a o, H a = some o → H' a = some o
theorem Ext.rfl' {H : Hp} : Ext H H := fun _ _ h => h
theorem Ext.trans {H H1 H2 : Hp} (a : Ext H H1) (b : Ext H1 H2) : Ext H H2 := fun x o h => b x o (a x o h)
theorem Ext.new {H : Hp} {p : Addr} {o : HO} (h : H p = none) : Ext H (upd H p o) := fun a u e => by
  rw [upd_ne (ne_of_none e h)]
  exact e

mutual
inductive Rp (K : PySem.W.Frag) (B : Hp) : V → D → Prop
  | non : Rp K B .non .non
  | bl (b : Bool) : Rp K B (.bl b) (.bl b)
  | int (i : Int) : Rp K B (.int i) (.int i)
  | str (x : Str) : Rp K B (.str x) (.str x)
  | lst {a : Addr} {xs : List V} {ds : List D} : Rd B a (.lst xs) → RpL K B xs ds → Rp K B (.ref a) (.lst ds)
  | arg {a : Addr} {xs : List V} {ds : List D} : SqL K B a xs → RpL K B xs ds → Rp K B (.ref a) (.arg ds)
  | tup {a : Addr} {xs : List V} {ds : List D} : SqT K B a xs → RpL K B xs ds → Rp K B (.ref a) (.tup ds)
  | ins {c : Str} {a C dx : Addr} {fs : List (Str × V)} {gs : List (Str × D)} : PySem.W.nsIn K mainGlobals c = some (some (.ref C)) → B a = some (.ins C dx fs) → RpF K B fs gs → Rp K B (.ref a) (.ins c gs)
  | ref (a : Addr) : Rp K B (.ref a) (.ref a)
  | ty (n : String) : Rp K B (.ty n) (.ty n)
  | cls {c : Str} {C : Addr} : PySem.W.nsIn K mainGlobals c = some (some (.ref C)) → Rp K B (.ref C) (.cls c)
inductive RpL (K : PySem.W.Frag) (B : Hp) : List V → List D → Prop
  | nil : RpL K B [] []
  | cons {v : V} {vs : List V} {d : D} {ds : List D} : Rp K B v d → RpL K B vs ds → RpL K B (v :: vs) (d :: ds)
inductive RpF (K : PySem.W.Frag) (B : Hp) : List (Str × V) → List (Str × D) → Prop
  | nil : RpF K B [] []
  | cons {x : Str} {v : V} {vs : List (Str × V)} {d : D} {ds : List (Str × D)} : Rp K B v d → RpF K B vs ds → RpF K B ((x, v) :: vs) ((x, d) :: ds)
end
def RpKv (K : PySem.W.Frag) (B : Hp) : List (Key × V) → List (Key × D) → Prop := Paired fun p q => p.1 = q.1 ∧ Rp K B p.2 q.2

theorem ext_rd {H H' : Hp} {a : Addr} {u : HO} (e : Ext H H') (h : Rd H a u) : Rd H' a u := by
  rcases h with h | ⟨o, h⟩
  · exact Or.inl (e a _ h)
  · exact Or.inr ⟨o, e a _ h⟩
theorem ext_l {K : PySem.W.Frag} {H H' : Hp} {a : Addr} {xs : List V} (e : Ext H H') (h : SqL K H a xs) : SqL K H' a xs := by
  rcases h with h | h
  · exact Or.inl (ext_rd e h)
  · exact Or.inr h
theorem ext_t {K : PySem.W.Frag} {H H' : Hp} {a : Addr} {xs : List V} (e : Ext H H') (h : SqT K H a xs) : SqT K H' a xs := by
  rcases h with h | h
  · exact Or.inl (ext_rd e h)
  · exact Or.inr h
mutual
theorem Rp.mono {K : PySem.W.Frag} {B B' : Hp} (e : Ext B B') : ∀ {v : V} {d : D}, Rp K B v d → Rp K B' v d
  | _, _, .non => .non
  | _, _, .bl b => .bl b
  | _, _, .int i => .int i
  | _, _, .str x => .str x
  | _, _, .lst h r => .lst (ext_rd e h) (RpL.mono e r)
  | _, _, .arg h r => .arg (ext_l e h) (RpL.mono e r)
  | _, _, .tup h r => .tup (ext_t e h) (RpL.mono e r)
  | _, _, .ins n h r => .ins n (e _ _ h) (RpF.mono e r)
  | _, _, .ref a => .ref a
  | _, _, .ty n => .ty n
  | _, _, .cls h => .cls h
theorem RpL.mono {K : PySem.W.Frag} {B B' : Hp} (e : Ext B B') : ∀ {v : List V} {d : List D}, RpL K B v d → RpL K B' v d
  | _, _, .nil => .nil
  | _, _, .cons h r => .cons (Rp.mono e h) (RpL.mono e r)
theorem RpF.mono {K : PySem.W.Frag} {B B' : Hp} (e : Ext B B') : ∀ {v : List (Str × V)} {d : List (Str × D)}, RpF K B v d → RpF K B' v d
  | _, _, .nil => .nil
  | _, _, .cons h r => .cons (Rp.mono e h) (RpF.mono e r)
end
theorem RpL.length {K : PySem.W.Frag} {B : Hp} : ∀ {v : List V} {d : List D}, RpL K B v d → v.length = d.length
  | _, _, .nil => rfl
  | _, _, .cons _ r => congrArg (· + 1) r.length
theorem RpL.get {K : PySem.W.Frag} {B : Hp} : ∀ {v : List V} {d : List D} {i : Nat} {x : D}, RpL K B v d → d[i]? = some x → ∃ u, v[i]? = some u ∧ Rp K B u x
  | _, _, _, _, .nil, e => by simp at e
  | _, _, 0, _, .cons h _, e => by simp at e; subst e; exact ⟨_, rfl, h⟩
  | _, _, i + 1, _, .cons _ r, e => by
    obtain ⟨u, h1, h2⟩ := r.get (i := i) (by simpa using e)
    exact ⟨u, by simpa using h1, h2⟩
theorem RpL.get' {K : PySem.W.Frag} {B : Hp} : ∀ {v : List V} {d : List D} {i : Nat} {x : V}, RpL K B v d → v[i]? = some x → ∃ u, d[i]? = some u ∧ Rp K B x u
  | _, _, _, _, .nil, e => by simp at e
  | _, _, 0, _, .cons h _, e => by simp at e; subst e; exact ⟨_, rfl, h⟩
  | _, _, i + 1, _, .cons _ r, e => by
    obtain ⟨u, h1, h2⟩ := r.get' (i := i) (by simpa using e)
    exact ⟨u, by simpa using h1, h2⟩
theorem RpL.append {K : PySem.W.Frag} {B : Hp} : ∀ {v w : List V} {d e : List D}, RpL K B v d → RpL K B w e → RpL K B (v ++ w) (d ++ e)
  | _, _, _, _, .nil, s => s
  | _, _, _, _, .cons h r, s => .cons h (r.append s)
theorem RpL.take {K : PySem.W.Frag} {B : Hp} : ∀ {v : List V} {d : List D} (n : Nat), RpL K B v d → RpL K B (v.take n) (d.take n)
  | _, _, 0, _ => .nil
  | _, _, _ + 1, .nil => .nil
  | _, _, n + 1, .cons h r => .cons h (r.take n)
theorem RpL.drop {K : PySem.W.Frag} {B : Hp} : ∀ {v : List V} {d : List D} (n : Nat), RpL K B v d → RpL K B (v.drop n) (d.drop n)
  | _, _, 0, r => r
  | _, _, _ + 1, .nil => .nil
  | _, _, n + 1, .cons _ r => r.drop n
theorem RpL.set {K : PySem.W.Frag} {B : Hp} {x : V} {y : D} (q : Rp K B x y) : ∀ {v : List V} {d : List D} (n : Nat), RpL K B v d → RpL K B (v.set n x) (d.set n y)
  | _, _, _, .nil => .nil
  | _, _, 0, .cons _ r => .cons q r
  | _, _, n + 1, .cons h r => .cons h (RpL.set q n r)
theorem RpL.eraseIdx {K : PySem.W.Frag} {B : Hp} : ∀ {v : List V} {d : List D} (n : Nat), RpL K B v d → RpL K B (v.eraseIdx n) (d.eraseIdx n)
  | _, _, _, .nil => .nil
  | _, _, 0, .cons _ r => r
  | _, _, n + 1, .cons h r => .cons h (r.eraseIdx n)
theorem RpL.reverse {K : PySem.W.Frag} {B : Hp} : ∀ {v : List V} {d : List D}, RpL K B v d → RpL K B v.reverse d.reverse
  | _, _, .nil => .nil
  | _, _, .cons h r => by
    rw [List.reverse_cons, List.reverse_cons]
    exact r.reverse.append (.cons h .nil)
theorem RpL.replicate {K : PySem.W.Frag} {B : Hp} {v : V} {d : D} (h : Rp K B v d) : ∀ n : Nat, RpL K B (List.replicate n v) (List.replicate n d)
  | 0 => .nil
  | n + 1 => .cons h (RpL.replicate h n)
theorem RpL.dropLast {K : PySem.W.Frag} {B : Hp} {v : List V} {d : List D} (r : RpL K B v d) : RpL K B v.dropLast d.dropLast := by
  rw [List.dropLast_eq_take, List.dropLast_eq_take, r.length]
  exact r.take _
theorem Rp.int_inv {K : PySem.W.Frag} {B : Hp} {v : V} {i : Int} (h : Rp K B v (.int i)) : v = .int i := by cases h; rfl
theorem Rp.bl_inv {K : PySem.W.Frag} {B : Hp} {v : V} {b : Bool} (h : Rp K B v (.bl b)) : v = .bl b := by cases h; rfl
theorem Rp.str_inv {K : PySem.W.Frag} {B : Hp} {v : V} {b : Str} (h : Rp K B v (.str b)) : v = .str b := by cases h; rfl
theorem Rp.ref_inv {K : PySem.W.Frag} {B : Hp} {v : V} {a : Addr} (h : Rp K B v (.ref a)) : v = .ref a := by cases h; rfl
theorem Rp.non_inv {K : PySem.W.Frag} {B : Hp} {v : V} (h : Rp K B v .non) : v = .non := by cases h; rfl
theorem Rp.lst_inv {K : PySem.W.Frag} {B : Hp} {v : V} {ds : List D} (h : Rp K B v (.lst ds)) : ∃ a xs, v = .ref a ∧ Rd B a (.lst xs) ∧ RpL K B xs ds := by
  cases h with
  | lst h r => exact ⟨_, _, rfl, h, r⟩
theorem Rp.tup_inv {K : PySem.W.Frag} {B : Hp} {v : V} {ds : List D} (h : Rp K B v (.tup ds)) : ∃ a xs, v = .ref a ∧ SqT K B a xs ∧ RpL K B xs ds := by
  cases h with
  | tup h r => exact ⟨_, _, rfl, h, r⟩
theorem Rp.arg_inv {K : PySem.W.Frag} {B : Hp} {v : V} {ds : List D} (h : Rp K B v (.arg ds)) : ∃ a xs, v = .ref a ∧ SqL K B a xs ∧ RpL K B xs ds := by
  cases h with
  | arg h r => exact ⟨_, _, rfl, h, r⟩
theorem RpL.ints {K : PySem.W.Frag} {B : Hp} : ∀ {ns : List Int} {v : List V}, RpL K B v (ns.map .int) → v = ns.map V.int
  | [], _, .nil => rfl
  | n :: ns, _, .cons h r => by rw [h.int_inv, r.ints]; rfl
theorem RpL.bls {K : PySem.W.Frag} {B : Hp} : ∀ {ns : List Bool} {v : List V}, RpL K B v (ns.map .bl) → v = ns.map V.bl
  | [], _, .nil => rfl
  | n :: ns, _, .cons h r => by rw [h.bl_inv, r.bls]; rfl
theorem RpL.of_ints {K : PySem.W.Frag} {B : Hp} : ∀ {ns : List Int}, RpL K B (ns.map V.int) (ns.map .int)
  | [] => .nil
  | n :: ns => .cons (.int n) RpL.of_ints

/-! ### what changes -/
inductive MO where
  | lst (ds : List D)
  | dct (kvs : List (Key × D))
abbrev Mu := Addr → Option MO
def MoR (K : PySem.W.Frag) (B H : Hp) (a : Addr) : MO → Prop
  | .lst ds => ∃ xs, H a = some (.lst xs) ∧ RpL K B xs ds
  | .dct kvs => ∃ ys, H a = some (.dK ys) ∧ RpKv K B ys kvs
def mset (μ : Mu) (a : Addr) (m : MO) : Mu := fun b => if b = a then some m else μ b
def mdel (μ : Mu) (a : Addr) : Mu := fun b => if b = a then none else μ b
theorem mset_same {μ : Mu} {a : Addr} {m : MO} : mset μ a m a = some m := by unfold mset; rw [if_pos rfl]
theorem mset_ne {μ : Mu} {a b : Addr} {m : MO} (h : b ≠ a) : mset μ a m b = μ b := by unfold mset; rw [if_neg h]
theorem mdel_ne {μ : Mu} {a b : Addr} (h : b ≠ a) : mdel μ a b = μ b := by unfold mdel; rw [if_neg h]
theorem mdel_same {μ : Mu} {a : Addr} : mdel μ a a = none := by unfold mdel; rw [if_pos rfl]
theorem mset_mset {μ : Mu} {a : Addr} {m n : MO} : mset (mset μ a m) a n = mset μ a n := by
  funext b; unfold mset; split <;> rfl
structure Good (K : PySem.W.Frag) (B H : Hp) (μ : Mu) : Prop where
  ex : Ext B H
  mo : ∀ a m, μ a = some m → B a = none ∧ MoR K B H a m
theorem RpKv.mono {K : PySem.W.Frag} {B B' : Hp} (e : Ext B B') {ys : List (Key × V)} {kvs : List (Key × D)} (h : RpKv K B ys kvs) : RpKv K B' ys kvs := by
  induction h with
  | nil => exact .nil
  | cons h _ ih => exact .cons ⟨h.1, h.2.mono e⟩ ih
theorem MoR.mono {K : PySem.W.Frag} {B B' H H' : Hp} {a : Addr} {m : MO} (h : MoR K B H a m) (e : Ext B B') (eh : H' a = H a) : MoR K B' H' a m := by
  cases m with
  | lst ds => obtain ⟨xs, h1, h2⟩ := h; exact ⟨xs, by rw [eh]; exact h1, h2.mono e⟩
  | dct kvs => obtain ⟨xs, h1, h2⟩ := h; exact ⟨xs, by rw [eh]; exact h1, h2.mono e⟩
theorem MoR.tracked {K : PySem.W.Frag} {B H : Hp} {a : Addr} {m : MO} (h : MoR K B H a m) : ∃ o, H a = some o := by
  cases m with
  | lst ds => obtain ⟨xs, h1, _⟩ := h; exact ⟨_, h1⟩
  | dct kvs => obtain ⟨xs, h1, _⟩ := h; exact ⟨_, h1⟩
theorem Good.free {K : PySem.W.Frag} {B H : Hp} {μ : Mu} (g : Good K B H μ) {a : Addr} (h : H a = none) : μ a = none := by
  cases e : μ a with
  | none => rfl
  | some m =>
    obtain ⟨o, ho⟩ := (g.mo a m e).2.tracked
    rw [h] at ho
    cases ho
theorem Good.freeB {K : PySem.W.Frag} {B H : Hp} {μ : Mu} (g : Good K B H μ) {a : Addr} (h : H a = none) : B a = none := by
  cases e : B a with
  | none => rfl
  | some o => rw [g.ex a o e] at h; cases h
/-- a new thing that stands still -/
theorem Good.still {K : PySem.W.Frag} {B H : Hp} {μ : Mu} (g : Good K B H μ) {p : Addr} {o : HO} (h : H p = none) : Good K (upd B p o) (upd H p o) μ where
  ex := fun a u e => by
    by_cases c : a = p
    · subst c
      rw [upd_same] at e ⊢
      exact e
    · rw [upd_ne c] at e ⊢
      exact g.ex a u e
  mo := fun a m e => by
    have c : a ≠ p := fun z => by subst z; rw [g.free h] at e; cases e
    obtain ⟨h1, h2⟩ := g.mo a m e
    exact ⟨by rw [upd_ne c]; exact h1, h2.mono (Ext.new (g.freeB h)) (by rw [upd_ne c])⟩
/-- a new thing that will change -/
theorem Good.fresh {K : PySem.W.Frag} {B H : Hp} {μ : Mu} (g : Good K B H μ) {p : Addr} {o : HO} {m : MO} (h : H p = none) (r : MoR K B (upd H p o) p m) : Good K B (upd H p o) (mset μ p m) where
  ex := g.ex.trans (Ext.new h)
  mo := fun a n e => by
    by_cases c : a = p
    · subst c
      rw [mset_same] at e
      cases e
      exact ⟨g.freeB h, r⟩
    · rw [mset_ne c] at e
      obtain ⟨h1, h2⟩ := g.mo a n e
      exact ⟨h1, h2.mono Ext.rfl' (by rw [upd_ne c])⟩
/-- a changed thing -/
theorem Good.put {K : PySem.W.Frag} {B H : Hp} {μ : Mu} (g : Good K B H μ) {p : Addr} {o : HO} {m m0 : MO} (h : μ p = some m0) (r : MoR K B (upd H p o) p m) : Good K B (upd H p o) (mset μ p m) where
  ex := fun a u e => by
    have c : a ≠ p := fun z => by subst z; rw [(g.mo _ _ h).1] at e; cases e
    rw [upd_ne c]
    exact g.ex a u e
  mo := fun a n e => by
    by_cases c : a = p
    · subst c
      rw [mset_same] at e
      cases e
      exact ⟨(g.mo _ _ h).1, r⟩
    · rw [mset_ne c] at e
      obtain ⟨h1, h2⟩ := g.mo a n e
      exact ⟨h1, h2.mono Ext.rfl' (by rw [upd_ne c])⟩
/-- less is known -/
theorem Good.less {K : PySem.W.Frag} {B H : Hp} {μ μ' : Mu} (g : Good K B H μ) (h : ∀ a m, μ' a = some m → μ a = some m) : Good K B H μ' := ⟨g.ex, fun a m e => g.mo a m (h a m e)⟩
/-- a list that will change no more -/
theorem Good.freeze {K : PySem.W.Frag} {B H : Hp} {μ : Mu} (g : Good K B H μ) {p : Addr} {ds : List D} (h : μ p = some (.lst ds)) : ∃ B', Ext B B' ∧ Good K B' H (mdel μ p) ∧ Rp K B' (.ref p) (.lst ds) := by
  obtain ⟨hB, xs, hx, r⟩ := g.mo _ _ h
  refine ⟨upd B p (.lst xs), Ext.new hB, ⟨fun a u e => ?_, fun a m e => ?_⟩, .lst (Or.inl upd_same) (r.mono (Ext.new hB))⟩
  · by_cases c : a = p
    · subst c
      rw [upd_same] at e
      rw [← e]
      exact hx
    · rw [upd_ne c] at e
      exact g.ex a u e
  · have c : a ≠ p := fun z => by subst z; rw [mdel_same] at e; cases e
    rw [mdel_ne c] at e
    obtain ⟨h1, h2⟩ := g.mo a m e
    exact ⟨by rw [upd_ne c]; exact h1, h2.mono (Ext.new hB) rfl⟩

/-! ### slots -/
abbrev Rho := List (Option D)
structure SlR (K : PySem.W.Frag) (B : Hp) (σ : L2.St) (ρ : Rho) : Prop where
  len : σ.length = ρ.length
  at_ : ∀ (i : Nat) (d : D), ρ[i]? = some (some d) → ∃ v, σ[i]? = some (some v) ∧ Rp K B v d
theorem SlR.mono {K : PySem.W.Frag} {B B' : Hp} {σ : L2.St} {ρ : Rho} (s : SlR K B σ ρ) (e : Ext B B') : SlR K B' σ ρ := ⟨s.len, fun i d h => let ⟨v, h1, h2⟩ := s.at_ i d h; ⟨v, h1, h2.mono e⟩⟩
theorem SlR.set {K : PySem.W.Frag} {B : Hp} {σ : L2.St} {ρ : Rho} {v : V} {d : D} (s : SlR K B σ ρ) (i : Nat) (r : Rp K B v d) : SlR K B (σ.set i (some v)) (ρ.set i (some d)) := by
  refine ⟨by simp [s.len], fun j e h => ?_⟩
  by_cases c : i = j
  · subst c
    rw [List.getElem?_set] at h ⊢
    simp only [if_true] at h ⊢
    have hl := s.len
    split at h
    · rename_i hh
      rw [if_pos (by omega)]
      cases h
      exact ⟨v, rfl, r⟩
    · cases h
  · rw [List.getElem?_set, if_neg c] at h ⊢
    exact s.at_ j e h
/-! ### readings over data -/
structure Exn where
  cls : Str
  fs : List (Str × D)
abbrev DQ := D → Mu → Prop
abbrev XQ := Exn → Mu → Prop
abbrev DE := Rho → Mu → DQ → XQ → Prop
abbrev DT := Rho → Mu → (Bool → Mu → Prop) → XQ → Prop
abbrev DA := Rho → Mu → (List D → Mu → Prop) → XQ → Prop
/-- an error that leaves, its own dict at dx -/
def ExR (K : PySem.W.Frag) (B : Hp) (cls : Value) (dx : Option Addr) (x : Exn) : Prop :=
  PySem.W.nsIn K mainGlobals x.cls = some (some cls) ∧ ((dx = none ∧ x.fs = []) ∨ ∃ a fs, dx = some a ∧ B a = some (.xd fs) ∧ RpF K B fs x.fs)
theorem ExR.mono {K : PySem.W.Frag} {B B' : Hp} (e : Ext B B') {cls : Value} {dx : Option Addr} {x : Exn} (h : ExR K B cls dx x) : ExR K B' cls dx x := by
  obtain ⟨h1, h2⟩ := h
  refine ⟨h1, ?_⟩
  rcases h2 with h2 | ⟨a, fs, e1, e2, e3⟩
  · exact .inl h2
  · exact .inr ⟨a, fs, e1, e _ _ e2, e3.mono e⟩
/-- what follows: from a state over B -/
structure KtX (K : PySem.W.Frag) (W : WX) (B : Hp) (σ : L2.St) (QE : XQ) : Prop where
  ex : ∀ cls dx x H2 B2 μ2, Ext B B2 → Good K B2 H2 μ2 → ExR K B2 cls dx x → QE x μ2 → W cls dx σ H2
theorem KtX.mono {K : PySem.W.Frag} {W : WX} {B B' : Hp} {σ : L2.St} {QE : XQ} (k : KtX K W B σ QE) (e : Ext B B') : KtX K W B' σ QE := ⟨fun cls dx x H2 B2 μ2 a => k.ex cls dx x H2 B2 μ2 (e.trans a)⟩
structure Kt (K : PySem.W.Frag) (B : Hp) (Q : VK) (QD : DQ) : Prop where
  ok : ∀ v d H2 B2 μ2, Ext B B2 → Good K B2 H2 μ2 → Rp K B2 v d → QD d μ2 → Q v H2
theorem Kt.mono {K : PySem.W.Frag} {B B' : Hp} {Q : VK} {QD : DQ} (k : Kt K B Q QD) (e : Ext B B') : Kt K B' Q QD := ⟨fun v d H2 B2 μ2 a => k.ok v d H2 B2 μ2 (e.trans a)⟩
def upE (K : PySem.W.Frag) (W : WX) (de : DE) : TE := fun σ H Q => ∃ B ρ μ QD QE, Good K B H μ ∧ SlR K B σ ρ ∧ de ρ μ QD QE ∧ Kt K B Q QD ∧ KtX K W B σ QE
def upT (K : PySem.W.Frag) (W : WX) (de : DT) : TT := fun σ H Q => ∃ B ρ μ QD QE, Good K B H μ ∧ SlR K B σ ρ ∧ de ρ μ QD QE ∧ (∀ b H2 B2 μ2, Ext B B2 → Good K B2 H2 μ2 → QD b μ2 → Q b H2) ∧ KtX K W B σ QE
def upA (K : PySem.W.Frag) (W : WX) (de : DA) : TA := fun σ H Q => ∃ B ρ μ QD QE, Good K B H μ ∧ SlR K B σ ρ ∧ de ρ μ QD QE ∧ (∀ vs ds H2 B2 μ2, Ext B B2 → Good K B2 H2 μ2 → RpL K B2 vs ds → QD ds μ2 → Q vs H2) ∧ KtX K W B σ QE
structure RE (X : Cx) (W : WX) (e : Expr) (de : DE) : Prop where
  pe : PE X e (upE X.K W de)
structure RT (X : Cx) (W : WX) (e : Expr) (de : DT) : Prop where
  pt : PT X e (upT X.K W de)
structure RW (X : Cx) (W : WX) (e : Expr) (de : DT) : Prop where
  pw : PW X e (upT X.K W de)
structure RA (X : Cx) (W : WX) (es : List Expr) (de : DA) : Prop where
  pa : PA X es (upA X.K W de)
structure DEnds where
  nx : Rho → Mu → Prop
  rt : DQ
  bk : Rho → Mu → Prop := fun _ _ => False
  ct : Rho → Mu → Prop := fun _ _ => False
  xe : XQ
abbrev DS := DEnds → Rho → Mu → Prop
structure KtS (K : PySem.W.Frag) (W : WX) (B : Hp) (D : Ends) (DD : DEnds) : Prop where
  nx : ∀ σ2 ρ2 H2 B2 μ2, Ext B B2 → Good K B2 H2 μ2 → SlR K B2 σ2 ρ2 → DD.nx ρ2 μ2 → D.nx σ2 H2
  bk : ∀ σ2 ρ2 H2 B2 μ2, Ext B B2 → Good K B2 H2 μ2 → SlR K B2 σ2 ρ2 → DD.bk ρ2 μ2 → D.bk σ2 H2
  ct : ∀ σ2 ρ2 H2 B2 μ2, Ext B B2 → Good K B2 H2 μ2 → SlR K B2 σ2 ρ2 → DD.ct ρ2 μ2 → D.ct σ2 H2
  rt : Kt K B D.rt DD.rt
  xe : ∀ σ, KtX K W B σ DD.xe
theorem KtS.mono {K : PySem.W.Frag} {W : WX} {B B' : Hp} {D : Ends} {DD : DEnds} (k : KtS K W B D DD) (e : Ext B B') : KtS K W B' D DD :=
  ⟨fun σ2 ρ2 H2 B2 μ2 a => k.nx σ2 ρ2 H2 B2 μ2 (e.trans a), fun σ2 ρ2 H2 B2 μ2 a => k.bk σ2 ρ2 H2 B2 μ2 (e.trans a), fun σ2 ρ2 H2 B2 μ2 a => k.ct σ2 ρ2 H2 B2 μ2 (e.trans a), k.rt.mono e, fun σ => (k.xe σ).mono e⟩
def upS (K : PySem.W.Frag) (W : WX) (ds : DS) : TS := fun D σ H => ∃ B ρ μ DD, Good K B H μ ∧ SlR K B σ ρ ∧ ds DD ρ μ ∧ KtS K W B D DD
structure RS (X : Cx) (W : WX) (st : Stmt) (ds : DS) : Prop where
  ps : PS X st (upS X.K W ds)
structure RSs (X : Cx) (W : WX) (st : List Stmt) (ds : DS) : Prop where
  pss : PSs X st (upS X.K W ds)

/-! ### consequence -/
theorem PE.imp {X : Cx} {e : Expr} {t t' : TE} (h : PE X e t) (i : ∀ σ H Q, t' σ H Q → t σ H Q) : PE X e t' := ⟨fun pins s σ H Q I q => h.run pins s σ H Q I (i σ H Q q)⟩
theorem PT.imp {X : Cx} {e : Expr} {t t' : TT} (h : PT X e t) (i : ∀ σ H Q, t' σ H Q → t σ H Q) : PT X e t' := ⟨fun pins s σ H Q I q => h.run pins s σ H Q I (i σ H Q q)⟩
theorem PW.imp {X : Cx} {e : Expr} {t t' : TT} (h : PW X e t) (i : ∀ σ H Q, t' σ H Q → t σ H Q) : PW X e t' := ⟨fun w pins s σ H Q I q => h.run w pins s σ H Q I (i σ H Q q)⟩
theorem PA.imp {X : Cx} {e : List Expr} {t t' : TA} (h : PA X e t) (i : ∀ σ H Q, t' σ H Q → t σ H Q) : PA X e t' := ⟨fun p pins s σ H Q I q => h.run p pins s σ H Q I (i σ H Q q)⟩
theorem PS.imp {X : Cx} {e : Stmt} {t t' : TS} (h : PS X e t) (i : ∀ D σ H, t' D σ H → t D σ H) : PS X e t' := ⟨fun pins s σ H D I q => h.run pins s σ H D I (i D σ H q)⟩
theorem PSs.imp {X : Cx} {e : List Stmt} {t t' : TS} (h : PSs X e t) (i : ∀ D σ H, t' D σ H → t D σ H) : PSs X e t' := ⟨fun pins s σ H D I q => h.run pins s σ H D I (i D σ H q)⟩

section
variable {X : Cx} {W : WX} {e a b c : Expr} {es : List Expr} {da db dc : DE} {dt du : DT} {dr : DA} {pos : Pos}
/-! ### names and constants -/
def dVar (i : Nat) : DE := fun ρ μ Q _ => ∃ d, ρ[i]? = some (some d) ∧ Q d μ
def dC (d : D) : DE := fun _ μ Q _ => Q d μ
theorem re_c {v : V} {d : D} (h : PE X e (tC v)) (r : ∀ B, Rp X.K B v d) : RE X W e (dC d) :=
  ⟨PE.imp h fun σ H Q ⟨B, ρ, μ, QD, QE, g, s, q, k, x⟩ => k.ok v d H B μ Ext.rfl' g (r B) q⟩
theorem re_var {i : Nat} {x : Str} (hN : X.N[i]? = some x) (hv : Vis X.env.scope x) (hd : (x == ("__debug__" : Str)) = false := by decide) (hcd : (x == ("__classdict__" : Str)) = false := by decide) : RE X W (.Name x pos) (dVar i) :=
  ⟨PE.imp (pe_var (i := i) hN hv hd hcd) fun σ H Q ⟨B, ρ, μ, QD, QE, g, s, q, k, x⟩ => by
    obtain ⟨d, e, q⟩ := q
    obtain ⟨v, h1, h2⟩ := s.at_ i d e
    exact ⟨v, h1, k.ok v d H B μ Ext.rfl' g h2 q⟩⟩
theorem re_int {i j pos} : RE X W (.Constant (.int i) j pos) (dC (.int i)) := re_c pe_int fun _ => .int _
theorem re_bl {i j pos} : RE X W (.Constant (.bool i) j pos) (dC (.bl i)) := re_c pe_bl fun _ => .bl _
theorem re_str {i j pos} : RE X W (.Constant (.str i) j pos) (dC (.str i)) := re_c pe_str fun _ => .str _
theorem re_non {j pos} : RE X W (.Constant .none j pos) (dC .non) := re_c pe_non fun _ => .non
theorem re_glob {x : Str} {v : V} {d : D} {u : Value} (hg : Gl X x) (hm : X.mg x = some u) (r : RelV v u) (q : ∀ B, Rp X.K B v d) (hd : (x == ("__debug__" : Str)) = false := by decide) : RE X W (.Name x pos) (dC d) := re_c (pe_glob hg hm r hd) q
theorem re_bltn {x : Str} {v : V} {d : D} {u : Value} (hg : Gl X x) (hm : X.mg x = none) (hv : bootBuiltins x = some u) (r : RelV v u) (q : ∀ B, Rp X.K B v d) (hn : x ≠ "__name__" := by decide) (hd : (x == ("__debug__" : Str)) = false := by decide) : RE X W (.Name x pos) (dC d) := re_c (pe_bltn hg hm hv r hn hd) q

/-! ### operators by values -/
abbrev D2 := D → D → Mu → DQ → Prop
/-- a V-level operator does what a data-level one says -/
def OpD (K : PySem.W.Frag) (r : R2) (rd : D2) : Prop := ∀ B H μ x y d e QD Q, Good K B H μ → Rp K B x d → Rp K B y e → rd d e μ QD → Kt K B Q QD → r x y H Q
def dOp (rd : D2) (da db : DE) : DE := fun ρ μ Q E => da ρ μ (fun d μ1 => db ρ μ1 (fun e μ2 => rd d e μ2 Q) E) E
theorem up_op {K : PySem.W.Frag} {r : R2} {rd : D2} (h : OpD K r rd) {σ : L2.St} {H : Hp} {Q : VK} (q : upE K W (dOp rd da db) σ H Q) : tOp r (upE K W da) (upE K W db) σ H Q := by
  obtain ⟨B, ρ, μ, QD, QE, g, s, q, k, x⟩ := q
  refine ⟨B, ρ, μ, _, QE, g, s, q, ⟨fun v d H1 B1 μ1 e1 g1 r1 q1 => ?_⟩, x⟩
  refine ⟨B1, ρ, μ1, _, QE, g1, s.mono e1, q1, ⟨fun w e H2 B2 μ2 e2 g2 r2 q2 => ?_⟩, x.mono e1⟩
  exact h B2 H2 μ2 v w d e QD Q g2 (r1.mono e2) r2 q2 (k.mono (e1.trans e2))
theorem re_op {op : Operator} {r : R2} {rd : D2} (ho : OpR X (binaryOp op) r) (h : OpD X.K r rd) (ha : RE X W a da) (hb : RE X W b db) : RE X W (.BinOp a op b pos) (dOp rd da db) :=
  ⟨PE.imp (pe_op ho ha.pe hb.pe) fun _ _ _ q => up_op h q⟩
theorem re_cmp {op : CmpOp} {r : R2} {rd : D2} (ho : OpR X (compareOp op) r) (h : OpD X.K r rd) (ha : RE X W a da) (hb : RE X W b db) (hm : behindInMarks op b = false) : RE X W (.Compare a [op] [b] pos) (dOp rd da db) :=
  ⟨PE.imp (pe_cmpR ho ha.pe hb.pe hm) fun _ _ _ q => up_op h q⟩
theorem re_ix {r : R2} {rd : D2} (ho : IxR X r) (h : OpD X.K r rd) (ha : RE X W a da) (hb : RE X W b db) (hm : PlainIx b) : RE X W (.Subscript a b pos) (dOp rd da db) :=
  ⟨PE.imp (pe_ix ho ha.pe hb.pe hm) fun _ _ _ q => up_op h q⟩
def dTest (de : DE) : DT := fun ρ μ Q E => de ρ μ (fun d μ1 => ∃ b, d = .bl b ∧ Q b μ1) E
theorem up_test {K : PySem.W.Frag} {σ : L2.St} {H : Hp} {Q : Bool → Hp → Prop} (q : upT K W (dTest da) σ H Q) : tB (upE K W da) σ H Q := by
  obtain ⟨B, ρ, μ, QD, QE, g, s, q, k, x⟩ := q
  refine ⟨B, ρ, μ, _, QE, g, s, q, ⟨fun v d H1 B1 μ1 e1 g1 r1 q1 => ?_⟩, x⟩
  obtain ⟨b, rfl, q1⟩ := q1
  exact ⟨b, r1.bl_inv, k b H1 B1 μ1 e1 g1 q1⟩
/-- a test that is a bool -/
theorem rt_val (h : RE X W e da) (he : ∀ whole, isTrue e X.env whole = (do let v ← whole; standAt e.pos; holding [v] (truthy v)) := by intro _; rfl) : RT X W e (dTest da) :=
  ⟨PT.imp (pt_val h.pe he) fun _ _ _ q => up_test q⟩
theorem rt_cmp {op : CmpOp} {r : R2} {rd : D2} (ho : OpR X (compareOp op) r) (h : OpD X.K r rd) (ha : RE X W a da) (hb : RE X W b db) (hm : behindInMarks op b = false) : RT X W (.Compare a [op] [b] pos) (dTest (dOp rd da db)) :=
  ⟨PT.imp (pt_cmpR ho ha.pe hb.pe hm) fun σ H Q q => by
    obtain ⟨B, ρ, μ, QD, QE, g, s, q, k, x⟩ := q
    refine up_op (Q := fun x H' => ∃ k, x = .bl k ∧ Q k H') h ⟨B, ρ, μ, _, QE, g, s, q, ⟨fun v d H1 B1 μ1 e1 g1 r1 q1 => ?_⟩, x⟩
    obtain ⟨b, rfl, q1⟩ := q1
    exact ⟨b, r1.bl_inv, k b H1 B1 μ1 e1 g1 q1⟩⟩
def dAnd (t u : DT) : DT := fun ρ μ Q E => t ρ μ (fun b μ1 => if b = true then u ρ μ1 Q E else Q false μ1) E
def dOr (t u : DT) : DT := fun ρ μ Q E => t ρ μ (fun b μ1 => if b = true then Q true μ1 else u ρ μ1 Q E) E
def dNot (t : DT) : DT := fun ρ μ Q E => t ρ μ (fun b μ1 => Q (!b) μ1) E
theorem RW.rt (h : RW X W e dt) : RT X W e dt := ⟨h.pw.pt⟩
theorem rw_and1 {dt : DT} (h : RT X W a dt) : RW X W (.BoolOp .And [a] pos) dt := ⟨pw_and1 h.pt⟩
theorem rw_or1 {dt : DT} (h : RT X W a dt) : RW X W (.BoolOp .Or [a] pos) dt := ⟨pw_or1 h.pt⟩
theorem rw_and {rest : List Expr} (h : RT X W a dt) (h2 : RW X W (.BoolOp .And (b :: rest) pos) du) : RW X W (.BoolOp .And (a :: b :: rest) pos) (dAnd dt du) :=
  ⟨PW.imp (pw_and h.pt h2.pw) fun σ H Q ⟨B, ρ, μ, QD, QE, g, s, q, k, x⟩ => by
    refine ⟨B, ρ, μ, _, QE, g, s, q, fun b H1 B1 μ1 e1 g1 q1 => ?_, x⟩
    cases b with
    | true => exact ⟨B1, ρ, μ1, QD, QE, g1, s.mono e1, q1, fun b H2 B2 μ2 e2 => k b H2 B2 μ2 (e1.trans e2), x.mono e1⟩
    | false => exact k false H1 B1 μ1 e1 g1 q1⟩
theorem rw_or {rest : List Expr} (h : RT X W a dt) (h2 : RW X W (.BoolOp .Or (b :: rest) pos) du) : RW X W (.BoolOp .Or (a :: b :: rest) pos) (dOr dt du) :=
  ⟨PW.imp (pw_or h.pt h2.pw) fun σ H Q ⟨B, ρ, μ, QD, QE, g, s, q, k, x⟩ => by
    refine ⟨B, ρ, μ, _, QE, g, s, q, fun b H1 B1 μ1 e1 g1 q1 => ?_, x⟩
    cases b with
    | false => exact ⟨B1, ρ, μ1, QD, QE, g1, s.mono e1, q1, fun b H2 B2 μ2 e2 => k b H2 B2 μ2 (e1.trans e2), x.mono e1⟩
    | true => exact k true H1 B1 μ1 e1 g1 q1⟩
theorem rt_not (h : RT X W a dt) : RT X W (.UnaryOp .Not a pos) (dNot dt) :=
  ⟨PT.imp (pt_not h.pt) fun σ H Q ⟨B, ρ, μ, QD, QE, g, s, q, k, x⟩ => ⟨B, ρ, μ, _, QE, g, s, q, fun b H1 B1 μ1 e1 g1 q1 => k _ H1 B1 μ1 e1 g1 q1, x⟩⟩
def dAndV (da db : DE) : DE := fun ρ μ Q E => da ρ μ (fun d μ1 => ∃ b, d = .bl b ∧ if b = true then db ρ μ1 Q E else Q (.bl false) μ1) E
def dOrV (da db : DE) : DE := fun ρ μ Q E => da ρ μ (fun d μ1 => ∃ b, d = .bl b ∧ if b = true then Q (.bl true) μ1 else db ρ μ1 Q E) E
def dNotV (da : DE) : DE := fun ρ μ Q E => da ρ μ (fun d μ1 => ∃ b, d = .bl b ∧ Q (.bl (!b)) μ1) E
theorem re_one {op} (h : RE X W a da) : RE X W (.BoolOp op [a] pos) da := ⟨pe_one h.pe⟩
theorem re_and {rest : List Expr} (h : RE X W a da) (h2 : RE X W (.BoolOp .And (b :: rest) pos) db) : RE X W (.BoolOp .And (a :: b :: rest) pos) (dAndV da db) :=
  ⟨PE.imp (pe_and h.pe h2.pe) fun σ H Q ⟨B, ρ, μ, QD, QE, g, s, q, k, x⟩ => by
    refine ⟨B, ρ, μ, _, QE, g, s, q, ⟨fun v d H1 B1 μ1 e1 g1 r1 q1 => ?_⟩, x⟩
    obtain ⟨b, rfl, q1⟩ := q1
    refine ⟨b, r1.bl_inv, ?_⟩
    cases b with
    | true => exact ⟨B1, ρ, μ1, QD, QE, g1, s.mono e1, q1, k.mono e1, x.mono e1⟩
    | false => exact k.ok _ _ H1 B1 μ1 e1 g1 (.bl false) q1⟩
theorem re_or {rest : List Expr} (h : RE X W a da) (h2 : RE X W (.BoolOp .Or (b :: rest) pos) db) : RE X W (.BoolOp .Or (a :: b :: rest) pos) (dOrV da db) :=
  ⟨PE.imp (pe_or h.pe h2.pe) fun σ H Q ⟨B, ρ, μ, QD, QE, g, s, q, k, x⟩ => by
    refine ⟨B, ρ, μ, _, QE, g, s, q, ⟨fun v d H1 B1 μ1 e1 g1 r1 q1 => ?_⟩, x⟩
    obtain ⟨b, rfl, q1⟩ := q1
    refine ⟨b, r1.bl_inv, ?_⟩
    cases b with
    | false => exact ⟨B1, ρ, μ1, QD, QE, g1, s.mono e1, q1, k.mono e1, x.mono e1⟩
    | true => exact k.ok _ _ H1 B1 μ1 e1 g1 (.bl true) q1⟩
theorem re_not (h : RE X W a da) : RE X W (.UnaryOp .Not a pos) (dNotV da) :=
  ⟨PE.imp (pe_not h.pe) fun σ H Q ⟨B, ρ, μ, QD, QE, g, s, q, k, x⟩ => by
    refine ⟨B, ρ, μ, _, QE, g, s, q, ⟨fun v d H1 B1 μ1 e1 g1 r1 q1 => ?_⟩, x⟩
    obtain ⟨b, rfl, q1⟩ := q1
    exact ⟨b, r1.bl_inv, k.ok _ _ H1 B1 μ1 e1 g1 (.bl _) q1⟩⟩
def dIf (t : DT) (da db : DE) : DE := fun ρ μ Q E => t ρ μ (fun b μ1 => if b = true then da ρ μ1 Q E else db ρ μ1 Q E) E
theorem re_if (h : RT X W c dt) (ha : RE X W a da) (hb : RE X W b db) : RE X W (.IfExp c a b pos) (dIf dt da db) :=
  ⟨PE.imp (pe_ifExp h.pt ha.pe hb.pe) fun σ H Q ⟨B, ρ, μ, QD, QE, g, s, q, k, x⟩ => by
    refine ⟨B, ρ, μ, _, QE, g, s, q, fun b H1 B1 μ1 e1 g1 q1 => ?_, x⟩
    cases b with
    | true => exact ⟨B1, ρ, μ1, QD, QE, g1, s.mono e1, q1, k.mono e1, x.mono e1⟩
    | false => exact ⟨B1, ρ, μ1, QD, QE, g1, s.mono e1, q1, k.mono e1, x.mono e1⟩⟩
/-- a < b < c -/
def dChain (rd rd' : D2) (da db dc : DE) : DE := fun ρ μ Q E => da ρ μ (fun d μ1 => db ρ μ1 (fun e μ2 => rd d e μ2 fun z μ3 => ∃ k, z = .bl k ∧ if k = true then dc ρ μ3 (fun f μ4 => rd' e f μ4 Q) E else Q (.bl false) μ3) E) E
theorem up_chain {K : PySem.W.Frag} {r r' : R2} {rd rd' : D2} (h : OpD K r rd) (h' : OpD K r' rd') {σ : L2.St} {H : Hp} {Q : VK} (q : upE K W (dChain rd rd' da db dc) σ H Q) : tChain r r' (upE K W da) (upE K W db) (upE K W dc) σ H Q := by
  obtain ⟨B, ρ, μ, QD, QE, g, s, q, k, x⟩ := q
  refine ⟨B, ρ, μ, _, QE, g, s, q, ⟨fun v d H1 B1 μ1 e1 g1 r1 q1 => ?_⟩, x⟩
  refine ⟨B1, ρ, μ1, _, QE, g1, s.mono e1, q1, ⟨fun w e H2 B2 μ2 e2 g2 r2 q2 => ?_⟩, x.mono e1⟩
  refine h B2 H2 μ2 v w d e _ _ g2 (r1.mono e2) r2 q2 ⟨fun z f H3 B3 μ3 e3 g3 r3 q3 => ?_⟩
  obtain ⟨b, rfl, q3⟩ := q3
  refine ⟨b, r3.bl_inv, ?_⟩
  cases b with
  | true =>
    refine ⟨B3, ρ, μ3, _, QE, g3, s.mono ((e1.trans e2).trans e3), q3, ⟨fun u f H4 B4 μ4 e4 g4 r4 q4 => ?_⟩, x.mono ((e1.trans e2).trans e3)⟩
    exact h' B4 H4 μ4 w u e f QD Q g4 (r2.mono (e3.trans e4)) r4 q4 (k.mono (((e1.trans e2).trans e3).trans e4))
  | false => exact k.ok _ _ H3 B3 μ3 ((e1.trans e2).trans e3) g3 (.bl false) q3
theorem re_chain {op op' : CmpOp} {r r' : R2} {rd rd' : D2} (ho : OpR X (compareOp op) r) (ho' : OpR X (compareOp op') r') (h : OpD X.K r rd) (h' : OpD X.K r' rd') (ha : RE X W a da) (hb : RE X W b db) (hc : RE X W c dc) (hm : lastMarks [op, op'] [b, c] = false := by with_unfolding_all rfl) :
    RE X W (.Compare a [op, op'] [b, c] pos) (dChain rd rd' da db dc) := ⟨PE.imp (pe_chain ho ho' ha.pe hb.pe hc.pe hm) fun _ _ _ q => up_chain h h' q⟩
end
end DL

/-! The data layer, 2: operators. -/
namespace DL
open PySem PySem.Spec PyProof.Rows L2

theorem sizeLine_lt : sizeLine < 2 ^ 63 := by rw [sizeLine_eq]; decide
/-! ### data as the library's data -/
mutual
def D.py : D → Option PyData
  | .non => some .none
  | .bl b => some (.bool b)
  | .int i => some (.int i)
  | .str x => some (.str x)
  | .lst ds => (pyL ds).map .list
  | .tup ds => (pyL ds).map .tuple
  | _ => none
def pyL : List D → Option (List PyData)
  | [] => some []
  | d :: ds => match d.py, pyL ds with
    | some p, some ps => some (p :: ps)
    | _, _ => none
end
def listOf (μ : Mu) : D → Option (List D)
  | .lst ds => some ds
  | .ref a => match μ a with
    | some (.lst ds) => some ds
    | _ => none
  | _ => none
def seqOf (μ : Mu) : D → Option (List D)
  | .tup ds => some ds
  | .arg ds => some ds
  | .lst ds => some ds
  | .ref a => match μ a with
    | some (.lst ds) => some ds
    | _ => none
  | _ => none
/-- data, a changing list told as it stands -/
def pyM (μ : Mu) : D → Option PyData
  | .ref a => match μ a with
    | some (.lst ds) => (pyL ds).map .list
    | _ => none
  | d => d.py
theorem listOf_inv {μ : Mu} {d : D} {ds : List D} (h : listOf μ d = some ds) : d = .lst ds ∨ ∃ a, d = .ref a ∧ μ a = some (.lst ds) := by
  cases d with
  | lst l => exact .inl (by rw [Option.some.inj h])
  | ref a =>
    right
    refine ⟨a, rfl, ?_⟩
    show μ a = _
    have h : (match μ a with | some (.lst ds) => some ds | _ => none) = some ds := h
    split at h
    · rename_i e
      rw [e, Option.some.inj h]
    · cases h
  | _ => cases h
theorem seqOf_inv {μ : Mu} {d : D} {ds : List D} (h : seqOf μ d = some ds) : d = .tup ds ∨ d = .arg ds ∨ listOf μ d = some ds := by
  cases d with
  | tup l => exact .inl (by rw [Option.some.inj h])
  | arg l => exact .inr (.inl (by rw [Option.some.inj h]))
  | _ => exact .inr (.inr h)
section
variable {K : PySem.W.Frag} {B H : Hp} {μ : Mu} {v x y : V} {d e : D} {ds : List D}
theorem listV (g : Good K B H μ) (r : Rp K B v d) (h : listOf μ d = some ds) : ∃ a xs, v = .ref a ∧ Rd H a (.lst xs) ∧ RpL K B xs ds := by
  rcases listOf_inv h with rfl | ⟨a, rfl, hm⟩
  · obtain ⟨a, xs, rfl, h1, h2⟩ := r.lst_inv
    exact ⟨a, xs, rfl, ext_rd g.ex h1, h2⟩
  · obtain ⟨_, xs, h1, h2⟩ := g.mo a _ hm
    exact ⟨a, xs, r.ref_inv, Or.inl h1, h2⟩
theorem tupV (g : Good K B H μ) (r : Rp K B v (.tup ds)) : ∃ a xs, v = .ref a ∧ SqT K H a xs ∧ RpL K B xs ds := by
  obtain ⟨a, xs, rfl, h1, h2⟩ := r.tup_inv
  exact ⟨a, xs, rfl, ext_t g.ex h1, h2⟩
theorem seqV (g : Good K B H μ) (r : Rp K B v d) (h : seqOf μ d = some ds) : ∃ a xs, v = .ref a ∧ (SqL K H a xs ∨ SqT K H a xs) ∧ RpL K B xs ds := by
  rcases seqOf_inv h with rfl | rfl | h
  · obtain ⟨a, xs, e, h1, h2⟩ := tupV g r
    exact ⟨a, xs, e, .inr h1, h2⟩
  · obtain ⟨a, xs, e, h1, h2⟩ := r.arg_inv
    exact ⟨a, xs, e, .inl (ext_l g.ex h1), h2⟩
  · obtain ⟨a, xs, e, h1, h2⟩ := listV g r h
    exact ⟨a, xs, e, .inl (.inl h1), h2⟩
end
mutual
theorem Rp.dp {K : PySem.W.Frag} {B : Hp} : ∀ {v : V} {d : D} {p : PyData}, Rp K B v d → d.py = some p → Dp K B v p
  | _, _, _, .non, e => by simp only [D.py, Option.some.injEq] at e; subst e; exact .non
  | _, _, _, .bl b, e => by simp only [D.py, Option.some.injEq] at e; subst e; exact .bl b
  | _, _, _, .int i, e => by simp only [D.py, Option.some.injEq] at e; subst e; exact .int i
  | _, _, _, .str x, e => by simp only [D.py, Option.some.injEq] at e; subst e; exact .str x
  | _, _, _, .lst h r, e => by
    simp only [D.py, Option.map_eq_some_iff] at e
    obtain ⟨ps, e, rfl⟩ := e
    exact .lst (.inl h) (RpL.dp r e)
  | _, _, _, .tup h r, e => by
    simp only [D.py, Option.map_eq_some_iff] at e
    obtain ⟨ps, e, rfl⟩ := e
    exact .tup h (RpL.dp r e)
  | _, _, _, .arg _ _, e => by simp only [D.py] at e; cases e
  | _, _, _, .ins _ _ _, e => by simp only [D.py] at e; cases e
  | _, _, _, .cls _, e => by simp only [D.py] at e; cases e
  | _, _, _, .ref _, e => by simp only [D.py] at e; cases e
  | _, _, _, .ty _, e => by simp only [D.py] at e; cases e
theorem RpL.dp {K : PySem.W.Frag} {B : Hp} : ∀ {v : List V} {d : List D} {p : List PyData}, RpL K B v d → pyL d = some p → DpAll K B v p
  | _, _, _, .nil, e => by simp only [pyL, Option.some.injEq] at e; subst e; exact .nil
  | _, _, _, .cons h r, e => by
    simp only [pyL] at e
    split at e
    · rename_i a b
      cases e
      exact .cons (Rp.dp h a) (RpL.dp r b)
    · cases e
end
mutual
theorem Dp.ext {K : PySem.W.Frag} {B H : Hp} (x : Ext B H) : ∀ {v : V} {d : PyData}, Dp K B v d → Dp K H v d
  | _, _, .non => .non
  | _, _, .bl b => .bl b
  | _, _, .int b => .int b
  | _, _, .str b => .str b
  | _, _, .lst h r => .lst (ext_l x h) (DpAll.ext x r)
  | _, _, .tup h r => .tup (ext_t x h) (DpAll.ext x r)
theorem DpAll.ext {K : PySem.W.Frag} {B H : Hp} (x : Ext B H) : ∀ {v : List V} {d : List PyData}, DpAll K B v d → DpAll K H v d
  | _, _, .nil => .nil
  | _, _, .cons h r => .cons (Dp.ext x h) (DpAll.ext x r)
end
theorem pyM_dp {K : PySem.W.Frag} {B H : Hp} {μ : Mu} {v : V} {d : D} {p : PyData} (g : Good K B H μ) (r : Rp K B v d) (h : pyM μ d = some p) : Dp K H v p := by
  cases d with
  | ref a =>
    have h : (match μ a with | some (.lst ds) => (pyL ds).map PyData.list | _ => none) = some p := h
    split at h
    · rename_i ds e
      obtain ⟨ps, h1, rfl⟩ := Option.map_eq_some_iff.mp h
      obtain ⟨_, xs, h2, h3⟩ := g.mo a _ e
      rw [r.ref_inv]
      exact .lst (Or.inl (Or.inl h2)) (DpAll.ext g.ex (h3.dp h1))
    · cases h
  | _ => exact Dp.ext g.ex (r.dp h)

/-! ### the operators -/
theorem rd_obj {X : Cx} {pins : List (Addr × Obj)} {σ : L2.St} {H : Hp} {s : Shared} {l : Addr} {xs : List V} (I : L2.Inv X pins σ H s) (h : Rd H l (.lst xs)) : xs.length ≤ sizeLine ∧ ∃ (its : List Value) (n : Nat), Vals xs its ∧ xs.length = its.length ∧ s.heap.get? l = some { cls := .type "list", data := .seq its.toArray n } := by
  rcases h with h | ⟨o, h⟩
  · exact I.lstM h
  · obtain ⟨_, hz, its, n, r, e⟩ := I.hok _ _ h
    exact ⟨hz, its, n, r, r.length, e⟩
theorem OpD.mk {K : PySem.W.Frag} {r : R2} {rd : D2} (h : ∀ B H μ x y d e QD Q, Good K B H μ → Rp K B x d → Rp K B y e → rd d e μ QD → Kt K B Q QD → r x y H Q) : OpD K r rd := h
section
variable {X : Cx}
/-- list + list, any two lists -/
def rCatL : R2 := fun x y H Q => ∃ l b xs zs, x = .ref l ∧ y = .ref b ∧ Rd H l (.lst xs) ∧ Rd H b (.lst zs) ∧ xs.length + zs.length ≤ sizeLine ∧ ∀ p, H p = none → Q (.ref p) (upd H p (.lst (xs ++ zs)))
theorem op_catL : OpR X (binaryOp .Add) rCatL := by
  intro pins s σ H x y v u Q I rx ry h
  obtain ⟨l, b, xs, zs, rfl, rfl, hH, hB, hz, q⟩ := h
  cases rx
  cases ry
  obtain ⟨z, its, n, r, hl, e1⟩ := rd_obj I hH
  obtain ⟨z2, its2, n2, r2, hl2, e2⟩ := rd_obj I hB
  refine PySem.P.add_list e1 e2 ?_ (by rw [List.size_toArray, List.size_toArray]; omega)
  have ea : its.toArray ++ its2.toArray = (its ++ its2).toArray := by simp
  rw [ea]
  exact ⟨.ref _, _, I.lnew (t' := s.toks) (r.append r2) (by rw [List.length_append]; omega), rfl, q _ I.fresh⟩
def rAddAll (K : PySem.W.Frag) : R2 := fun x y H Q => (rI0 fun i j => .int (i + j)) x y H Q ∨ rCatA K x y H Q ∨ (∃ i j, x = .str i ∧ y = .str j ∧ i.length + j.length ≤ sizeLine ∧ Q (.str (i ++ j)) H) ∨ rCatL x y H Q
theorem op_addAll : OpR X (binaryOp .Add) (rAddAll X.K) := op_add.or (op_catA.or (op_add_str.or op_catL))
/-- d + e -/
def rdAdd : D2 := fun d e μ Q => match d, e with
  | .int i, .int j => Q (.int (i + j)) μ
  | .tup a, .tup b => a.length + b.length ≤ sizeLine ∧ Q (.tup (a ++ b)) μ
  | .str a, .str b => a.length + b.length ≤ sizeLine ∧ Q (.str (a ++ b)) μ
  | d, e => ∃ a b, listOf μ d = some a ∧ listOf μ e = some b ∧ a.length + b.length ≤ sizeLine ∧ Q (.lst (a ++ b)) μ
theorem catTup {K : PySem.W.Frag} {B H : Hp} {μ : Mu} {x y : V} {a b : List D} {QD : DQ} {Q : VK} (g : Good K B H μ) (rx : Rp K B x (.tup a)) (ry : Rp K B y (.tup b)) (hz : a.length + b.length ≤ sizeLine) (q : QD (.tup (a ++ b)) μ) (k : Kt K B Q QD) : rCatA K x y H Q := by
  have rx' := rx
  have ry' := ry
  obtain ⟨p, xs, rfl, h1, h2⟩ := tupV g rx
  obtain ⟨p', ys, rfl, h3, h4⟩ := tupV g ry
  refine ⟨p, p', xs, ys, rfl, rfl, h1, h3, by rw [h2.length, h4.length]; exact hz, fun z => ?_, fun _ z => ?_, fun _ _ q' hq' => ?_⟩
  · subst z
    cases h2
    exact k.ok _ _ H B μ Ext.rfl' g ry' q
  · subst z
    cases h4
    rw [List.append_nil] at q
    exact k.ok _ _ H B μ Ext.rfl' g rx' q
  · exact k.ok _ _ _ _ μ (Ext.new (g.freeB hq')) (g.still hq') (.tup (Or.inl (Or.inl upd_same)) ((h2.append h4).mono (Ext.new (g.freeB hq')))) q
theorem catLst {K : PySem.W.Frag} {B H : Hp} {μ : Mu} {x y : V} {d e : D} {a b : List D} {QD : DQ} {Q : VK} (g : Good K B H μ) (rx : Rp K B x d) (ry : Rp K B y e) (h1 : listOf μ d = some a) (h2 : listOf μ e = some b) (hz : a.length + b.length ≤ sizeLine) (q : QD (.lst (a ++ b)) μ) (k : Kt K B Q QD) : rCatL x y H Q := by
  obtain ⟨p, xs, rfl, h3, h4⟩ := listV g rx h1
  obtain ⟨p', ys, rfl, h5, h6⟩ := listV g ry h2
  exact ⟨p, p', xs, ys, rfl, rfl, h3, h5, by rw [h4.length, h6.length]; exact hz, fun q' hq' => k.ok _ _ _ _ μ (Ext.new (g.freeB hq')) (g.still hq') (.lst (Or.inl upd_same) ((h4.append h6).mono (Ext.new (g.freeB hq')))) q⟩
theorem od_add {K : PySem.W.Frag} : OpD K (rAddAll K) rdAdd := by
  intro B H μ x y d e QD Q g rx ry q k
  unfold rdAdd at q
  split at q
  · exact .inl ⟨_, _, rx.int_inv, ry.int_inv, k.ok _ _ H B μ Ext.rfl' g (.int _) q⟩
  · exact .inr (.inl (catTup g rx ry q.1 q.2 k))
  · exact .inr (.inr (.inl ⟨_, _, rx.str_inv, ry.str_inv, q.1, k.ok _ _ H B μ Ext.rfl' g (.str _) q.2⟩))
  · obtain ⟨a, b, h1, h2, hz, q⟩ := q
    exact .inr (.inr (.inr (catLst g rx ry h1 h2 hz q k)))
/-- list + list, the new one to be changed -/
def rdCatM : D2 := fun d e μ Q => ∃ a b, listOf μ d = some a ∧ listOf μ e = some b ∧ a.length + b.length ≤ sizeLine ∧ ∀ p, μ p = none → Q (.ref p) (mset μ p (.lst (a ++ b)))
theorem od_catM {K : PySem.W.Frag} : OpD K (rAddAll K) rdCatM := by
  intro B H μ x y d e QD Q g rx ry ⟨a, b, h1, h2, hz, q⟩ k
  obtain ⟨p, xs, rfl, h3, h4⟩ := listV g rx h1
  obtain ⟨p', ys, rfl, h5, h6⟩ := listV g ry h2
  exact .inr (.inr (.inr ⟨p, p', xs, ys, rfl, rfl, h3, h5, by rw [h4.length, h6.length]; exact hz, fun q' hq' => k.ok _ _ _ _ _ Ext.rfl' (g.fresh (m := .lst (a ++ b)) hq' ⟨_, upd_same, h4.append h6⟩) (.ref _) (q q' (g.free hq'))⟩))
/-- numbers alone -/
def rdI (C : Int → Int → Prop) (f : Int → Int → Int) : D2 := fun d e μ Q => match d, e with
  | .int i, .int j => C i j ∧ Q (.int (f i j)) μ
  | _, _ => False
def rdI0 (f : Int → Int → Int) : D2 := fun d e μ Q => match d, e with
  | .int i, .int j => Q (.int (f i j)) μ
  | _, _ => False
def rdB0 (f : Int → Int → Bool) : D2 := fun d e μ Q => match d, e with
  | .int i, .int j => Q (.bl (f i j)) μ
  | _, _ => False
theorem od_I {K : PySem.W.Frag} {C : Int → Int → Prop} {f : Int → Int → Int} : OpD K (rI C fun i j => .int (f i j)) (rdI C f) := by
  intro B H μ x y d e QD Q g rx ry q k
  unfold rdI at q
  split at q
  · exact ⟨_, _, rx.int_inv, ry.int_inv, q.1, k.ok _ _ H B μ Ext.rfl' g (.int _) q.2⟩
  · exact q.elim
theorem od_I0 {K : PySem.W.Frag} {f : Int → Int → Int} : OpD K (rI0 fun i j => .int (f i j)) (rdI0 f) := by
  intro B H μ x y d e QD Q g rx ry q k
  unfold rdI0 at q
  split at q
  · exact ⟨_, _, rx.int_inv, ry.int_inv, k.ok _ _ H B μ Ext.rfl' g (.int _) q⟩
  · exact q.elim
theorem od_B0 {K : PySem.W.Frag} {f : Int → Int → Bool} : OpD K (rI0 fun i j => .bl (f i j)) (rdB0 f) := by
  intro B H μ x y d e QD Q g rx ry q k
  unfold rdB0 at q
  split at q
  · exact ⟨_, _, rx.int_inv, ry.int_inv, k.ok _ _ H B μ Ext.rfl' g (.bl _) q⟩
  · exact q.elim
/-- d * e: numbers; a list or a tuple times a number -/
def rRepL (K : PySem.W.Frag) : R2 := fun x y H Q => ∃ l k xs, x = .ref l ∧ y = .int k ∧ H l = some (.lst xs) ∧ -(2 ^ 63) ≤ k ∧ k < 2 ^ 63 ∧ xs.length * k.toNat ≤ sizeLine ∧
  ∀ p, H p = none → Q (.ref p) (upd H p (.lst (List.replicate k.toNat xs).flatten))
/-- xs[::-1] data of it is -/
theorem RpL.flat {K : PySem.W.Frag} {B : Hp} {xs : List V} {ds : List D} (r : RpL K B xs ds) : ∀ n : Nat, RpL K B (List.replicate n xs).flatten (List.replicate n ds).flatten
  | 0 => .nil
  | n + 1 => by
    rw [List.replicate_succ, List.replicate_succ, List.flatten_cons, List.flatten_cons]
    exact r.append (RpL.flat r n)
/-- equal -/
def rEqX (K : PySem.W.Frag) : R2 := fun x y H Q => rEqD K x y H Q ∨ ∃ a b, x = .str a ∧ y = .str b ∧ Q (.bl (decide (a = b))) H
def rNeX (K : PySem.W.Frag) : R2 := fun x y H Q => rNeD K x y H Q ∨ ∃ a b, x = .str a ∧ y = .str b ∧ Q (.bl (!decide (a = b))) H
section
variable {X : Cx}
theorem op_eqX (hu : X.A.units + 64 < cLine) : OpR X (compareOp .Eq) (rEqX X.K) := (op_eqD hu).or (by
  intro pins s σ H x y v u Q I rx ry ⟨a, b, hx, hy, q⟩
  subst hx hy
  obtain ⟨t, rfl⟩ := rx
  obtain ⟨t', rfl⟩ := ry
  refine PyProof.Rows.eq_str ⟨.bl _, H, I, ?_, q⟩
  show Value.bool (a == b) = Value.bool _
  first
    | rfl
    | (congr 1
       by_cases c : a = b
       · subst c; simp
       · simp [c]))
theorem op_neX (hu : X.A.units + 64 < cLine) : OpR X (compareOp .NotEq) (rNeX X.K) := (op_neD hu).or (by
  intro pins s σ H x y v u Q I rx ry ⟨a, b, hx, hy, q⟩
  subst hx hy
  obtain ⟨t, rfl⟩ := rx
  obtain ⟨t', rfl⟩ := ry
  refine PyProof.Rows.ne_str ⟨.bl _, H, I, ?_, q⟩
  show Value.bool (a != b) = Value.bool _
  first
    | rfl
    | (congr 1
       by_cases c : a = b
       · subst c; simp
       · simp [c]))
end
def rdEq (s : Bool) : D2 := fun d e μ Q => (∃ p q, pyM μ d = some p ∧ pyM μ e = some q ∧ SeqAt.shaped p = true ∧ SeqAt.shaped q = true ∧ Q (.bl (PyData.eqv p q ^^ s)) μ) ∨ ∃ a b, d = .str a ∧ e = .str b ∧ Q (.bl (decide (a = b) ^^ s)) μ
theorem od_eq {K : PySem.W.Frag} : OpD K (rEqX K) (rdEq false) := by
  intro B H μ x y d e QD Q g rx ry h k
  rcases h with ⟨p, q, h1, h2, h3, h4, h5⟩ | ⟨a, b, rfl, rfl, h5⟩
  · rw [Bool.xor_false] at h5
    exact .inl ⟨p, q, pyM_dp g rx h1, pyM_dp g ry h2, h3, h4, k.ok _ _ H B μ Ext.rfl' g (.bl _) h5⟩
  · rw [Bool.xor_false] at h5
    exact .inr ⟨a, b, rx.str_inv, ry.str_inv, k.ok _ _ H B μ Ext.rfl' g (.bl _) h5⟩
theorem od_ne {K : PySem.W.Frag} : OpD K (rNeX K) (rdEq true) := by
  intro B H μ x y d e QD Q g rx ry h k
  rcases h with ⟨p, q, h1, h2, h3, h4, h5⟩ | ⟨a, b, rfl, rfl, h5⟩
  · rw [Bool.xor_true] at h5
    exact .inl ⟨p, q, pyM_dp g rx h1, pyM_dp g ry h2, h3, h4, k.ok _ _ H B μ Ext.rfl' g (.bl _) h5⟩
  · rw [Bool.xor_true] at h5
    exact .inr ⟨a, b, rx.str_inv, ry.str_inv, k.ok _ _ H B μ Ext.rfl' g (.bl _) h5⟩
/-- an item by its place -/
def rdIx : D2 := fun d e μ Q => match e with
  | .int i => ∃ ds, seqOf μ d = some ds ∧ ∃ x, atI ds i = some x ∧ Q x μ
  | _ => False
theorem atI_R {K : PySem.W.Frag} {B : Hp} {xs : List V} {ds : List D} {i : Int} {d : D} (r : RpL K B xs ds) (h : atI ds i = some d) : ∃ v, atI xs i = some v ∧ Rp K B v d := by
  unfold atI at h ⊢
  rw [r.length]
  cases e : ixN ds.length i with
  | none => rw [e] at h; cases h
  | some j =>
    rw [e] at h
    exact r.get h
theorem od_ix {K : PySem.W.Frag} : OpD K (rIx K) rdIx := by
  intro B H μ x y d e QD Q g rx ry q k
  unfold rdIx at q
  split at q
  case h_2 => exact q.elim
  rename_i i
  obtain ⟨ds, h1, z, h3, h4⟩ := q
  obtain ⟨a, xs, rfl, hs, rl⟩ := seqV g rx h1
  obtain ⟨v, hv, rv⟩ := atI_R rl h3
  rcases hs with hs | hs
  · exact .inl ⟨a, xs, i, v, rfl, ry.int_inv, hs, hv, k.ok _ _ H B μ Ext.rfl' g rv h4⟩
  · exact .inr (.inl ⟨a, xs, i, v, rfl, ry.int_inv, hs, hv, k.ok _ _ H B μ Ext.rfl' g rv h4⟩)
/-- is None, is not None -/
def D.isN : D → Bool
  | .non => true
  | _ => false
def dIsN (s : Bool) (da : DE) : DE := fun ρ μ Q E => da ρ μ (fun d μ1 => Q (.bl (d.isN ^^ s)) μ1) E
theorem Rp.isN {K : PySem.W.Frag} {B : Hp} {v : V} {d : D} (r : Rp K B v d) : decide (v = .non) = d.isN := by
  cases r <;> first | rfl | (simp [D.isN])
theorem re_isN {W : WX} {a : Expr} {da : DE} {j pos pos'} (ha : RE X W a da) : RE X W (.Compare a [.Is] [.Constant .none j pos'] pos) (dIsN false da) :=
  ⟨PE.imp (pe_cmp (pc_isN ha.pe) rfl) fun σ H Q ⟨B, ρ, μ, QD, QE, g, s, q, k, x⟩ => ⟨B, ρ, μ, _, QE, g, s, q, ⟨fun v d H1 B1 μ1 e1 g1 r1 q1 => by
    rw [r1.isN]
    rw [Bool.xor_false] at q1
    exact k.ok _ _ H1 B1 μ1 e1 g1 (.bl _) q1⟩, x⟩⟩
theorem re_notN {W : WX} {a : Expr} {da : DE} {j pos pos'} (ha : RE X W a da) : RE X W (.Compare a [.IsNot] [.Constant .none j pos'] pos) (dIsN true da) :=
  ⟨PE.imp (pe_cmp (pc_notN ha.pe) rfl) fun σ H Q ⟨B, ρ, μ, QD, QE, g, s, q, k, x⟩ => ⟨B, ρ, μ, _, QE, g, s, q, ⟨fun v d H1 B1 μ1 e1 g1 r1 q1 => by
    rw [r1.isN]
    rw [Bool.xor_true] at q1
    exact k.ok _ _ H1 B1 μ1 e1 g1 (.bl _) q1⟩, x⟩⟩
end
end DL

/-! The data layer, 3: slices, arguments, displays, calls. -/
namespace HT
open PySem PySem.Calls PyProof.Rows
section
variable {prog : Program} {w : World} {A : Around} {E : Value → Shared → Prop} {s : Shared}
theorem adjust_rev (n : Nat) : Builtin.Slice.sliceAdjust none none (-1) (n : Int) = ((n : Int) - 1, -1) := by
  unfold Builtin.Slice.sliceAdjust
  simp
theorem places_rev (n : Nat) : Builtin.Slice.slicePlaces ((n : Int) - 1) (-1) (-1) = n := by
  unfold Builtin.Slice.slicePlaces
  simp
  try omega
theorem fm_congr {α β : Type} {f g : α → Option β} : ∀ {l : List α}, (∀ m ∈ l, f m = g m) → l.filterMap f = l.filterMap g
  | [], _ => rfl
  | a :: l, h => by
    rw [List.filterMap_cons, List.filterMap_cons, h a (List.mem_cons_self ..), fm_congr fun m hm => h m (List.mem_cons_of_mem _ hm)]
theorem pick_rev (xs : Array Value) : ((List.range xs.size).filterMap fun (m : Nat) => xs[(((xs.size : Int) - 1) + (m : Int) * (-1)).toNat]?).toArray = xs.toList.reverse.toArray := by
  have e : ∀ m ∈ List.range xs.size, xs[(((xs.size : Int) - 1) + (m : Int) * (-1)).toNat]? = xs[xs.size - 1 - m]? := fun m hm => by
    have := List.mem_range.mp hm
    have q : (((xs.size : Int) - 1) + (m : Int) * (-1)).toNat = xs.size - 1 - m := by omega
    rw [q]
  rw [fm_congr e]
  have h2 : (fun m : Nat => xs[xs.size - 1 - m]?) = (xs[·]?) ∘ (fun m => xs.size - 1 - m) := rfl
  rw [h2, ← List.filterMap_map, PySem.W.krv_range, List.filterMap_reverse, PySem.W.krv_all]
theorem getItem_tuple_rev {t sl : Addr} {items : Array Value} {vs : Value} {Q : Value → Shared → Prop} (ht : IsTup s.heap t items) (hs : s.heap.IsSliceOf sl .none .none vs) (ps : IsPart vs (some (-1)))
    (h : Q (.ref s.heap.objs.size) { s with heap := s.heap.push { cls := .type "tuple", data := .seq items.toList.reverse.toArray } })
    (hsz : items.size ≤ sizeLine) : wpAny (model prog w) A (getItem (.ref t) (.ref sl)) Q E s := by
  have htake : sizeOk (.seq items.toList.reverse.toArray) := by
    show items.toList.reverse.toArray.size ≤ sizeLine
    rw [List.size_toArray, List.length_reverse, Array.length_toList]
    omega
  obtain ⟨os, hos, hcs, hds⟩ := id hs
  have hTs : s.TypeIs (.ref sl) "slice" := ⟨os, hos, hcs⟩
  unfold getItem
  try with_reducible refine wpAny_holding ?_
  first | refine wpAny_bind (wpAny_pure ?_) | skip
  refine wpAny_bind (wpAny_sequenceKey ht.typeIs (by decide) ?_)
  refine wpAny_bind (wpAny_callSpecial?_slot (name := Str.ofString "__getitem__") ht.typeIs PyProof.Rows.slot_tuple_getitem
    (wpAny_call_entry PyProof.Rows.slot_tuple_getitem ht.typeIs entry_tuple_getitem ?_ (args_tuple_getitem _ _)))
  show wpAny _ _ (Builtin.Tuple.tupleItemsOf (.ref t) >>= _) _ _ s
  refine wpAny_bind (tupleItemsOf_ ht ?_)
  refine wpAny_bind (wpAny_typeOf hTs ?_)
  rw [if_pos (by decide)]
  have app : ∀ (Q' : Int × Int × Nat → Shared → Prop), Q' ((items.size : Int) - 1, -1, items.size) s → wpAny (model prog w) (A.in1) (Builtin.Slice.sliceApplied (.ref sl) (pure (items.size : Int))) Q' E s ∧ wpAny (model prog w) A (Builtin.Slice.sliceApplied (.ref sl) (pure (items.size : Int))) Q' E s := fun Q' q => by
    constructor <;>
    · unfold Builtin.Slice.sliceApplied Builtin.Slice.sliceFields
      refine wpAny_bind (wpAny_bind (wpAny_field hos hds (x := .none) rfl (wpAny_bind (wpAny_field hos hds (x := .none) rfl (wpAny_bind (wpAny_field hos hds (x := vs) rfl (wpAny_pure ?_)))))))
      refine wpAny_bind (slicePart_ ps ?_)
      show wpAny _ _ (if ((-1 : Int) == 0) = true then _ else _) _ _ s
      rw [if_neg (by decide)]
      refine wpAny_bind (slicePart_none (wpAny_bind (slicePart_none (wpAny_bind (wpAny_pure ?_)))))
      show wpAny _ _ (match Builtin.Slice.sliceAdjust none none (-1) (items.size : Int) with | (lo, hi) => pure (lo, (-1 : Int), Builtin.Slice.slicePlaces lo hi (-1))) _ _ s
      rw [adjust_rev]
      show wpAny _ _ (pure ((items.size : Int) - 1, (-1 : Int), Builtin.Slice.slicePlaces ((items.size : Int) - 1) (-1) (-1))) _ _ s
      rw [places_rev]
      exact wpAny_pure q
  refine wpAny_bind ?_
  first | refine (app _ ?_).1 | refine (app _ ?_).2 | skip
  have hno : ¬ ((((items.size : Int) - 1) == 0 && (-1 : Int) == 1 && items.size == items.size) = true) := by
    intro q
    rw [Bool.and_eq_true, Bool.and_eq_true] at q
    exact absurd q.1.2 (by decide)
  show wpAny _ _ (if (((items.size : Int) - 1) == 0 && (-1 : Int) == 1 && items.size == items.size) = true then _ else _) _ _ s
  rw [if_neg hno, pick_rev]
  first
    | exact wpAny_bind (m := Builtin.Tuple.tupleExact _) (wpAny_newObj_type (wpAny_pure ⟨_, rfl, wpAny_pure h⟩) htake)
    | exact wpAny_bind (m := Builtin.Tuple.tupleExact _) (wpAny_newObj_type (wpAny_bind (wpAny_pure (wpAny_pure ⟨_, rfl, wpAny_pure h⟩))) htake)
    | exact wpAny_bind (wpAny_bind (m := Builtin.Tuple.tupleExact _) (wpAny_newObj_type (wpAny_pure (wpAny_pure ⟨_, rfl, wpAny_pure h⟩)) htake))
    | exact wpAny_bind (wpAny_bind (m := Builtin.Tuple.tupleExact _) (wpAny_newObj_type (wpAny_pure ⟨_, rfl, wpAny_pure h⟩) htake))
end
end HT
namespace DL
open PySem PySem.Spec PyProof.Rows L2
section
variable {X : Cx} {W : WX} {e a b c : Expr} {es : List Expr} {da db dc : DE} {dt du : DT} {dr : DA} {pos : Pos}
/-! ### x[::-1], a list or a tuple -/
def tRevA (K : PySem.W.Frag) (te : TE) : TE := fun σ H Q => te σ H fun x H1 => ∃ a xs, x = .ref a ∧ ((SqL K H1 a xs ∧ ∀ p, H1 p = none → Q (.ref p) (upd H1 p (.lst xs.reverse))) ∨ (SqT K H1 a xs ∧ ∀ p, H1 p = none → Q (.ref p) (upd H1 p (.tup xs.reverse))))
theorem pe_revA {e : Expr} {te : TE} {k : Nat} {p1 p2 p3 pos : Pos} (he : PE X e te) : PE X (.Subscript e (.Slice none none (some (.UnaryOp .USub (.Constant (.int 1) k p1) p2)) p3) pos) (tRevA X.K te) := by
  refine ⟨fun pins s σ H Q I h => ?_⟩
  refine Subscript_ (thn (he.run pins s σ H _ I h) fun v s1 ⟨x, H1, I1, r1, q1⟩ => ?_)
  obtain ⟨a, xs, ex, q⟩ := q1
  subst ex
  cases r1
  have hst : PO X (some (.UnaryOp .USub (.Constant (.int 1) k p1) p2)) (tPart (tUn (rU fun i => .int (-i)) (tC (.int 1)))) := po_some (pe_un un_neg pe_int)
  refine wpAny_Slice (thn (po_none.run pins s1 σ H1 (fun o H2 => o = none ∧ H2 = H1) I1 ⟨rfl, rfl⟩) fun vl s2 ⟨l, H2, I2, pl, el, e2⟩ => ?_)
  subst el e2
  refine thn (po_none.run pins s2 σ H2 (fun o H3 => o = none ∧ H3 = H2) I2 ⟨rfl, rfl⟩) fun vu s3 ⟨u, H3, I3, pu, eu, e3⟩ => ?_
  subst eu e3
  refine thn (hst.run pins s3 σ H3 (fun o H4 => o = some (-1) ∧ H4 = H3) I3 ⟨1, rfl, -1, rfl, rfl, rfl⟩) fun vs s4 ⟨o, H4, I4, ps, eo, e4⟩ => ?_
  subst eo e4
  have I5 : Inv X pins σ H4 { s4 with heap := s4.heap.push { cls := .type "slice", data := .fields #[vl, vu, vs] } } := I4.kept (t' := s4.toks) fun b ob q => Heap.get?_push_of_some _ q
  show wpAny (model X.prog X.w) X.A (subscriptTail e (.Slice none none (some (.UnaryOp .USub (.Constant (.int 1) k p1) p2)) p3) (.ref a) (.ref s4.heap.objs.size)) (EP X pins σ Q) X.xe { s4 with heap := s4.heap.push { cls := .type "slice", data := .fields #[vl, vu, vs] } }
  cases pl
  cases pu
  rcases q with ⟨hx, q⟩ | ⟨hx, q⟩
  · obtain ⟨its, r, ht, hz⟩ := I5.list hx
    have hlen := r.length
    refine tail_any (ops := [.ref a, .ref s4.heap.objs.size]) ht.isList.typeIs (PySem.slot_list_getitem.lookup) ?_ (by with_unfolding_all rfl)
    refine wpAny_getItem_list_slice ht.isList (Heap.IsSliceOf.new _ _ _ vs) .none .none ps (by decide) ?_ (by rw [List.size_toArray]; omega)
    rw [PySem.W.krv_pick]
    refine ⟨.ref _, _, I5.laid (t' := s4.toks) (o := .lst xs.reverse) (fun b ob q => Heap.get?_push_of_some _ q) (Nat.le_refl _) ?_, rfl, q _ (I5.hok.fresh (Nat.le_refl _))⟩
    exact ⟨by rw [List.length_reverse]; exact hz, _, 0, r.reverse, Heap.get?_push_size _ rfl⟩
  · obtain ⟨its, r, ht, hz⟩ := I5.tuple hx
    have hlen := r.length
    refine tail_any (ops := [.ref a, .ref s4.heap.objs.size]) ht.typeIs (PyProof.Rows.slot_tuple_getitem.lookup) ?_ (by with_unfolding_all rfl)
    refine HT.getItem_tuple_rev ht (Heap.IsSliceOf.new _ _ _ vs) ps ?_ (by rw [List.size_toArray]; omega)
    refine ⟨.ref _, _, I5.laid (t' := s4.toks) (o := .tup xs.reverse) (fun b ob q => Heap.get?_push_of_some _ q) (Nat.le_refl _) ?_, rfl, q _ (I5.hok.fresh (Nat.le_refl _))⟩
    exact ⟨by rw [List.length_reverse]; exact hz, _, r.reverse, IsTup.new _ _⟩
def dRev (da : DE) : DE := fun ρ μ Q E => da ρ μ (fun d μ1 => match d with
  | .tup ds => Q (.tup ds.reverse) μ1
  | d => ∃ ds, listOf μ1 d = some ds ∧ Q (.lst ds.reverse) μ1) E
theorem re_rev {k : Nat} {p1 p2 p3 : Pos} (ha : RE X W a da) : RE X W (.Subscript a (.Slice none none (some (.UnaryOp .USub (.Constant (.int 1) k p1) p2)) p3) pos) (dRev da) :=
  ⟨PE.imp (pe_revA ha.pe) fun σ H Q ⟨B, ρ, μ, QD, QE, g, s, q, k, x⟩ => ⟨B, ρ, μ, _, QE, g, s, q, ⟨fun v d H1 B1 μ1 e1 g1 r1 q1 => by
    split at q1
    · obtain ⟨p, xs, rfl, h1, h2⟩ := tupV g1 r1
      exact ⟨p, xs, rfl, .inr ⟨h1, fun q' hq' => k.ok _ _ _ _ μ1 (e1.trans (Ext.new (g1.freeB hq'))) (g1.still hq') (.tup (Or.inl (Or.inl upd_same)) (h2.reverse.mono (Ext.new (g1.freeB hq')))) q1⟩⟩
    · obtain ⟨ds, hd, q1⟩ := q1
      obtain ⟨p, xs, rfl, h1, h2⟩ := listV g1 r1 hd
      exact ⟨p, xs, rfl, .inl ⟨.inl h1, fun q' hq' => k.ok _ _ _ _ μ1 (e1.trans (Ext.new (g1.freeB hq'))) (g1.still hq') (.lst (Or.inl upd_same) (h2.reverse.mono (Ext.new (g1.freeB hq')))) q1⟩⟩⟩, x⟩⟩
/-! ### x[lo:hi] -/
def cutD {α : Type} (xs : List α) (lo hi : Option Int) : List α := (xs.drop (HT.sIx xs.length 0 lo)).take (HT.sIx xs.length xs.length hi - HT.sIx xs.length 0 lo)
theorem RpL.cut {K : PySem.W.Frag} {B : Hp} {xs : List V} {ds : List D} (r : RpL K B xs ds) (lo hi : Option Int) : RpL K B (cutV xs lo hi) (cutD ds lo hi) := by
  unfold cutV cutD
  rw [r.length]
  exact (r.drop _).take _
def upO (K : PySem.W.Frag) (W : WX) (dO : Rho → Mu → (Option Int → Mu → Prop) → XQ → Prop) : TO := fun σ H Q => ∃ B ρ μ QD QE, Good K B H μ ∧ SlR K B σ ρ ∧ dO ρ μ QD QE ∧ (∀ o H2 B2 μ2, Ext B B2 → Good K B2 H2 μ2 → QD o μ2 → Q o H2) ∧ KtX K W B σ QE
abbrev DO := Rho → Mu → (Option Int → Mu → Prop) → XQ → Prop
structure RO (X : Cx) (W : WX) (e : Option Expr) (dO : DO) : Prop where
  po : PO X e (upO X.K W dO)
def oNone : DO := fun _ μ Q _ => Q none μ
def oSome (da : DE) : DO := fun ρ μ Q E => da ρ μ (fun d μ1 => ∃ i, d = .int i ∧ Q (some i) μ1) E
theorem PO.imp {e : Option Expr} {t t' : TO} (h : PO X e t) (i : ∀ σ H Q, t' σ H Q → t σ H Q) : PO X e t' := ⟨fun pins s σ H Q I q => h.run pins s σ H Q I (i σ H Q q)⟩
theorem ro_none : RO X W none oNone := ⟨PO.imp po_none fun σ H Q ⟨B, ρ, μ, QD, QE, g, s, q, k, x⟩ => k none H B μ Ext.rfl' g q⟩
theorem ro_some (ha : RE X W a da) : RO X W (some a) (oSome da) := ⟨PO.imp (po_some ha.pe) fun σ H Q ⟨B, ρ, μ, QD, QE, g, s, q, k, x⟩ => ⟨B, ρ, μ, _, QE, g, s, q, ⟨fun v d H1 B1 μ1 e1 g1 r1 q1 => by
  obtain ⟨i, rfl, q1⟩ := q1
  exact ⟨i, r1.int_inv, k (some i) H1 B1 μ1 e1 g1 q1⟩⟩, x⟩⟩
def dSlice (da : DE) (ol oh : DO) : DE := fun ρ μ Q E => da ρ μ (fun d μ1 => ol ρ μ1 (fun lo μ2 => oh ρ μ2 (fun hi μ3 => match d with
  | .tup ds => Q (.tup (cutD ds lo hi)) μ3
  | d => ∃ ds, listOf μ3 d = some ds ∧ Q (.lst (cutD ds lo hi)) μ3) E) E) E
theorem re_slice {lo hi : Option Expr} {ol oh : DO} {p2 : Pos} (ha : RE X W a da) (hl : RO X W lo ol) (hh : RO X W hi oh) : RE X W (.Subscript a (.Slice lo hi none p2) pos) (dSlice da ol oh) :=
  ⟨PE.imp (pe_slice (sl_tupA.or sl_list) ha.pe hl.po hh.po) fun σ H Q ⟨B, ρ, μ, QD, QE, g, s, q, k, x⟩ => by
    refine ⟨B, ρ, μ, _, QE, g, s, q, ⟨fun v d H1 B1 μ1 e1 g1 r1 q1 => ?_⟩, x⟩
    refine ⟨B1, ρ, μ1, _, QE, g1, s.mono e1, q1, fun o H2 B2 μ2 e2 g2 q2 => ?_, x.mono e1⟩
    refine ⟨B2, ρ, μ2, _, QE, g2, s.mono (e1.trans e2), q2, fun o' H3 B3 μ3 e3 g3 q3 => ?_, x.mono (e1.trans e2)⟩
    have r3 := (r1.mono e2).mono e3
    have e03 := (e1.trans e2).trans e3
    split at q3
    · have r3' := r3
      obtain ⟨p, xs, rfl, h1, h2⟩ := tupV g3 r3
      refine .inl ⟨p, xs, rfl, h1, fun hw => ?_, fun _ q' hq' => k.ok _ _ _ _ μ3 (e03.trans (Ext.new (g3.freeB hq'))) (g3.still hq') (.tup (Or.inl (Or.inl upd_same)) ((h2.cut _ _).mono (Ext.new (g3.freeB hq')))) q3⟩
      rename_i ds
      have e0 : cutD ds o o' = ds := by
        rw [h2.length] at hw
        unfold cutD
        rw [hw.1, hw.2, List.drop_zero, Nat.sub_zero, List.take_length]
      rw [e0] at q3
      exact k.ok _ _ H3 B3 μ3 e03 g3 r3' q3
    · obtain ⟨ds, hd, q3⟩ := q3
      obtain ⟨p, xs, rfl, h1, h2⟩ := listV g3 r3 hd
      exact .inr ⟨p, xs, rfl, .inl h1, fun q' hq' => k.ok _ _ _ _ μ3 (e03.trans (Ext.new (g3.freeB hq'))) (g3.still hq') (.lst (Or.inl upd_same) ((h2.cut _ _).mono (Ext.new (g3.freeB hq')))) q3⟩⟩

/-! ### arguments, displays -/
def dNil : DA := fun _ μ Q _ => Q [] μ
def dCons (da : DE) (dr : DA) : DA := fun ρ μ Q E => da ρ μ (fun d μ1 => dr ρ μ1 (fun ds μ2 => Q (d :: ds) μ2) E) E
theorem ra_nil : RA X W [] dNil := ⟨PA.imp pa_nil fun σ H Q ⟨B, ρ, μ, QD, QE, g, s, q, k, x⟩ => k [] [] H B μ Ext.rfl' g .nil q⟩
theorem ra_cons (ha : RE X W e da) (hr : RA X W es dr) (hs : starEach (e :: es) X.env = (false, eval e X.env) :: starEach es X.env := by rfl) : RA X W (e :: es) (dCons da dr) :=
  ⟨PA.imp (pa_cons ha.pe hr.pa hs) fun σ H Q ⟨B, ρ, μ, QD, QE, g, s, q, k, x⟩ => by
    refine ⟨B, ρ, μ, _, QE, g, s, q, ⟨fun v d H1 B1 μ1 e1 g1 r1 q1 => ?_⟩, x⟩
    refine ⟨B1, ρ, μ1, _, QE, g1, s.mono e1, q1, fun vs ds H2 B2 μ2 e2 g2 r2 q2 => ?_, x.mono e1⟩
    exact k _ _ H2 B2 μ2 (e1.trans e2) g2 (.cons (r1.mono e2) r2) q2⟩
def dTup (dr : DA) : DE := fun ρ μ Q E => dr ρ μ (fun ds μ1 => ds.length ≤ sizeLine ∧ Q (.tup ds) μ1) E
def dLst (dr : DA) : DE := fun ρ μ Q E => dr ρ μ (fun ds μ1 => ds.length ≤ sizeLine ∧ Q (.lst ds) μ1) E
def dLstM (dr : DA) : DE := fun ρ μ Q E => dr ρ μ (fun ds μ1 => ds.length ≤ sizeLine ∧ ∀ p, μ1 p = none → Q (.ref p) (mset μ1 p (.lst ds))) E
theorem re_tup {x1} (h : RA X W es dr) : RE X W (.Tuple es x1 pos) (dTup dr) :=
  ⟨PE.imp (pe_tup h.pa) fun σ H Q ⟨B, ρ, μ, QD, QE, g, s, q, k, x⟩ => ⟨B, ρ, μ, _, QE, g, s, q, fun vs ds H1 B1 μ1 e1 g1 r1 q1 =>
    ⟨by rw [r1.length]; exact q1.1, fun q' hq' => k.ok _ _ _ _ μ1 (e1.trans (Ext.new (g1.freeB hq'))) (g1.still hq') (.tup (Or.inl (Or.inl upd_same)) (r1.mono (Ext.new (g1.freeB hq')))) q1.2⟩, x⟩⟩
theorem re_lst (h : RA X W es dr) : RE X W (.List es pos) (dLst dr) :=
  ⟨PE.imp (pe_lst h.pa) fun σ H Q ⟨B, ρ, μ, QD, QE, g, s, q, k, x⟩ => ⟨B, ρ, μ, _, QE, g, s, q, fun vs ds H1 B1 μ1 e1 g1 r1 q1 =>
    ⟨by rw [r1.length]; exact q1.1, fun q' hq' => k.ok _ _ _ _ μ1 (e1.trans (Ext.new (g1.freeB hq'))) (g1.still hq') (.lst (Or.inl upd_same) (r1.mono (Ext.new (g1.freeB hq')))) q1.2⟩, x⟩⟩
theorem re_lstM (h : RA X W es dr) : RE X W (.List es pos) (dLstM dr) :=
  ⟨PE.imp (pe_lst h.pa) fun σ H Q ⟨B, ρ, μ, QD, QE, g, s, q, k, x⟩ => ⟨B, ρ, μ, _, QE, g, s, q, fun vs ds H1 B1 μ1 e1 g1 r1 q1 =>
    ⟨by rw [r1.length]; exact q1.1, fun q' hq' => k.ok _ _ _ _ _ e1 (g1.fresh (m := .lst ds) hq' ⟨_, upd_same, r1⟩) (.ref _) (q1.2 q' (g1.free hq'))⟩, x⟩⟩

/-! ### calls of what is built in -/
abbrev CD := List D → Mu → DQ → Prop
def CaD (K : PySem.W.Frag) (r : List V → Hp → VK → Prop) (rd : CD) : Prop := ∀ B H μ xs ds QD Q, Good K B H μ → RpL K B xs ds → rd ds μ QD → Kt K B Q QD → r xs H Q
def dCB (rd : CD) (dr : DA) : DE := fun ρ μ Q E => dr ρ μ (fun ds μ1 => rd ds μ1 Q) E
theorem up_cb {K : PySem.W.Frag} {r : List V → Hp → VK → Prop} {rd : CD} (h : CaD K r rd) {σ : L2.St} {H : Hp} {Q : VK} (q : upE K W (dCB rd dr) σ H Q) : tCB r (upA K W dr) σ H Q := by
  obtain ⟨B, ρ, μ, QD, QE, g, s, q, k, x⟩ := q
  exact ⟨B, ρ, μ, _, QE, g, s, q, fun vs ds H1 B1 μ1 e1 g1 r1 q1 => h B1 H1 μ1 vs ds QD Q g1 r1 q1 (k.mono e1), x⟩
theorem re_cb {x : Str} {id : String} {r : List V → Hp → VK → Prop} {rd : CD} {p : Pos} (hc : CallR X (.builtin id) r) (h : CaD X.K r rd) (hg : Gl X x) (hm : X.mg x = none) (hv : bootBuiltins x = some (.builtin id)) (ha : RA X W (e :: es) dr) (hn : x ≠ "__name__" := by decide) (hdb : (x == ("__debug__" : Str)) = false := by decide)
    (he : starEach (e :: es) X.env = (false, eval e X.env) :: starEach es X.env := by rfl) (hpl : (backTo pos (starEach es X.env)).any (·.1) = false := by rfl) :
    RE X W (.Call (.Name x p) (e :: es) [] pos) (dCB rd dr) := ⟨PE.imp (pe_callB hc hg hm hv ha.pa hn hdb he hpl) fun _ _ _ q => up_cb h q⟩
theorem re_ct {x : Str} {T : String} {r : List V → Hp → VK → Prop} {rd : CD} {p : Pos} (hc : CallR X (.type T) r) (h : CaD X.K r rd) (hg : Gl X x) (hm : X.mg x = none) (hv : bootBuiltins x = some (.type T)) (ha : RA X W (e :: es) dr) (hn : x ≠ "__name__" := by decide) (hdb : (x == ("__debug__" : Str)) = false := by decide)
    (he : starEach (e :: es) X.env = (false, eval e X.env) :: starEach es X.env := by rfl) (hpl : (backTo pos (starEach es X.env)).any (·.1) = false := by rfl) :
    RE X W (.Call (.Name x p) (e :: es) [] pos) (dCB rd dr) := ⟨PE.imp (pe_callTy hc hg hm hv ha.pa hn hdb he hpl) fun _ _ _ q => up_cb h q⟩
/-- len -/
def cdLen : CD := fun ds μ Q => match ds with
  | [.str z] => z.length ≤ sizeLine ∧ Q (.int z.length) μ
  | [d] => ∃ xs, seqOf μ d = some xs ∧ Q (.int xs.length) μ
  | _ => False
theorem RpL.one_inv {K : PySem.W.Frag} {B : Hp} {xs : List V} {d : D} (r : RpL K B xs [d]) : ∃ v, xs = [v] ∧ Rp K B v d := by
  cases r with
  | cons h r => cases r; exact ⟨_, rfl, h⟩
theorem RpL.two_inv {K : PySem.W.Frag} {B : Hp} {xs : List V} {d e : D} (r : RpL K B xs [d, e]) : ∃ v w, xs = [v, w] ∧ Rp K B v d ∧ Rp K B w e := by
  cases r with
  | cons h r =>
    obtain ⟨w, rfl, h2⟩ := r.one_inv
    exact ⟨_, _, rfl, h, h2⟩
theorem ca_len {K : PySem.W.Frag} : CaD K (fun xs H Q => ∃ x n, xs = [x] ∧ LenV K x H n ∧ Q (.int n) H) cdLen := by
  intro B H μ xs ds QD Q g r q k
  unfold cdLen at q
  split at q
  · obtain ⟨v, rfl, r1⟩ := r.one_inv
    obtain rfl := r1.str_inv
    exact ⟨_, _, rfl, ⟨q.1, rfl⟩, k.ok _ _ H B μ Ext.rfl' g (.int _) q.2⟩
  · obtain ⟨v, rfl, r1⟩ := r.one_inv
    obtain ⟨ys, h1, q⟩ := q
    obtain ⟨a, zs, rfl, hs, rl⟩ := seqV g r1 h1
    refine ⟨_, zs.length, rfl, ?_, ?_⟩
    · rcases hs with hs | hs
      · exact .inl ⟨zs, hs, rfl⟩
      · exact .inr ⟨zs, hs, rfl⟩
    · rw [rl.length]
      exact k.ok _ _ H B μ Ext.rfl' g (.int _) q
  · exact q.elim
/-- abs, int, bool -/
def cdAbs : CD := fun ds μ Q => match ds with
  | [.int i] => Q (.int (if i < 0 then -i else i)) μ
  | _ => False
theorem ca_abs {K : PySem.W.Frag} : CaD K (fun xs H Q => ∃ i, xs = [.int i] ∧ Q (.int (if i < 0 then -i else i)) H) cdAbs := by
  intro B H μ xs ds QD Q g r q k
  unfold cdAbs at q
  split at q
  · obtain ⟨v, rfl, r1⟩ := r.one_inv
    obtain rfl := r1.int_inv
    exact ⟨_, rfl, k.ok _ _ H B μ Ext.rfl' g (.int _) q⟩
  · exact q.elim
def cdInt : CD := fun ds μ Q => match ds with
  | [.int i] => Q (.int i) μ
  | [.bl k] => Q (.int (if k then 1 else 0)) μ
  | _ => False
theorem ca_int {K : PySem.W.Frag} : CaD K (fun xs H Q => (∃ i, xs = [.int i] ∧ Q (.int i) H) ∨ ∃ k, xs = [.bl k] ∧ Q (.int (if k then 1 else 0)) H) cdInt := by
  intro B H μ xs ds QD Q g r q k
  unfold cdInt at q
  split at q
  · obtain ⟨v, rfl, r1⟩ := r.one_inv
    obtain rfl := r1.int_inv
    exact .inl ⟨_, rfl, k.ok _ _ H B μ Ext.rfl' g (.int _) q⟩
  · obtain ⟨v, rfl, r1⟩ := r.one_inv
    obtain rfl := r1.bl_inv
    exact .inr ⟨_, rfl, k.ok _ _ H B μ Ext.rfl' g (.int _) q⟩
  · exact q.elim
/-- min, max of two numbers -/
def cdMin2 : CD := fun ds μ Q => match ds with
  | [.int i, .int j] => Q (.int (if j < i then j else i)) μ
  | _ => False
theorem ca_min2 {K : PySem.W.Frag} : CaD K (fun xs H Q => ∃ i j, xs = [.int i, .int j] ∧ Q (.int (if j < i then j else i)) H) cdMin2 := by
  intro B H μ xs ds QD Q g r q k
  unfold cdMin2 at q
  split at q
  · obtain ⟨v, w, rfl, r1, r2⟩ := r.two_inv
    obtain rfl := r1.int_inv
    obtain rfl := r2.int_inv
    exact ⟨_, _, rfl, k.ok _ _ H B μ Ext.rfl' g (.int _) q⟩
  · exact q.elim
def cdMax2 : CD := fun ds μ Q => match ds with
  | [.int i, .int j] => Q (.int (if j > i then j else i)) μ
  | _ => False
theorem ca_max2 {K : PySem.W.Frag} : CaD K (fun xs H Q => ∃ i j, xs = [.int i, .int j] ∧ Q (.int (if j > i then j else i)) H) cdMax2 := by
  intro B H μ xs ds QD Q g r q k
  unfold cdMax2 at q
  split at q
  · obtain ⟨v, w, rfl, r1, r2⟩ := r.two_inv
    obtain rfl := r1.int_inv
    obtain rfl := r2.int_inv
    exact ⟨_, _, rfl, k.ok _ _ H B μ Ext.rfl' g (.int _) q⟩
  · exact q.elim
/-- tuple(x), list(x) of a list or a tuple -/
def cdTup : CD := fun ds μ Q => match ds with
  | [d] => ∃ xs, seqOf μ d = some xs ∧ Q (.tup xs) μ
  | _ => False
theorem ca_tup {K : PySem.W.Frag} : CaD K (fun xs H Q => ∃ p ys, xs = [.ref p] ∧ ((SqL K H p ys ∧ ∀ l, H l = none → Q (.ref l) (upd H l (.tup ys))) ∨ (SqT K H p ys ∧ Q (.ref p) H))) cdTup := by
  intro B H μ xs ds QD Q g r q k
  unfold cdTup at q
  split at q
  · obtain ⟨v, rfl, r1⟩ := r.one_inv
    obtain ⟨ys, h1, q⟩ := q
    rcases seqOf_inv h1 with rfl | rfl | h1
    · have r' := r1
      obtain ⟨a, zs, rfl, hs, rl⟩ := tupV g r1
      exact ⟨_, _, rfl, .inr ⟨hs, k.ok _ _ H B μ Ext.rfl' g r' q⟩⟩
    · obtain ⟨a, zs, rfl, hs, rl⟩ := r1.arg_inv
      exact ⟨_, _, rfl, .inl ⟨ext_l g.ex hs, fun q' hq' => k.ok _ _ _ _ μ (Ext.new (g.freeB hq')) (g.still hq') (.tup (Or.inl (Or.inl upd_same)) (rl.mono (Ext.new (g.freeB hq')))) q⟩⟩
    · obtain ⟨a, zs, rfl, hs, rl⟩ := listV g r1 h1
      exact ⟨_, _, rfl, .inl ⟨.inl hs, fun q' hq' => k.ok _ _ _ _ μ (Ext.new (g.freeB hq')) (g.still hq') (.tup (Or.inl (Or.inl upd_same)) (rl.mono (Ext.new (g.freeB hq')))) q⟩⟩
  · exact q.elim
def cdList : CD := fun ds μ Q => match ds with
  | [d] => ∃ xs, seqOf μ d = some xs ∧ Q (.lst xs) μ
  | _ => False
def cdListM : CD := fun ds μ Q => match ds with
  | [d] => ∃ xs, seqOf μ d = some xs ∧ ∀ p, μ p = none → Q (.ref p) (mset μ p (.lst xs))
  | _ => False
abbrev rListOf (K : PySem.W.Frag) : List V → Hp → VK → Prop := fun xs H Q => ∃ p ys, xs = [.ref p] ∧ (SqL K H p ys ∨ SqT K H p ys) ∧ ∀ l, H l = none → Q (.ref l) (upd H l (.lst ys))
theorem sqOr {K : PySem.W.Frag} {H : Hp} {a : Addr} {zs : List V} (h : Rd H a (.lst zs) ∨ SqT K H a zs) : SqL K H a zs ∨ SqT K H a zs := h.elim (fun z => .inl (.inl z)) .inr
theorem seqV' {K : PySem.W.Frag} {B H : Hp} {μ : Mu} {v : V} {d : D} {ds : List D} (g : Good K B H μ) (r : Rp K B v d) (h : seqOf μ d = some ds) : ∃ a xs, v = .ref a ∧ (SqL K H a xs ∨ SqT K H a xs) ∧ RpL K B xs ds := seqV g r h
theorem ca_list {K : PySem.W.Frag} : CaD K (rListOf K) cdList := by
  intro B H μ xs ds QD Q g r q k
  unfold cdList at q
  split at q
  · obtain ⟨v, rfl, r1⟩ := r.one_inv
    obtain ⟨ys, h1, q⟩ := q
    obtain ⟨a, zs, rfl, hs, rl⟩ := seqV' g r1 h1
    exact ⟨_, _, rfl, hs, fun q' hq' => k.ok _ _ _ _ μ (Ext.new (g.freeB hq')) (g.still hq') (.lst (Or.inl upd_same) (rl.mono (Ext.new (g.freeB hq')))) q⟩
  · exact q.elim
theorem ca_listM {K : PySem.W.Frag} : CaD K (rListOf K) cdListM := by
  intro B H μ xs ds QD Q g r q k
  unfold cdListM at q
  split at q
  · obtain ⟨v, rfl, r1⟩ := r.one_inv
    obtain ⟨ys, h1, q⟩ := q
    obtain ⟨a, zs, rfl, hs, rl⟩ := seqV' g r1 h1
    exact ⟨_, _, rfl, hs, fun q' hq' => k.ok _ _ _ _ _ Ext.rfl' (g.fresh (m := .lst ys) hq' ⟨_, upd_same, rl⟩) (.ref _) (q q' (g.free hq'))⟩
  · exact q.elim
/-- all, any of a list of bools -/
def blsOf : List D → Option (List Bool)
  | [] => some []
  | .bl b :: ds => (blsOf ds).map (b :: ·)
  | _ => none
theorem bls_map : ∀ {ds : List D} {bs : List Bool}, blsOf ds = some bs → ds = bs.map .bl
  | [], bs, h => by cases h; rfl
  | .bl b :: ds, bs, h => by
    obtain ⟨cs, h1, rfl⟩ := Option.map_eq_some_iff.mp h
    rw [bls_map h1]
    rfl
  | .non :: _, _, h => by cases h
  | .int _ :: _, _, h => by cases h
  | .str _ :: _, _, h => by cases h
  | .lst _ :: _, _, h => by cases h
  | .tup _ :: _, _, h => by cases h
  | .arg _ :: _, _, h => by cases h
  | .ins _ _ :: _, _, h => by cases h
  | .ref _ :: _, _, h => by cases h
  | .ty _ :: _, _, h => by cases h
  | .cls _ :: _, _, h => by cases h
def cdAll : CD := fun ds μ Q => match ds with
  | [d] => ∃ xs bs, listOf μ d = some xs ∧ xs = List.map D.bl bs ∧ Q (.bl (bs.all id)) μ
  | _ => False
def cdAny : CD := fun ds μ Q => match ds with
  | [d] => ∃ xs bs, listOf μ d = some xs ∧ xs = List.map D.bl bs ∧ Q (.bl (bs.any id)) μ
  | _ => False
theorem ca_all {K : PySem.W.Frag} : CaD K (rAll K) cdAll := by
  intro B H μ xs ds QD Q g r q k
  unfold cdAll at q
  split at q
  · obtain ⟨v, rfl, r1⟩ := r.one_inv
    obtain ⟨ys, bs, h1, rfl, q⟩ := q
    obtain ⟨a, zs, rfl, hs, rl⟩ := listV g r1 h1
    obtain rfl := rl.bls
    exact ⟨_, _, rfl, .inl hs, k.ok _ _ H B μ Ext.rfl' g (.bl _) q⟩
  · exact q.elim
theorem ca_any {K : PySem.W.Frag} : CaD K (rAny K) cdAny := by
  intro B H μ xs ds QD Q g r q k
  unfold cdAny at q
  split at q
  · obtain ⟨v, rfl, r1⟩ := r.one_inv
    obtain ⟨ys, bs, h1, rfl, q⟩ := q
    obtain ⟨a, zs, rfl, hs, rl⟩ := listV g r1 h1
    obtain rfl := rl.bls
    exact ⟨_, _, rfl, .inl hs, k.ok _ _ H B μ Ext.rfl' g (.bl _) q⟩
  · exact q.elim
end
end DL

/-! The data layer, 4: calls of defs, methods, dicts, statements, loops, comprehensions. -/
namespace DL
open PySem PySem.Spec PyProof.Rows L2

/-! ### promises over data -/
abbrev SpD := List D → Mu → DQ → XQ → Prop
structure KtE (K : PySem.W.Frag) (B : Hp) (E : XK) (QE : XQ) : Prop where
  ex : ∀ cls dx x H2 B2 μ2, Ext B B2 → Good K B2 H2 μ2 → ExR K B2 cls dx x → QE x μ2 → E cls dx H2
theorem KtE.mono {K : PySem.W.Frag} {B B' : Hp} {E : XK} {QE : XQ} (k : KtE K B E QE) (e : Ext B B') : KtE K B' E QE := ⟨fun cls dx x H2 B2 μ2 a => k.ex cls dx x H2 B2 μ2 (e.trans a)⟩
def upSp (K : PySem.W.Frag) (sd : SpD) : Sp := fun vs H Q E => ∃ B ds μ QD QE, Good K B H μ ∧ RpL K B vs ds ∧ sd ds μ QD QE ∧ Kt K B Q QD ∧ KtE K B E QE
def startD (N : List Str) (ds : List D) : Rho := ds.map some ++ List.replicate (N.length - ds.length) none
theorem start_rel {K : PySem.W.Frag} {B : Hp} {N : List Str} {vs : List V} {ds : List D} (r : RpL K B vs ds) : SlR K B (L2.start N vs) (startD N ds) := by
  refine ⟨by unfold L2.start startD; simp [r.length], fun i d h => ?_⟩
  unfold startD at h
  unfold L2.start
  by_cases c : i < ds.length
  · rw [List.getElem?_append_left (by simpa using c), List.getElem?_map] at h
    rw [List.getElem?_append_left (by simpa [r.length] using c), List.getElem?_map]
    cases e : ds[i]? with
    | none => rw [e] at h; cases h
    | some y =>
      rw [e] at h
      simp only [Option.map_some, Option.some.injEq] at h
      subst h
      obtain ⟨u, h1, h2⟩ := r.get e
      exact ⟨u, by rw [h1]; rfl, h2⟩
  · rw [List.getElem?_append_right (by simpa using c)] at h
    rw [List.getElem?_replicate] at h
    split at h <;> cases h
/-- what a def hands back: what it knows less, a list of its own that will change no more -/
def fin (Q : DQ) : DQ := fun d μ => (∃ μ', (∀ a m, μ' a = some m → μ a = some m) ∧ Q d μ') ∨ ∃ a ds μ', d = .ref a ∧ μ a = some (.lst ds) ∧ (∀ b m, μ' b = some m → mdel μ a b = some m) ∧ Q (.lst ds) μ'
def finX (Q : XQ) : XQ := fun x μ => ∃ μ', (∀ a m, μ' a = some m → μ a = some m) ∧ Q x μ'
theorem fin_self {Q : DQ} {d : D} {μ : Mu} (h : Q d μ) : fin Q d μ := .inl ⟨μ, fun _ _ h => h, h⟩
theorem fin_less {Q : DQ} {d : D} {μ μ' : Mu} (l : ∀ a m, μ' a = some m → μ a = some m) (h : Q d μ') : fin Q d μ := .inl ⟨μ', l, h⟩
theorem Kt.fin {K : PySem.W.Frag} {B : Hp} {Q : VK} {QD : DQ} (k : Kt K B Q QD) : Kt K B Q (fin QD) := ⟨fun v d H2 B2 μ2 e g r q => by
  rcases q with ⟨μ', l, q⟩ | ⟨a, ds, μ', rfl, hm, l, q⟩
  · exact k.ok v d H2 B2 μ' e (g.less l) r q
  · obtain ⟨B3, e3, g3, r3⟩ := g.freeze hm
    rw [r.ref_inv]
    exact k.ok _ _ H2 B3 μ' (e.trans e3) (g3.less l) r3 q⟩
section
variable {P : Program} {w : World} {K : PySem.W.Frag} {mg : Str → Option Value} {base : Heap}
/-- a def keeps its promise over data, from its body's derivation and the reading over data -/
theorem fn_ok {x qual : Str} {st : Stmt} {f : Addr} {fd : FuncData} {N ps : List Str} {k : Nat} {sd : SpD} {db : DS} (F : Fun K x qual st f fd) (S : FnScope N ps (defScope st)) (len : ∀ ds μ Q E, sd ds μ Q E → ds.length = ps.length)
    (hbody : ∀ (cdv : Value) (A : Around) (outer : List Env) (s : Shared) (H : Hp) (E : XK), Room k (A.deeper (envOfC qual (defScope st) s.heap.objs.size f cdv)) →
      RSs (cxOf (L2.CX P w) P w K mg base N qual (defScope st) f cdv A outer s H E) (fun cls d _ H => E cls d H) (defBody st) db)
    (pure : ∀ ds μ Q QE, sd ds μ Q QE → db { nx := fun _ μ' => fin Q .non μ', rt := fin Q, xe := finX QE } (startD N ds) μ) : FnOk P w K mg base (L2.CX P w) (k + 1) f fd ps (upSp K sd) := by
  refine F.okX S (fun vs H Q E ⟨B, ds, μ, QD, QE, g, r, q, _⟩ => r.length.trans (len _ _ _ _ q)) (fun cdv A outer s H vs Q E hr h => ?_)
  obtain ⟨B, ds, μ, QD, QE, g, r, q, k1, k2⟩ := h
  refine ⟨_, (hbody cdv A outer s H E hr).pss, B, _, μ, _, g, start_rel r, pure ds μ QD QE q, ⟨fun σ2 ρ2 H2 B2 μ2 e g2 s2 q2 => ?_, fun σ2 ρ2 H2 B2 μ2 e g2 s2 q2 => q2.elim, fun σ2 ρ2 H2 B2 μ2 e g2 s2 q2 => q2.elim, k1.fin, fun σ => ⟨fun cls dx x H2 B2 μ2 e g2 r2 q2 => ?_⟩⟩⟩
  · exact k1.fin.ok .non .non H2 B2 μ2 e g2 .non q2
  · obtain ⟨μ', l, q2⟩ := q2
    exact k2.ex cls dx x H2 B2 μ' e (g2.less l) r2 q2
end
section
variable {X : Cx} {W : WX} {e a b c : Expr} {es : List Expr} {da db dc : DE} {dt du : DT} {dr dk : DA} {pos : Pos}
/-! ### f(..) -/
def dCall (sd : SpD) (dr : DA) : DE := fun ρ μ Q E => dr ρ μ (fun ds μ1 => sd ds μ1 Q E) E
theorem re_call {k : Nat} {f : Addr} {fd : FuncData} {ps : List Str} {sd : SpD} {x : Str} {p : Pos} (F : FnOk X.prog X.w X.K X.mg X.base (L2.CX X.prog X.w) k f fd ps (upSp X.K sd)) (hr : Room k X.A) (hg : Gl X x) (hm : X.mg x = some (.ref f)) (hk : PySem.W.keepIn X.K (.ref f) = true) (hb : L2.Binds X.K fd ps []) (tk : Takes X W)
    (ha : RA X W (e :: es) dr) (hdb : (x == ("__debug__" : Str)) = false := by decide) (he : starEach (e :: es) X.env = (false, eval e X.env) :: starEach es X.env := by rfl) (hpl : (backTo pos (starEach es X.env)).any (·.1) = false := by rfl) :
    RE X W (.Call (.Name x p) (e :: es) [] pos) (dCall sd dr) :=
  ⟨PE.imp (pe_callS F hr hg hm hk hb (fun σ => passAt tk σ) ha.pa hdb he hpl) fun σ H Q ⟨B, ρ, μ, QD, QE, g, s, q, kk, x⟩ => ⟨B, ρ, μ, _, QE, g, s, q, fun vs ds H1 B1 μ1 e1 g1 r1 q1 =>
    ⟨B1, ds, μ1, QD, QE, g1, r1, q1, kk.mono e1, ⟨fun cls dx y H2 B2 μ2 e2 => x.ex cls dx y H2 B2 μ2 (e1.trans e2)⟩⟩, x⟩⟩
theorem re_call0 {k : Nat} {f : Addr} {fd : FuncData} {ps : List Str} {sd : SpD} {x : Str} {p : Pos} (F : FnOk X.prog X.w X.K X.mg X.base (L2.CX X.prog X.w) k f fd ps (upSp X.K sd)) (hr : Room k X.A) (hg : Gl X x) (hm : X.mg x = some (.ref f)) (hk : PySem.W.keepIn X.K (.ref f) = true) (hb : L2.Binds X.K fd ps []) (tk : Takes X W)
    (hdb : (x == ("__debug__" : Str)) = false := by decide) : RE X W (.Call (.Name x p) [] [] pos) (dCall sd dNil) := by
  refine ⟨⟨fun pins s σ H Q I h => ?_⟩⟩
  obtain ⟨B, ρ, μ, QD, QE, g, sl, q, kk, xx⟩ := h
  refine wpAny_Call_Name_kw (ld_glob I hg hm ?_ hdb)
  refine PySem.W.callWith_K0 I.kIn hk (run_fnS (us := []) (E := WE W) F hr hb (passAt tk σ) I .nil ⟨B, [], μ, QD, QE, g, .nil, q, kk, ⟨fun cls dx y H2 B2 μ2 e2 => xx.ex cls dx y H2 B2 μ2 e2⟩⟩)
/-- all arguments by name; π: the parameters' places among the keywords -/
def dCallK (sd : SpD) (π : List Nat) (dk : DA) : DE := fun ρ μ Q E => dk ρ μ (fun ds μ1 => ds.length = π.length ∧ ∃ es, π.mapM (fun i => ds[i]?) = some es ∧ sd es μ1 Q E) E
structure RK (X : Cx) (W : WX) (kws : List Keyword) (de : DA) : Prop where
  pk : PK X kws (upA X.K W de)
theorem PK.imp {kws : List Keyword} {t t' : TA} (h : PK X kws t) (i : ∀ σ H Q, t' σ H Q → t σ H Q) : PK X kws t' := ⟨fun p pins s σ H Q I q => h.run p pins s σ H Q I (i σ H Q q)⟩
theorem rk_nil : RK X W [] dNil := ⟨PK.imp pk_nil fun σ H Q ⟨B, ρ, μ, QD, QE, g, s, q, k, x⟩ => k [] [] H B μ Ext.rfl' g .nil q⟩
theorem rk_cons {kws : List Keyword} {nm : Option Str} {kpos : Pos} (ha : RE X W e da) (hr : RK X W kws dr) : RK X W (⟨nm, e, kpos⟩ :: kws) (dCons da dr) :=
  ⟨PK.imp (pk_cons ha.pe hr.pk) fun σ H Q ⟨B, ρ, μ, QD, QE, g, s, q, k, x⟩ => by
    refine ⟨B, ρ, μ, _, QE, g, s, q, ⟨fun v d H1 B1 μ1 e1 g1 r1 q1 => ?_⟩, x⟩
    refine ⟨B1, ρ, μ1, _, QE, g1, s.mono e1, q1, fun vs ds H2 B2 μ2 e2 g2 r2 q2 => ?_, x.mono e1⟩
    exact k _ _ H2 B2 μ2 (e1.trans e2) g2 (.cons (r1.mono e2) r2) q2⟩
theorem RpL.pick {K : PySem.W.Frag} {B : Hp} {xs : List V} {ds : List D} (r : RpL K B xs ds) : ∀ {π : List Nat} {es : List D}, π.mapM (fun i => ds[i]?) = some es → ∃ ys, π.mapM (fun i => xs[i]?) = some ys ∧ RpL K B ys es
  | [], es, h => by
    simp only [List.mapM_nil, Option.pure_def, Option.some.injEq] at h
    subst h
    exact ⟨[], rfl, .nil⟩
  | i :: π, es, h => by
    rw [List.mapM_cons] at h
    cases e1 : ds[i]? with
    | none => rw [e1] at h; cases h
    | some d =>
      rw [e1] at h
      cases e2 : π.mapM (fun i => ds[i]?) with
      | none => rw [e2] at h; cases h
      | some fs =>
        rw [e2] at h
        cases h
        obtain ⟨v, h1, h2⟩ := r.get e1
        obtain ⟨ys, h3, h4⟩ := RpL.pick r e2
        exact ⟨v :: ys, by rw [List.mapM_cons, h1, h3]; rfl, .cons h2 h4⟩
theorem Vals.pick {xs : List V} {us : List Value} (r : Vals xs us) : ∀ {π : List Nat} {ys : List V}, π.mapM (fun i => xs[i]?) = some ys → ∃ ws, π.mapM (fun i => us[i]?) = some ws ∧ Vals ys ws
  | [], es, h => by
    simp only [List.mapM_nil, Option.pure_def, Option.some.injEq] at h
    subst h
    exact ⟨[], rfl, .nil⟩
  | i :: π, es, h => by
    rw [List.mapM_cons] at h
    cases e1 : xs[i]? with
    | none => rw [e1] at h; cases h
    | some d =>
      rw [e1] at h
      cases e2 : π.mapM (fun i => xs[i]?) with
      | none => rw [e2] at h; cases h
      | some fs =>
        rw [e2] at h
        cases h
        obtain ⟨v, h1, h2⟩ := L2.Vals.get r e1
        obtain ⟨ys, h3, h4⟩ := Vals.pick r e2
        exact ⟨v :: ys, by rw [List.mapM_cons, h1, h3]; rfl, .cons h2 h4⟩
/-- how a call by names alone binds: the keywords' values ws, put at the parameters' places by π -/
def KwBinds (K : PySem.W.Frag) (fd : FuncData) (ps ks : List Str) (π : List Nat) : Prop := ∀ (s : Shared) (ws us : List Value), K.In s.heap → ws.length = ks.length → π.mapM (fun i => ws[i]?) = some us → BindsTo s fd ⟨[], ks.zip ws⟩ (ps.zip us)
theorem re_callK {k : Nat} {f : Addr} {fd : FuncData} {ps ks : List Str} {sd : SpD} {x : Str} {p : Pos} {kws : List Keyword} {π : List Nat} (F : FnOk X.prog X.w X.K X.mg X.base (L2.CX X.prog X.w) k f fd ps (upSp X.K sd)) (hr : Room k X.A) (hg : Gl X x) (hm : X.mg x = some (.ref f)) (hk : PySem.W.keepIn X.K (.ref f) = true)
    (hb : KwBinds X.K fd ps ks π) (tk : Takes X W) (hlen : π.length = ks.length) (hkw : RK X W kws dk) (hall : (backToKw pos (keywordEach kws X.env)).all (·.1.isSome) = true := by rfl) (hks : (backToKw pos (keywordEach kws X.env)).filterMap (·.1) = ks := by rfl)
    (hdb : (x == ("__debug__" : Str)) = false := by decide)
    (hpl : ((backTo pos (starEach [] X.env)).any (·.1) || (backToKw pos (keywordEach kws X.env)).any (·.1.isNone)) = false := by rfl) :
    RE X W (.Call (.Name x p) [] kws pos) (dCallK sd π dk) := by
  refine ⟨⟨fun pins s σ H Q I h => ?_⟩⟩
  obtain ⟨B, ρ, μ, QD, QE, g, sl, q, kk, xx⟩ := h
  refine wpAny_Call_Name_kw (ld_glob I hg hm ?_ hdb)
  refine PySem.W.callWith_KW0 (h₀ := X.base) I.ok.mod.kin hk hall ?_ hpl
  refine thn (hkw.pk.run pos pins s σ H (fun zs H2 => zs.length = ks.length ∧ ∃ ys, π.mapM (fun i => zs[i]?) = some ys ∧ upSp X.K sd ys H2 Q (WE W σ)) I ⟨B, ρ, μ, _, QE, g, sl, q, fun vs ds H1 B1 μ1 e1 g1 r1 q1 => ?_, xx⟩) fun ws s2 ⟨zs, H2, I2, rz, hl, ys, hy, q2⟩ => ?_
  · obtain ⟨hl, es, h1, q1⟩ := q1
    obtain ⟨ys, h3, h4⟩ := r1.pick h1
    exact ⟨(r1.length.trans hl).trans hlen, ys, h3, B1, es, μ1, QD, QE, g1, h4, q1, kk.mono e1, ⟨fun cls dx y H2 B2 μ2 e2 => xx.ex cls dx y H2 B2 μ2 (e1.trans e2)⟩⟩
  · first | refine ⟨I2.kIn, ?_⟩ | skip
    rw [hks]
    obtain ⟨us, h5, h6⟩ := Vals.pick rz hy
    refine wpAny_call (codeAny_mono (F.run X.A X.stack s2 H2 ⟨[], ks.zip ws⟩ us ys Q (WE W σ) hr I2.env0 (hb s2 ws us I2.kIn (rz.length.symm.trans hl) h5) h6 q2) fun r s' hq => ?_)
    cases r with
    | error e => exact passAt tk σ pins H2 s2 e s' I2 hq
    | ok fl =>
      cases fl with
      | ret u => exact I2.after hq
      | next => exact False.elim hq
      | brk => exact False.elim hq
      | cont => exact False.elim hq

/-! ### methods of lists -/
theorem tyL {K : PySem.W.Frag} {B H : Hp} {μ : Mu} {a : Addr} {ds : List D} (g : Good K B H μ) (h : μ a = some (.lst ds)) : tyV K "list" (.ref a) H := by
  obtain ⟨_, xs, h1, h2⟩ := g.mo a _ h
  exact .inl ⟨rfl, _, .inl (.inl h1)⟩
/-- xs.append(e) -/
def dAppend (da db : DE) : DE := fun ρ μ Q E => da ρ μ (fun d μ1 => ∃ a ds0, d = .ref a ∧ μ1 a = some (.lst ds0) ∧ db ρ μ1 (fun e μ2 => ∃ ds, μ2 a = some (.lst ds) ∧ ds.length < sizeLine ∧ Q .non (mset μ2 a (.lst (ds ++ [e])))) E) E
theorem re_append {apos : Pos} (ha : RE X W a da) (hb : RE X W b db)
    (hbase : attributeBase a "append" X.env (eval a X.env) = eval a X.env := by rfl)
    (hfew : ((backTo pos (starEach [b] X.env)).all (fun x => !x.1) && (backToKw pos (keywordEach [] X.env)).all (fun x => x.1.isSome)
      && decide (([b] : List Expr).length + ([] : List Keyword).length + (if ([] : List Keyword).isEmpty then 0 else 1) < 30)) = true := by rfl)
    (hline : (apos.endLine == pos.line) = true := by rfl) (hs : starEach [b] X.env = (false, eval b X.env) :: starEach [] X.env := by rfl) (hplain : (backTo pos (starEach [] X.env)).any (·.1) = false := by rfl) :
    RE X W (.Call (.Attribute a "append" apos) [b] [] pos) (dAppend da db) :=
  ⟨PE.imp (pe_bm PySem.F.plainAttrs_list PySem.F.slot_list_append PySem.F.type_list_append mt_append ha.pe (ra_cons (dr := dNil) hb ra_nil hs).pa hbase hfew hline hs hplain) fun σ H Q ⟨B, ρ, μ, QD, QE, g, s, q, k, x⟩ => by
    refine ⟨B, ρ, μ, _, QE, g, s, q, ⟨fun v d H1 B1 μ1 e1 g1 r1 q1 => ?_⟩, x⟩
    obtain ⟨p, ds0, rfl, hm, q1⟩ := q1
    obtain rfl := r1.ref_inv
    refine ⟨tyL g1 hm, B1, ρ, μ1, (fun es μ2 => match es with | [e] => ∃ ds, μ2 p = some (.lst ds) ∧ ds.length < sizeLine ∧ QD .non (mset μ2 p (.lst (ds ++ [e]))) | _ => False), QE, g1, s.mono e1, q1, fun vs es H2 B2 μ2 e2 g2 r2 q2 => ?_, x.mono e1⟩
    dsimp only at q2
    split at q2
    · obtain ⟨u, rfl, rv⟩ := r2.one_inv
      obtain ⟨ds, hm2, hz, q2⟩ := q2
      obtain ⟨_, xs, h1, h2⟩ := g2.mo p _ hm2
      exact ⟨p, xs, _, rfl, rfl, h1, by rw [h2.length]; exact hz, k.ok _ _ _ _ _ (e1.trans e2) (g2.put (m := .lst _) hm2 ⟨_, upd_same, h2.append (.cons rv .nil)⟩) .non q2⟩
    · exact q2.elim⟩
/-- xs.pop() -/
def dPop (da : DE) : DE := fun ρ μ Q E => da ρ μ (fun d μ1 => ∃ a ds y, d = .ref a ∧ μ1 a = some (.lst ds) ∧ ds[ds.length - 1]? = some y ∧ Q y (mset μ1 a (.lst ds.dropLast))) E
theorem re_pop {apos : Pos} (ha : RE X W a da) (hbase : attributeBase a "pop" X.env (eval a X.env) = eval a X.env := by rfl) (hline : (apos.endLine == pos.line) = true := by rfl) :
    RE X W (.Call (.Attribute a "pop" apos) [] [] pos) (dPop da) :=
  ⟨PE.imp (pe_bm0 PySem.F.plainAttrs_list PySem.F.slot_list_pop PySem.F.type_list_pop mt_pop ha.pe hbase hline) fun σ H Q ⟨B, ρ, μ, QD, QE, g, s, q, k, x⟩ => by
    refine ⟨B, ρ, μ, _, QE, g, s, q, ⟨fun v d H1 B1 μ1 e1 g1 r1 q1 => ?_⟩, x⟩
    obtain ⟨p, ds, y, rfl, hm, hy, q1⟩ := q1
    obtain rfl := r1.ref_inv
    obtain ⟨_, xs, h1, h2⟩ := g1.mo p _ hm
    obtain ⟨u, h3, h4⟩ := h2.get hy
    exact ⟨tyL g1 hm, p, xs, u, rfl, rfl, h1, by rw [h2.length]; exact h3, k.ok _ _ _ _ _ e1 (g1.put (m := .lst _) hm ⟨_, upd_same, h2.dropLast⟩) h4 q1⟩⟩
/-- xs.pop(i) -/
def dPopAt (da db : DE) : DE := fun ρ μ Q E => da ρ μ (fun d μ1 => ∃ a ds0, d = .ref a ∧ μ1 a = some (.lst ds0) ∧ db ρ μ1 (fun e μ2 => ∃ ds i k y, e = .int i ∧ μ2 a = some (.lst ds) ∧ -(2 ^ 63) ≤ i ∧ i < 2 ^ 63 ∧ seqIndex? i ds.length = some k ∧ ds[k]? = some y ∧ Q y (mset μ2 a (.lst (ds.eraseIdx k)))) E) E
theorem re_popAt {apos : Pos} (ha : RE X W a da) (hb : RE X W b db)
    (hbase : attributeBase a "pop" X.env (eval a X.env) = eval a X.env := by rfl)
    (hfew : ((backTo pos (starEach [b] X.env)).all (fun x => !x.1) && (backToKw pos (keywordEach [] X.env)).all (fun x => x.1.isSome)
      && decide (([b] : List Expr).length + ([] : List Keyword).length + (if ([] : List Keyword).isEmpty then 0 else 1) < 30)) = true := by rfl)
    (hline : (apos.endLine == pos.line) = true := by rfl) (hs : starEach [b] X.env = (false, eval b X.env) :: starEach [] X.env := by rfl) (hplain : (backTo pos (starEach [] X.env)).any (·.1) = false := by rfl) :
    RE X W (.Call (.Attribute a "pop" apos) [b] [] pos) (dPopAt da db) :=
  ⟨PE.imp (pe_bm PySem.F.plainAttrs_list PySem.F.slot_list_pop PySem.F.type_list_pop mt_popAt ha.pe (ra_cons (dr := dNil) hb ra_nil hs).pa hbase hfew hline hs hplain) fun σ H Q ⟨B, ρ, μ, QD, QE, g, s, q, k, x⟩ => by
    refine ⟨B, ρ, μ, _, QE, g, s, q, ⟨fun v d H1 B1 μ1 e1 g1 r1 q1 => ?_⟩, x⟩
    obtain ⟨p, ds0, rfl, hm, q1⟩ := q1
    obtain rfl := r1.ref_inv
    refine ⟨tyL g1 hm, B1, ρ, μ1, (fun es μ2 => match es with | [e] => ∃ ds i k y, e = .int i ∧ μ2 p = some (.lst ds) ∧ -(2 ^ 63) ≤ i ∧ i < 2 ^ 63 ∧ seqIndex? i ds.length = some k ∧ ds[k]? = some y ∧ QD y (mset μ2 p (.lst (ds.eraseIdx k))) | _ => False), QE, g1, s.mono e1, q1, fun vs es H2 B2 μ2 e2 g2 r2 q2 => ?_, x.mono e1⟩
    dsimp only at q2
    split at q2
    · obtain ⟨u0, rfl, rv⟩ := r2.one_inv
      obtain ⟨ds, i, kk, y, rfl, hm2, h1, h2, h3, h4, q2⟩ := q2
      obtain ⟨_, xs, h5, h6⟩ := g2.mo p _ hm2
      obtain ⟨u, h7, h8⟩ := h6.get h4
      obtain rfl := rv.int_inv
      exact ⟨p, xs, i, kk, u, rfl, rfl, h5, h1, h2, by rw [h6.length]; exact h3, h7, k.ok _ _ _ _ _ (e1.trans e2) (g2.put (m := .lst _) hm2 ⟨_, upd_same, h6.eraseIdx kk⟩) h8 q2⟩
    · exact q2.elim⟩

/-! ### dicts by keys that are ints or texts -/
def D.key : D → Option Key
  | .int i => some (.inl i)
  | .str x => some (.inr x)
  | _ => none
theorem Rp.keyV {K : PySem.W.Frag} {B : Hp} {v : V} {d : D} {k : Key} (r : Rp K B v d) (h : d.key = some k) : v = kV k := by
  cases r <;> simp only [D.key] at h <;> first | (cases h; rfl) | cases h
def valD (kvs : List (Key × D)) (k : Key) : Option D := (kvs.find? fun kv => decide (kv.1 = k)).map (·.2)
def putD (kvs : List (Key × D)) (k : Key) (v : D) : List (Key × D) :=
  if (kvs.any fun kv => decide (kv.1 = k)) = true then kvs.map (fun kv => if kv.1 = k then (kv.1, v) else kv) else kvs ++ [(k, v)]
theorem RpKv.length {K : PySem.W.Frag} {B : Hp} {ys : List (Key × V)} {kvs : List (Key × D)} (r : RpKv K B ys kvs) : ys.length = kvs.length := Paired.length r
theorem RpKv.val {K : PySem.W.Frag} {B : Hp} {k : Key} {d : D} : ∀ {ys : List (Key × V)} {kvs : List (Key × D)}, RpKv K B ys kvs → valD kvs k = some d → ∃ v, valV ys k = some v ∧ Rp K B v d
  | _, _, .nil, h => by cases h
  | y :: ys, z :: kvs, .cons h t, e => by
    unfold valD at e
    rw [List.find?_cons] at e
    by_cases c : z.1 = k
    · rw [decide_eq_true c] at e
      simp only [Option.map_some, Option.some.injEq] at e
      subst e
      exact ⟨y.2, valV_pos (h.1.trans c), h.2⟩
    · rw [decide_eq_false c] at e
      obtain ⟨v, h1, h2⟩ := RpKv.val t e
      exact ⟨v, by rw [valV_neg (fun q => c (h.1.symm.trans q))]; exact h1, h2⟩
theorem RpKv.any {K : PySem.W.Frag} {B : Hp} (k : Key) : ∀ {ys : List (Key × V)} {kvs : List (Key × D)}, RpKv K B ys kvs → (ys.any fun kv => decide (kv.1 = k)) = (kvs.any fun kv => decide (kv.1 = k))
  | _, _, .nil => rfl
  | y :: ys, z :: kvs, .cons h t => by
    rw [List.any_cons, List.any_cons, RpKv.any k t, h.1]
theorem RpKv.map {K : PySem.W.Frag} {B : Hp} {k : Key} {v : V} {d : D} (q : Rp K B v d) : ∀ {ys : List (Key × V)} {kvs : List (Key × D)}, RpKv K B ys kvs → RpKv K B (ys.map fun kv => if kv.1 = k then (kv.1, v) else kv) (kvs.map fun kv => if kv.1 = k then (kv.1, d) else kv)
  | _, _, .nil => .nil
  | y :: ys, z :: kvs, .cons h t => by
    rw [List.map_cons, List.map_cons]
    refine .cons ?_ (RpKv.map q t)
    by_cases c : z.1 = k
    · rw [if_pos c, if_pos (h.1.trans c)]
      exact ⟨h.1, q⟩
    · rw [if_neg c, if_neg (fun e => c (h.1.symm.trans e))]
      exact h
theorem RpKv.snoc {K : PySem.W.Frag} {B : Hp} {k : Key} {v : V} {d : D} (q : Rp K B v d) : ∀ {ys : List (Key × V)} {kvs : List (Key × D)}, RpKv K B ys kvs → RpKv K B (ys ++ [(k, v)]) (kvs ++ [(k, d)])
  | _, _, .nil => .cons ⟨rfl, q⟩ .nil
  | _, _, .cons h t => .cons h (RpKv.snoc q t)
theorem RpKv.put {K : PySem.W.Frag} {B : Hp} {k : Key} {v : V} {d : D} {ys : List (Key × V)} {kvs : List (Key × D)} (q : Rp K B v d) (r : RpKv K B ys kvs) : RpKv K B (putK ys k v) (putD kvs k d) := by
  unfold putK putD
  rw [r.any k]
  split
  · exact r.map q
  · exact r.snoc q
/-- d[k] -/
def dDGet (da db : DE) : DE := fun ρ μ Q E => da ρ μ (fun d μ1 => db ρ μ1 (fun e μ2 => ∃ a kvs k y, d = .ref a ∧ μ2 a = some (.dct kvs) ∧ e.key = some k ∧ valD kvs k = some y ∧ Q y μ2) E) E
theorem re_dget {kr : Nat} (hr : Room kr X.A) (ha : RE X W a da) (hb : RE X W b db) (hs : NoSl b) : RE X W (.Subscript a b pos) (dDGet da db) :=
  ⟨PE.imp (pe_dget (by have := hr.un; omega) ha.pe hb.pe hs) fun σ H Q ⟨B, ρ, μ, QD, QE, g, s, q, k, x⟩ => by
    refine ⟨B, ρ, μ, _, QE, g, s, q, ⟨fun v d H1 B1 μ1 e1 g1 r1 q1 => ?_⟩, x⟩
    refine ⟨B1, ρ, μ1, _, QE, g1, s.mono e1, q1, ⟨fun u e H2 B2 μ2 e2 g2 r2 q2 => ?_⟩, x.mono e1⟩
    obtain ⟨p, kvs, kk, y, rfl, hm, hk, hv, q2⟩ := q2
    obtain ⟨_, ys, h1, h2⟩ := g2.mo p _ hm
    obtain ⟨w, h3, h4⟩ := h2.val hv
    refine ⟨p, w, r1.ref_inv, ?_, k.ok _ _ H2 B2 μ2 (e1.trans e2) g2 h4 q2⟩
    rw [r2.keyV hk, ← h3]
    exact DGet.k h1⟩
/-- d[k] = v -/
def sDPutD (da db dv : DE) : DS := fun D ρ μ => dv ρ μ (fun v μ0 => da ρ μ0 (fun d μ1 => db ρ μ1 (fun e μ2 => ∃ a kvs k, d = .ref a ∧ μ2 a = some (.dct kvs) ∧ e.key = some k ∧ kvs.length < sizeLine ∧ D.nx ρ (mset μ2 a (.dct (putD kvs k v)))) D.xe) D.xe) D.xe
theorem rs_dput {dv : DE} {value : Expr} {pos' : Pos} {kr : Nat} (hr : Room kr X.A) (ha : RE X W a da) (hb : RE X W b db) (hv : RE X W value dv) (hs : swapsWith value (some (.Subscript a b pos')) pos.line X.env = pure false := by rfl) :
    RS X W (.Assign [.Subscript a b pos'] value pos) (sDPutD da db dv) :=
  ⟨PS.imp (ps_dput (by have := hr.un; omega) ha.pe hb.pe hv.pe hs) fun D σ H ⟨B, ρ, μ, DD, g, s, q, k⟩ => by
    refine ⟨B, ρ, μ, _, _, g, s, q, ⟨fun v d H1 B1 μ1 e1 g1 r1 q1 => ?_⟩, k.xe σ⟩
    refine ⟨B1, ρ, μ1, _, _, g1, s.mono e1, q1, ⟨fun u e H2 B2 μ2 e2 g2 r2 q2 => ?_⟩, (k.xe σ).mono e1⟩
    refine ⟨B2, ρ, μ2, _, _, g2, s.mono (e1.trans e2), q2, ⟨fun w f H3 B3 μ3 e3 g3 r3 q3 => ?_⟩, (k.xe σ).mono (e1.trans e2)⟩
    obtain ⟨p, kvs, kk, rfl, hm, hk, hz, q3⟩ := q3
    obtain ⟨_, ys, h1, h2⟩ := g3.mo p _ hm
    have r1' := (r1.mono e2).mono e3
    refine ⟨p, _, r2.ref_inv, (by rw [r3.keyV hk]; exact DPut.k h1 (by rw [h2.length]; exact hz)), ?_⟩
    exact k.nx σ ρ _ B3 _ ((e1.trans e2).trans e3) (g3.put (m := .dct _) hm ⟨_, upd_same, h2.put r1'⟩) (s.mono ((e1.trans e2).trans e3)) q3⟩
/-- a display {'k': e, ..} whose keys are written and unlike -/
def dPs : List (Key × DE) → Rho → Mu → (List (Key × D) → Mu → Prop) → XQ → Prop
  | [], _, μ, Q, _ => Q [] μ
  | (k, de) :: r, ρ, μ, Q, E => de ρ μ (fun d μ1 => dPs r ρ μ1 (fun kvs μ2 => Q ((k, d) :: kvs) μ2) E) E
structure RPs (X : Cx) (W : WX) (pos : Pos) (keys : List (Option Expr)) (values : List Expr) (l : List (Key × DE)) : Prop where
  pps : PPs X pos keys values (l.map fun p => (tC (kV p.1), upE X.K W p.2))
theorem rps_nil : RPs X W pos [] [] [] := ⟨pps_nil⟩
theorem rps_str {x : Str} {j : Nat} {p : Pos} {v : Expr} {ks : List (Option Expr)} {vs : List Expr} {dv : DE} {l : List (Key × DE)} (hv : RE X W v dv) (hr : RPs X W pos ks vs l) : RPs X W pos (some (.Constant (.str x) j p) :: ks) (v :: vs) ((.inr x, dv) :: l) := ⟨pps_cons (pe_str (x := x)) hv.pe hr.pps⟩
theorem ps_read {K : PySem.W.Frag} {σ : L2.St} {ρ : Rho} {QE : XQ} : ∀ (l : List (Key × DE)) {B H : Hp} {μ : Mu} {Q : List (V × V) → Hp → Prop} {QD : List (Key × D) → Mu → Prop}, Good K B H μ → SlR K B σ ρ → KtX K W B σ QE → dPs l ρ μ QD QE →
    (∀ (ys : List (Key × V)) kvs H2 B2 μ2, Ext B B2 → Good K B2 H2 μ2 → RpKv K B2 ys kvs → ys.map (·.1) = l.map (·.1) → QD kvs μ2 → Q (ys.map fun kv => (kV kv.1, kv.2)) H2) → tPairs (l.map fun p => (tC (kV p.1), upE K W p.2)) σ H Q
  | [], B, H, μ, Q, QD, g, s, x, q, k => k [] [] H B μ Ext.rfl' g .nil rfl q
  | (kk, de) :: l, B, H, μ, Q, QD, g, s, x, q, k => by
    show upE K W de σ H _
    refine ⟨B, ρ, μ, _, QE, g, s, q, ⟨fun v d H1 B1 μ1 e1 g1 r1 q1 => ?_⟩, x⟩
    refine ps_read l g1 (s.mono e1) (x.mono e1) q1 fun ys kvs H2 B2 μ2 e2 g2 r2 hk q2 => ?_
    exact k ((kk, v) :: ys) ((kk, d) :: kvs) H2 B2 μ2 (e1.trans e2) g2 (.cons ⟨rfl, r1.mono e2⟩ r2) (by rw [List.map_cons, List.map_cons, hk]) q2
theorem merge_nodup : ∀ (more kvs : List (Key × V)), (more.map (·.1)).Nodup → (∀ p ∈ more, valV kvs p.1 = none) → mergeK kvs more = kvs ++ more
  | [], kvs, _, _ => (List.append_nil kvs).symm
  | p :: r, kvs, h, h2 => by
    rw [List.map_cons, List.nodup_cons] at h
    have e1 : valV kvs p.1 = none := h2 p (List.mem_cons_self ..)
    show mergeK (putK kvs p.1 p.2) r = _
    rw [putK_new _ e1, merge_nodup r _ h.2 fun q hq => ?_, List.append_assoc]
    · rfl
    · rw [valV_snoc _ _ _ _ e1, if_neg]
      · exact h2 q (List.mem_cons_of_mem _ hq)
      · exact fun e => h.1 (by rw [← e]; exact List.mem_map_of_mem hq)
def dDict (l : List (Key × DE)) : DE := fun ρ μ Q E => ∀ p, μ p = none → dPs l ρ (mset μ p (.dct [])) (fun kvs μ2 => μ2 p = some (.dct []) ∧ Q (.ref p) (mset μ2 p (.dct kvs))) E
theorem re_dict {keys : List (Option Expr)} {values : List Expr} {l : List (Key × DE)} (h : RPs X W pos keys values l) (hall : keys.all (·.isSome) = true) (hl : keys.length = values.length) (h0 : keys ≠ []) (h15 : keys.length ≤ 15) (h16 : l.length ≤ 15) (nd : (l.map (·.1)).Nodup) :
    RE X W (.Dict keys values pos) (dDict l) :=
  ⟨PE.imp (pe_disp h.pps hall hl h0 h15) fun σ H Q ⟨B, ρ, μ, QD, QE, g, s, q, k, x⟩ => by
    intro p hp
    refine ps_read l (g.fresh (m := .dct []) hp ⟨_, upd_same, .nil⟩) s x (q p (g.free hp)) fun ys kvs H2 B2 μ2 e2 g2 r2 hk q2 => ?_
    obtain ⟨_, zs, h1, h2⟩ := g2.mo p _ q2.1
    cases h2
    refine ⟨h1, ys, rfl, ?_, ?_⟩
    · have e := congrArg List.length hk
      rw [List.length_map, List.length_map] at e
      omega
    · rw [merge_nodup ys [] (by rw [hk]; exact nd) fun _ _ => rfl, List.nil_append]
      exact k.ok _ _ _ _ _ e2 (g2.put (m := .dct kvs) q2.1 ⟨_, upd_same, r2⟩) (.ref _) q2.2⟩
end
end DL

/-! The data layer, 5: statements, targets, loops, comprehensions. -/
namespace DL
open PySem PySem.Spec PyProof.Rows L2
section
variable {X : Cx} {W : WX} {e a b c : Expr} {es : List Expr} {da db dc : DE} {dt du : DT} {dr dk : DA} {pos : Pos} {st : Stmt} {rest : List Stmt} {s1 s2 : DS}
def sNext : DS := fun D ρ μ => D.nx ρ μ
def sSeq (t u : DS) : DS := fun D ρ μ => t { D with nx := u D } ρ μ
def sRet (de : DE) : DS := fun D ρ μ => de ρ μ D.rt D.xe
def sRetN : DS := fun D _ μ => D.rt .non μ
def sDrop (de : DE) : DS := fun D ρ μ => de ρ μ (fun _ μ1 => D.nx ρ μ1) D.xe
def sIf (t : DT) (u v : DS) : DS := fun D ρ μ => t ρ μ (fun b μ1 => if b = true then u D ρ μ1 else v D ρ μ1) D.xe
def sBrk : DS := fun D ρ μ => D.bk ρ μ
def sCont : DS := fun D ρ μ => D.ct ρ μ
def sNever : DS := fun _ _ _ => False
theorem rss_nil : RSs X W [] sNext := ⟨PSs.imp pss_nil fun D σ H ⟨B, ρ, μ, DD, g, s, q, k⟩ => k.nx σ ρ H B μ Ext.rfl' g s q⟩
theorem rss_cons (h1 : RS X W st s1) (h2 : RSs X W rest s2) : RSs X W (st :: rest) (sSeq s1 s2) :=
  ⟨PSs.imp (pss_cons h1.ps h2.pss) fun D σ H ⟨B, ρ, μ, DD, g, s, q, k⟩ => ⟨B, ρ, μ, _, g, s, q, ⟨fun σ2 ρ2 H2 B2 μ2 e2 g2 s2 q2 => ⟨B2, ρ2, μ2, DD, g2, s2, q2, k.mono e2⟩, k.bk, k.ct, k.rt, k.xe⟩⟩⟩
theorem rss_one (h1 : RS X W st s1) : RSs X W [st] s1 := ⟨PSs.imp (pss_one h1.ps) fun D σ H h => h⟩
theorem rs_ret (h : RE X W e da) : RS X W (.Return (some e) pos) (sRet da) := ⟨PS.imp (ps_ret h.pe) fun D σ H ⟨B, ρ, μ, DD, g, s, q, k⟩ => ⟨B, ρ, μ, _, _, g, s, q, k.rt, k.xe σ⟩⟩
theorem rs_retN : RS X W (.Return none pos) sRetN := ⟨PS.imp ps_retN fun D σ H ⟨B, ρ, μ, DD, g, s, q, k⟩ => k.rt.ok .non .non H B μ Ext.rfl' g .non q⟩
theorem rs_expr (h : RE X W e da) (hs : swapsWith e none pos.line X.env = pure false := by rfl) : RS X W (.Expr e pos) (sDrop da) :=
  ⟨PS.imp (ps_expr h.pe hs) fun D σ H ⟨B, ρ, μ, DD, g, s, q, k⟩ => ⟨B, ρ, μ, _, _, g, s, q, ⟨fun v d H2 B2 μ2 e2 g2 r2 q2 => k.nx σ ρ H2 B2 μ2 e2 g2 (s.mono e2) q2⟩, k.xe σ⟩⟩
theorem rs_if {t u : List Stmt} (hc : RT X W c dt) (h1 : RSs X W t s1) (h2 : RSs X W u s2) : RS X W (.If c t u pos) (sIf dt s1 s2) :=
  ⟨PS.imp (ps_if hc.pt h1.pss h2.pss) fun D σ H ⟨B, ρ, μ, DD, g, s, q, k⟩ => ⟨B, ρ, μ, _, _, g, s, q, fun b H2 B2 μ2 e2 g2 q2 => by
    cases b with
    | true => exact ⟨B2, ρ, μ2, DD, g2, s.mono e2, q2, k.mono e2⟩
    | false => exact ⟨B2, ρ, μ2, DD, g2, s.mono e2, q2, k.mono e2⟩, k.xe σ⟩⟩
theorem rs_pass : RS X W (.Pass pos) sNext := ⟨PS.imp ps_pass fun D σ H ⟨B, ρ, μ, DD, g, s, q, k⟩ => k.nx σ ρ H B μ Ext.rfl' g s q⟩
theorem rs_break : RS X W (.Break pos) sBrk := ⟨PS.imp ps_break fun D σ H ⟨B, ρ, μ, DD, g, s, q, k⟩ => k.bk σ ρ H B μ Ext.rfl' g s q⟩
theorem rs_continue : RS X W (.Continue pos) sCont := ⟨PS.imp ps_continue fun D σ H ⟨B, ρ, μ, DD, g, s, q, k⟩ => k.ct σ ρ H B μ Ext.rfl' g s q⟩
theorem rs_never : RS X W st sNever := ⟨PS.imp ps_never fun D σ H ⟨B, ρ, μ, DD, g, s, q, k⟩ => q⟩
/-- the list in slot i will change no more -/
def sFreeze (i : Nat) (t : DS) : DS := fun D ρ μ => ∃ a l, ρ[i]? = some (some (.ref a)) ∧ μ a = some (.lst l) ∧ t D (ρ.set i (some (.lst l))) (mdel μ a)
theorem rs_freeze (i : Nat) (h : RS X W st s1) : RS X W st (sFreeze i s1) := ⟨PS.imp h.ps fun D σ H ⟨B, ρ, μ, DD, g, s, q, k⟩ => by
  obtain ⟨a, l, h1, h2, q⟩ := q
  obtain ⟨B2, e2, g2, r2⟩ := g.freeze h2
  obtain ⟨v, h3, h4⟩ := s.at_ i _ h1
  refine ⟨B2, _, _, DD, g2, ?_, q, k.mono e2⟩
  have := (s.mono e2).set i r2
  rw [← h4.ref_inv] at this
  have e : σ.set i (some v) = σ := by
    apply List.ext_getElem?
    intro j
    rw [List.getElem?_set]
    split
    · rename_i c
      subst c
      split
      · exact h3.symm
      · rename_i z
        exact (List.getElem?_eq_none (by omega)).symm
    · rfl
  rw [e] at this
  exact this⟩

/-! ### targets -/
abbrev DG := D → Rho → Mu → (Rho → Mu → Prop) → Prop
abbrev DGs := List D → Rho → Mu → (Rho → Mu → Prop) → Prop
def Same' (vs : List Nat) (σ σ2 : L2.St) : Prop := σ2.length = σ.length ∧ ∀ j, j ∉ vs → σ2[j]? = σ[j]?
def upG (K : PySem.W.Frag) (vs : List Nat) (dg : DG) : TG := fun v σ H Q => ∃ B ρ μ d QD, Good K B H μ ∧ SlR K B σ ρ ∧ Rp K B v d ∧ dg d ρ μ QD ∧ ∀ σ2 ρ2 H2 B2 μ2, Ext B B2 → Good K B2 H2 μ2 → SlR K B2 σ2 ρ2 → Same' vs σ σ2 → QD ρ2 μ2 → Q σ2 H2
def upGs (K : PySem.W.Frag) (vs : List Nat) (dg : DGs) : TGs := fun v σ H Q => ∃ B ρ μ d QD, Good K B H μ ∧ SlR K B σ ρ ∧ RpL K B v d ∧ dg d ρ μ QD ∧ ∀ σ2 ρ2 H2 B2 μ2, Ext B B2 → Good K B2 H2 μ2 → SlR K B2 σ2 ρ2 → Same' vs σ σ2 → QD ρ2 μ2 → Q σ2 H2
structure RG (X : Cx) (tg : Expr) (vs : List Nat) (dg : DG) : Prop where
  pg : PG X tg (upG X.K vs dg)
structure RGs (X : Cx) (tg : List Expr) (vs : List Nat) (dg : DGs) : Prop where
  pgs : PGs X tg (upGs X.K vs dg)
theorem PG.imp {tg : Expr} {t t' : TG} (h : PG X tg t) (i : ∀ v σ H Q, t' v σ H Q → t v σ H Q) : PG X tg t' := ⟨fun pins s σ H v u Q I r q => h.run pins s σ H v u Q I r (i v σ H Q q)⟩
theorem PGs.imp {tg : List Expr} {t t' : TGs} (h : PGs X tg t) (i : ∀ v σ H Q, t' v σ H Q → t v σ H Q) : PGs X tg t' := ⟨fun pins s σ H v u Q I r q => h.run pins s σ H v u Q I r (i v σ H Q q)⟩
def dName (i : Nat) : DG := fun d ρ μ Q => Q (ρ.set i (some d)) μ
def dGNil : DGs := fun ds ρ μ Q => ds = [] ∧ Q ρ μ
def dGCons (t : DG) (u : DGs) : DGs := fun ds ρ μ Q => ∃ d r, ds = d :: r ∧ t d ρ μ fun ρ1 μ1 => u r ρ1 μ1 Q
def dGTup (n : Nat) (t : DGs) : DG := fun d ρ μ Q => ∃ ds, d = .tup ds ∧ ds.length = n ∧ t ds ρ μ Q
theorem rg_name {i : Nat} {x : Str} (hN : X.N.Nodup) (hi : X.N[i]? = some x) (hx : Loc X.env.scope x) (hf : X.fn x = true ∨ X.env.scope.names.lookup x = some .local := by first | exact .inl rfl | exact .inr rfl | assumption) : RG X (.Name x pos) [i] (dName i) :=
  ⟨PG.imp (pg_name hN hi hx hf) fun v σ H Q ⟨B, ρ, μ, d, QD, g, s, r, q, k⟩ => k _ _ H B μ Ext.rfl' g (s.set i r) ⟨by simp, fun j hj => List.getElem?_set_ne (fun z => hj (by simp [z]))⟩ q⟩
theorem rgs_nil : RGs X [] [] dGNil := ⟨PGs.imp pgs_nil fun v σ H Q ⟨B, ρ, μ, d, QD, g, s, r, q, k⟩ => by
  obtain ⟨rfl, q⟩ := q
  cases r
  exact ⟨rfl, k σ ρ H B μ Ext.rfl' g s ⟨rfl, fun _ _ => rfl⟩ q⟩⟩
theorem rgs_cons {vs ws : List Nat} {t : DG} {u : DGs} (h1 : RG X e vs t) (h2 : RGs X es ws u) (hs : (assignEach (e :: es) X.env).map (·.2) = assign e X.env :: (assignEach es X.env).map (·.2) := by rfl) : RGs X (e :: es) (vs ++ ws) (dGCons t u) :=
  ⟨PGs.imp (pgs_cons h1.pg h2.pgs hs) fun v σ H Q ⟨B, ρ, μ, d, QD, g, s, r, q, k⟩ => by
    obtain ⟨d0, ds, rfl, q⟩ := q
    cases r with
    | cons r1 r2 =>
      refine ⟨_, _, rfl, B, ρ, μ, d0, _, g, s, r1, q, fun σ2 ρ2 H2 B2 μ2 e2 g2 s2 m2 q2 => ?_⟩
      refine ⟨B2, ρ2, μ2, ds, QD, g2, s2, r2.mono e2, q2, fun σ3 ρ3 H3 B3 μ3 e3 g3 s3 m3 q3 => ?_⟩
      exact k σ3 ρ3 H3 B3 μ3 (e2.trans e3) g3 s3 ⟨m3.1.trans m2.1, fun j hj => (m3.2 j (fun z => hj (List.mem_append_right _ z))).trans (m2.2 j (fun z => hj (List.mem_append_left _ z)))⟩ q3⟩
theorem rg_tup {vs : List Nat} {k : Nat} {t : DGs} {n : Nat} (hc : X.calm = true) (h : RGs X es vs t)
    (hn : (assignEach es X.env).length = n := by rfl) (hst : (assignEach es X.env).findIdx? (·.1) = none := by rfl) : RG X (.Tuple es k pos) vs (dGTup n t) :=
  ⟨PG.imp (pg_tup hc h.pgs hn hst) fun v σ H Q ⟨B, ρ, μ, d, QD, g, s, r, q, k⟩ => by
    obtain ⟨ds, rfl, hl, q⟩ := q
    obtain ⟨p, xs, rfl, h1, h2⟩ := tupV g r
    exact ⟨p, xs, rfl, h1, h2.length.trans hl, B, ρ, μ, ds, QD, g, s, h2, q, k⟩⟩
/-- xs[i] = v -/
def dGSub (da db : DE) : DG := fun d ρ μ Q => da ρ μ (fun o μ1 => db ρ μ1 (fun k μ2 => ∃ p ds i j, o = .ref p ∧ k = .int i ∧ μ2 p = some (.lst ds) ∧ ixN ds.length i = some j ∧ Q ρ (mset μ2 p (.lst (ds.set j d)))) fun _ _ => False) fun _ _ => False
theorem rg_sub (ha : RE X (fun _ _ _ _ => False) a da) (hb : RE X (fun _ _ _ _ => False) b db)
    (has : ∀ v, assign (.Subscript a b pos) X.env v = (do
      let ov ← holding [v] (eval a X.env)
      let iv ← holding [v, ov] (eval b X.env)
      standAt pos
      holding [v, ov, iv] (setItem ov iv v)
      release [v, ov, iv] []) := by intro _; rfl) : RG X (.Subscript a b pos) [] (dGSub da db) :=
  ⟨PG.imp (pg_sub ha.pe hb.pe set_list has) fun v σ H Q ⟨B, ρ, μ, d, QD, g, s, r, q, k⟩ => by
    refine ⟨B, ρ, μ, _, _, g, s, q, ⟨fun v1 d1 H1 B1 μ1 e1 g1 r1 q1 => ?_⟩, ⟨fun _ _ _ _ _ _ _ _ _ z => z.elim⟩⟩
    refine ⟨B1, ρ, μ1, _, _, g1, s.mono e1, q1, ⟨fun v2 d2 H2 B2 μ2 e2 g2 r2 q2 => ?_⟩, ⟨fun _ _ _ _ _ _ _ _ _ z => z.elim⟩⟩
    obtain ⟨p, ds, i, j, rfl, rfl, hm, hj, q2⟩ := q2
    obtain ⟨_, xs, h1, h2⟩ := g2.mo p _ hm
    refine ⟨p, xs, i, j, r1.ref_inv, r2.int_inv, h1, by rw [h2.length]; exact hj, ?_⟩
    exact k σ ρ _ B2 _ (e1.trans e2) (g2.put (m := .lst _) hm ⟨_, upd_same, RpL.set ((r.mono e1).mono e2) j h2⟩) (s.mono (e1.trans e2)) ⟨rfl, fun _ _ => rfl⟩ q2⟩
def sAsg (da : DE) (dg : DG) : DS := fun D ρ μ => da ρ μ (fun d μ1 => dg d ρ μ1 D.nx) D.xe
theorem up_asg {K : PySem.W.Frag} {vs : List Nat} {dg : DG} {D : Ends} {σ : L2.St} {H : Hp} (q : upS K W (sAsg da dg) D σ H) : tAsg (upE K W da) (upG K vs dg) D σ H := by
  obtain ⟨B, ρ, μ, DD, g, s, q, k⟩ := q
  refine ⟨B, ρ, μ, _, _, g, s, q, ⟨fun v d H1 B1 μ1 e1 g1 r1 q1 => ?_⟩, k.xe σ⟩
  exact ⟨B1, ρ, μ1, d, DD.nx, g1, s.mono e1, r1, q1, fun σ2 ρ2 H2 B2 μ2 e2 g2 s2 _ q2 => k.nx σ2 ρ2 H2 B2 μ2 (e1.trans e2) g2 s2 q2⟩
theorem rs_asg {tg : Expr} {vs : List Nat} {dg : DG} (he : RE X W e da) (hg : RG X tg vs dg) (hs : swapsWithSole [tg] e pos.line X.env = pure false := by rfl) (hw : swappedStores [tg] e X.env = pure none := by rfl)
    (h1 : (assignEach [tg] X.env).map (·.2) = [assign tg X.env] := by rfl) : RS X W (.Assign [tg] e pos) (sAsg da dg) := ⟨PS.imp (ps_asg he.pe hg.pg hs hw h1) fun _ _ _ q => up_asg q⟩
theorem rs_set {i : Nat} {x : Str} {pos' : Pos} (hN : X.N.Nodup) (hi : X.N[i]? = some x) (hx : Loc X.env.scope x) (he : RE X W e da) (hs : swapsWith e (some (.Name x pos')) pos.line X.env = pure false := by rfl) (hf : X.fn x = true ∨ X.env.scope.names.lookup x = some .local := by first | exact .inl rfl | exact .inr rfl | assumption) :
    RS X W (.Assign [.Name x pos'] e pos) (sAsg da (dName i)) :=
  ⟨PS.imp (ps_set hN hi hx he.pe hs hf) fun D σ H ⟨B, ρ, μ, DD, g, s, q, k⟩ => ⟨B, ρ, μ, _, _, g, s, q, ⟨fun v d H1 B1 μ1 e1 g1 r1 q1 => k.nx _ _ H1 B1 μ1 e1 g1 ((s.mono e1).set i r1) q1⟩, k.xe σ⟩⟩
/-- a, b = x, y, plain local names -/
def sPar (i j : Nat) (dr : DA) : DS := fun D ρ μ => dr ρ μ (fun ds μ1 => match ds with
  | [d, e] => D.nx ((ρ.set i (some d)).set j (some e)) μ1
  | _ => False) D.xe
theorem up_par {K : PySem.W.Frag} {i j : Nat} {D : Ends} {σ : L2.St} {H : Hp} (q : upS K W (sPar i j dr) D σ H) : tPar i j (upA K W dr) D σ H := by
  obtain ⟨B, ρ, μ, DD, g, s, q, k⟩ := q
  refine ⟨B, ρ, μ, _, _, g, s, q, fun vs ds H1 B1 μ1 e1 g1 r1 q1 => ?_, k.xe σ⟩
  split at q1
  · obtain ⟨v, w, rfl, h1, h2⟩ := r1.two_inv
    exact ⟨v, w, rfl, k.nx _ _ H1 B1 μ1 e1 g1 (((s.mono e1).set i h1).set j h2) q1⟩
  · exact q1.elim
/-- x op= e of numbers -/
def sAugI (i : Nat) (f : Int → Int → Int) (da : DE) : DS := fun D ρ μ => ∃ n, ρ[i]? = some (some (.int n)) ∧ da ρ μ (fun d μ1 => ∃ m, d = .int m ∧ D.nx (ρ.set i (some (.int (f n m)))) μ1) D.xe
theorem rs_augI {i : Nat} {x : Str} {op : Operator} {f : Int → Int → Int} {pos' : Pos} (ho : PIp X op (ipI f)) (hN : X.N.Nodup) (hi : X.N[i]? = some x) (hx : Loc X.env.scope x) (he : RE X W e da) (hf : X.fn x = true ∨ X.env.scope.names.lookup x = some .local := by first | exact .inl rfl | exact .inr rfl | assumption) :
    RS X W (.AugAssign (.Name x pos') op e pos) (sAugI i f da) :=
  ⟨PS.imp (ps_aug hN hi hx he.pe ho hf) fun D σ H ⟨B, ρ, μ, DD, g, s, q, k⟩ => by
    obtain ⟨n, h1, q⟩ := q
    obtain ⟨v, h2, h3⟩ := s.at_ i _ h1
    refine ⟨v, h2, B, ρ, μ, _, _, g, s, q, ⟨fun u d H1 B1 μ1 e1 g1 r1 q1 => ?_⟩, k.xe σ⟩
    obtain ⟨m, rfl, q1⟩ := q1
    exact ⟨n, m, h3.int_inv, r1.int_inv, k.nx _ _ H1 B1 μ1 e1 g1 ((s.mono e1).set i (.int _)) q1⟩⟩

/-! ### what is walked -/
abbrev DI := Rho → Mu → (List D → (Mu → Prop) → Mu → Prop) → XQ → Prop
/-- the turns of J over B are the items ds, while keep holds -/
def ItOk (K : PySem.W.Frag) (J : It) (B : Hp) (ds : List D) (keep : Mu → Prop) : Prop := ∀ i B' H' μ', Ext B B' → Good K B' H' μ' → keep μ' →
  (∀ d, ds[i]? = some d → J.go i H' ∧ ∀ x H2, J.yld i H' x H2 → ∃ B2, Ext B' B2 ∧ Good K B2 H2 μ' ∧ Rp K B2 x d) ∧ (ds.length ≤ i → J.stop i H')
structure RI (X : Cx) (W : WX) (tg iter : Expr) (di : DI) : Prop where
  pi : ∃ wi, PI X tg iter wi ∧ ∀ B ρ μ σ H QI QE (R : It → Hp → Prop), Good X.K B H μ → SlR X.K B σ ρ → di ρ μ QI QE → KtX X.K W B σ QE →
    (∀ J H1 B1 μ1 ds keep, Ext B B1 → Good X.K B1 H1 μ1 → ItOk X.K J B1 ds keep → QI ds keep μ1 → R J H1) → wi σ H R
/-- a list or a tuple -/
def iSeq (K : PySem.W.Frag) (tl : TE) : TI := fun σ H R => tl σ H fun x H1 => ∃ a, x = .ref a ∧ (((∃ xs, SqL K H1 a xs) ∧ R (Itl K a) H1) ∨ ((∃ xs, SqT K H1 a xs) ∧ R (Itt K a) H1))
theorem pi_seq {tg l : Expr} {tl : TE} (hl : PE X l tl) : PI X tg l (iSeq X.K tl) := by
  refine ⟨fun pins s σ H R I h => ?_⟩
  refine thn (hl.run pins s σ H _ I h) fun v s1 ⟨x, H1, I1, r1, q1⟩ => ?_
  obtain ⟨a, e, q1⟩ := q1
  subst e
  have fpq : ∀ o, ∀ b ∈ [s1.heap.objs.size], FpOk X pins H1 b := fun (o : Unit) b hb => by
    have e : b = s1.heap.objs.size := by simpa using hb
    subst e
    exact I1.fpOk (Nat.le_refl _) (I1.hok.fresh (Nat.le_refl _))
  cases r1
  rcases q1 with ⟨⟨xs, hq⟩, q⟩ | ⟨⟨xs, hq⟩, q⟩
  · obtain ⟨its, rv, p, hz⟩ := I1.list hq
    refine wpAny_pyIter_list p.isList ?_
    exact ⟨s1.heap.objs.size, [s1.heap.objs.size], _, _, H1, rfl, I1.kept (t' := s1.toks) fun b o e => Heap.get?_push_of_some _ e, turn_list a _, ⟨_, Heap.get?_push_size _ rfl, rfl, rfl⟩, fpq (), q⟩
  · obtain ⟨its, rv, p, hz⟩ := I1.tuple hq
    refine wpAny_pyIter_tuple (show s1.heap.IsTuple a its.toArray from p) ?_
    exact ⟨s1.heap.objs.size, [s1.heap.objs.size], _, _, H1, rfl, I1.kept (t' := s1.toks) fun b o e => Heap.get?_push_of_some _ e, turn_tuple a _, ⟨_, Heap.get?_push_size _ rfl, rfl, rfl⟩, fpq (), q⟩
def keepOf (d : D) (ds : List D) : Mu → Prop := match d with
  | .ref a => fun μ => μ a = some (.lst ds)
  | _ => fun _ => True
def iSeqD (da : DE) : DI := fun ρ μ Q E => da ρ μ (fun d μ1 => ∃ ds, seqOf μ1 d = some ds ∧ Q ds (keepOf d ds) μ1) E
theorem itl_ok {K : PySem.W.Frag} {B : Hp} {a : Addr} {ds : List D} {keep : Mu → Prop} (h : ∀ B' H' μ', Ext B B' → Good K B' H' μ' → keep μ' → ∃ xs, SqL K H' a xs ∧ RpL K B' xs ds) : ItOk K (Itl K a) B ds keep := by
  intro i B' H' μ' e g k
  obtain ⟨xs, h1, h2⟩ := h B' H' μ' e g k
  refine ⟨fun d hd => ?_, fun hl => ⟨xs, h1, by rw [h2.length]; exact hl⟩⟩
  obtain ⟨v, hv, rv⟩ := h2.get hd
  refine ⟨⟨xs, v, h1, hv⟩, fun x H2 y => ?_⟩
  obtain ⟨rfl, y⟩ := y
  have := y xs h1
  rw [hv] at this
  cases this
  exact ⟨B', Ext.rfl', g, rv⟩
theorem itt_ok {K : PySem.W.Frag} {B : Hp} {a : Addr} {ds : List D} {keep : Mu → Prop} (h : ∀ B' H' μ', Ext B B' → Good K B' H' μ' → keep μ' → ∃ xs, SqT K H' a xs ∧ RpL K B' xs ds) : ItOk K (Itt K a) B ds keep := by
  intro i B' H' μ' e g k
  obtain ⟨xs, h1, h2⟩ := h B' H' μ' e g k
  refine ⟨fun d hd => ?_, fun hl => ⟨xs, h1, by rw [h2.length]; exact hl⟩⟩
  obtain ⟨v, hv, rv⟩ := h2.get hd
  refine ⟨⟨xs, v, h1, hv⟩, fun x H2 y => ?_⟩
  obtain ⟨rfl, y⟩ := y
  have := y xs h1
  rw [hv] at this
  cases this
  exact ⟨B', Ext.rfl', g, rv⟩
theorem ri_seq {tg : Expr} (ha : RE X W a da) : RI X W tg a (iSeqD da) := ⟨_, pi_seq ha.pe, by
  intro B ρ μ σ H QI QE R g s q x k
  refine ⟨B, ρ, μ, _, QE, g, s, q, ⟨fun v d H1 B1 μ1 e1 g1 r1 q1 => ?_⟩, x⟩
  obtain ⟨ds, hd, q1⟩ := q1
  rcases seqOf_inv hd with rfl | rfl | hl
  · have r1' := r1
    obtain ⟨p, xs, rfl, h1, h2⟩ := r1.tup_inv
    refine ⟨p, rfl, .inr ⟨⟨xs, ext_t g1.ex h1⟩, k _ H1 B1 μ1 ds _ e1 g1 (itt_ok fun B' H' μ' e g' _ => ⟨xs, ext_t (e.trans g'.ex) h1, h2.mono e⟩) q1⟩⟩
  · obtain ⟨p, xs, rfl, h1, h2⟩ := r1.arg_inv
    exact ⟨p, rfl, .inl ⟨⟨xs, ext_l g1.ex h1⟩, k _ H1 B1 μ1 ds _ e1 g1 (itl_ok fun B' H' μ' e g' _ => ⟨xs, ext_l (e.trans g'.ex) h1, h2.mono e⟩) q1⟩⟩
  · rcases listOf_inv hl with rfl | ⟨p, rfl, hm⟩
    · obtain ⟨p, xs, rfl, h1, h2⟩ := r1.lst_inv
      exact ⟨p, rfl, .inl ⟨⟨xs, .inl (ext_rd g1.ex h1)⟩, k _ H1 B1 μ1 ds _ e1 g1 (itl_ok fun B' H' μ' e g' _ => ⟨xs, .inl (ext_rd (e.trans g'.ex) h1), h2.mono e⟩) q1⟩⟩
    · obtain ⟨_, xs, h1, h2⟩ := g1.mo p _ hm
      refine ⟨p, r1.ref_inv, .inl ⟨⟨xs, .inl (.inl h1)⟩, k _ H1 B1 μ1 ds _ e1 g1 (itl_ok fun B' H' μ' e g' kp => ?_) q1⟩⟩
      obtain ⟨_, ys, h3, h4⟩ := g'.mo p _ kp
      exact ⟨ys, .inl (.inl h3), h4⟩⟩
/-- range(b), range(a, b) -/
def rng (lo : Int) (n : Nat) : List D := (List.range n).map fun i => .int (lo + (i : Nat))
def iRng1D (da : DE) : DI := fun ρ μ Q E => da ρ μ (fun d μ1 => ∃ j, d = .int j ∧ -(2 ^ 62) ≤ j ∧ j < 2 ^ 62 ∧ Q (rng 0 j.toNat) (fun _ => True) μ1) E
def iRng2D (da db : DE) : DI := fun ρ μ Q E => da ρ μ (fun d μ1 => db ρ μ1 (fun e μ2 => ∃ i j, d = .int i ∧ e = .int j ∧ (-(2 ^ 62) ≤ i ∧ i < 2 ^ 62 ∧ -(2 ^ 62) ≤ j ∧ j < 2 ^ 62) ∧ Q (rng i (j - i).toNat) (fun _ => True) μ2) E) E
theorem itr_ok {K : PySem.W.Frag} {B : Hp} {lo : Int} {n : Nat} {keep : Mu → Prop} : ItOk K (Itr lo n) B (rng lo n) keep := by
  intro i B' H' μ' e g k
  refine ⟨fun d hd => ?_, fun hl => by unfold rng at hl; show n ≤ i; simpa using hl⟩
  unfold rng at hd
  rw [List.getElem?_map] at hd
  by_cases c : i < n
  · rw [List.getElem?_range c] at hd
    cases hd
    refine ⟨c, fun x H2 y => ?_⟩
    obtain ⟨rfl, rfl⟩ := y
    exact ⟨B', Ext.rfl', g, .int _⟩
  · rw [List.getElem?_eq_none (by simpa using c)] at hd
    cases hd
theorem ri_range1 {tg : Expr} {p : Pos} (hg : Gl X "range") (hm : X.mg "range" = none) (ha : RE X W a da) (hs : starEach [a] X.env = [(false, eval a X.env)] := by rfl) : RI X W tg (.Call (.Name "range" p) [a] [] pos) (iRng1D da) :=
  ⟨_, pi_range1 hg hm (ra_cons ha ra_nil (hs.trans (by rfl))).pa hs, by
    intro B ρ μ σ H QI QE R g s q x k
    refine ⟨B, ρ, μ, (fun ds μ1 => match ds with | [d] => ∃ j, d = .int j ∧ -(2 ^ 62) ≤ j ∧ j < 2 ^ 62 ∧ QI (rng 0 j.toNat) (fun _ => True) μ1 | _ => False), QE, g, s, q, fun vs ds H1 B1 μ1 e1 g1 r1 q1 => ?_, x⟩
    dsimp only at q1
    split at q1
    · obtain ⟨u, rfl, r⟩ := r1.one_inv
      obtain ⟨j, rfl, h1, h2, q1⟩ := q1
      exact ⟨j, by rw [r.int_inv], h1, h2, k _ H1 B1 μ1 _ _ e1 g1 itr_ok q1⟩
    · exact q1.elim⟩
theorem ri_range2 {tg : Expr} {p : Pos} (hg : Gl X "range") (hm : X.mg "range" = none) (ha : RE X W a da) (hb : RE X W b db) (hs : starEach [a, b] X.env = [(false, eval a X.env), (false, eval b X.env)] := by rfl) (hs2 : starEach [b] X.env = [(false, eval b X.env)] := by rfl) :
    RI X W tg (.Call (.Name "range" p) [a, b] [] pos) (iRng2D da db) :=
  ⟨_, pi_range2 hg hm (ra_cons ha (ra_cons hb ra_nil (hs2.trans (by rfl))) (hs.trans (by rw [hs2]))).pa hs hs2, by
    intro B ρ μ σ H QI QE R g s q x k
    refine ⟨B, ρ, μ, (fun ds μ1 => match ds with | [d, e] => ∃ i j, d = .int i ∧ e = .int j ∧ (-(2 ^ 62) ≤ i ∧ i < 2 ^ 62 ∧ -(2 ^ 62) ≤ j ∧ j < 2 ^ 62) ∧ QI (rng i (j - i).toNat) (fun _ => True) μ1 | _ => False), QE, g, s, q, fun vs ds H1 B1 μ1 e1 g1 r1 q1 => ?_, x⟩
    dsimp only at q1
    split at q1
    · obtain ⟨u, v, rfl, r, r'⟩ := r1.two_inv
      obtain ⟨i, j, rfl, rfl, h1, q1⟩ := q1
      exact ⟨i, j, by rw [r.int_inv, r'.int_inv], h1, k _ H1 B1 μ1 _ _ e1 g1 itr_ok q1⟩
    · exact q1.elim⟩

/-! ### for -/
def forBody (dg : DG) (body : DS) (D : DEnds) (ρ : Rho) : List DL.D → (Mu → Prop) → Mu → Prop := fun ds keep μ1 => ∃ P : Nat → Rho → Mu → Prop, P 0 ρ μ1 ∧ (∀ i ρ' μ', i ≤ ds.length → P i ρ' μ' → keep μ') ∧
  (∀ i d ρ' μ', ds[i]? = some d → P i ρ' μ' → dg d ρ' μ' fun ρ2 μ2 => body { D with nx := P (i + 1), ct := P (i + 1), bk := D.nx } ρ2 μ2) ∧ (∀ ρ' μ', P ds.length ρ' μ' → D.nx ρ' μ')
def sFor (di : DI) (dg : DG) (body : DS) : DS := fun D ρ μ => di ρ μ (forBody dg body D ρ) D.xe
theorem rs_for {tg iter : Expr} {body : List Stmt} {di : DI} {dg : DG} {vs : List Nat} (hp : PassesOwn (model X.prog X.w) X.A X.env X.xe) (hc : X.calm = true) (hi : RI X W tg iter di) (hg : RG X tg vs dg) (hb : RSs X W body s1)
    (hs : ∀ x, foldedSetIterable iter X.env x = pure x := by intro _; rfl) : RS X W (.For tg iter body [] pos) (sFor di dg s1) := by
  obtain ⟨wi, hw, hr⟩ := hi.pi
  refine ⟨PS.imp (ps_for hp hc hw hg.pg hb.pss hs) fun D σ H ⟨B, ρ, μ, DD, g, s, q, k⟩ => ?_⟩
  refine hr B ρ μ σ H _ DD.xe _ g s q (k.xe σ) fun J H1 B1 μ1 ds keep e1 g1 ok q1 => ?_
  obtain ⟨P, p0, pk, pt, pe⟩ := q1
  refine ⟨fun i m σ' H' => m = ds.length - i ∧ i ≤ ds.length ∧ ∃ B' ρ' μ', Ext B1 B' ∧ Good X.K B' H' μ' ∧ SlR X.K B' σ' ρ' ∧ P i ρ' μ', ⟨ds.length, by simp, Nat.zero_le _, B1, ρ, μ1, Ext.rfl', g1, s.mono e1, p0⟩, ?_⟩
  rintro i m σ' H' ⟨rfl, hil, B', ρ', μ', e', g', s', p'⟩
  obtain ⟨o1, o2⟩ := ok i B' H' μ' e' g' (pk i ρ' μ' hil p')
  by_cases hlt : i < ds.length
  · obtain ⟨hgo, hy⟩ := o1 ds[i] (by simp [hlt])
    refine .inr ⟨hgo, fun σ2 H2 => ∃ B2 ρ2 μ2, Ext B1 B2 ∧ Good X.K B2 H2 μ2 ∧ SlR X.K B2 σ2 ρ2 ∧ P (i + 1) ρ2 μ2, fun σ2 H2 ⟨B2, ρ2, μ2, h1, h2, h3, h4⟩ => ⟨ds.length - (i + 1), by omega, rfl, hlt, B2, ρ2, μ2, h1, h2, h3, h4⟩, fun x H2 y => ?_⟩
    obtain ⟨B2, e2, g2, r2⟩ := hy x H2 y
    refine ⟨B2, ρ', μ', _, _, g2, s'.mono e2, r2, pt i _ ρ' μ' (by simp [hlt]) p', fun σ3 ρ3 H3 B3 μ3 e3 g3 s3 _ q3 => ?_⟩
    have e03 := (e'.trans e2).trans e3
    have k3 := k.mono (e1.trans e03)
    refine ⟨B3, ρ3, μ3, _, g3, s3, q3, ⟨fun σ4 ρ4 H4 B4 μ4 e4 g4 s4 q4 => ?_, fun σ4 ρ4 H4 B4 μ4 e4 g4 s4 q4 => k3.nx σ4 ρ4 H4 B4 μ4 e4 g4 s4 q4, fun σ4 ρ4 H4 B4 μ4 e4 g4 s4 q4 => ?_, k3.rt, k3.xe⟩⟩
    · exact ⟨B4, ρ4, μ4, e03.trans e4, g4, s4, q4⟩
    · exact ⟨B4, ρ4, μ4, e03.trans e4, g4, s4, q4⟩
  · have e : i = ds.length := by omega
    subst e
    exact .inl ⟨o2 (Nat.le_refl _), k.nx σ' ρ' H' B' μ' (e1.trans e') g' s' (pe ρ' μ' p')⟩
/-! ### while -/
def sWhile (t : DT) (body : DS) : DS := fun D ρ μ => ∃ P : Nat → Rho → Mu → Prop, (∃ m, P m ρ μ) ∧ ∀ m ρ' μ', P m ρ' μ' → t ρ' μ' (fun b μ1 => if b = true then body { D with nx := fun ρ2 μ2 => ∃ m', m' < m ∧ P m' ρ2 μ2, ct := fun ρ2 μ2 => ∃ m', m' < m ∧ P m' ρ2 μ2, bk := D.nx } ρ' μ1 else D.nx ρ' μ1) D.xe
theorem rs_while {body : List Stmt} (hp : PassesOwn (model X.prog X.w) X.A X.env X.xe) (hc : RT X W c dt) (hb : RSs X W body s1) : RS X W (.While c body [] pos) (sWhile dt s1) := by
  refine ⟨PS.imp (ps_while hp hc.pt hb.pss) fun D σ H ⟨B, ρ, μ, DD, g, s, q, k⟩ => ?_⟩
  obtain ⟨P, ⟨m0, p0⟩, pt⟩ := q
  refine ⟨fun m σ' H' => ∃ B' ρ' μ', Ext B B' ∧ Good X.K B' H' μ' ∧ SlR X.K B' σ' ρ' ∧ P m ρ' μ', ⟨m0, B, ρ, μ, Ext.rfl', g, s, p0⟩, ?_⟩
  rintro m σ' H' ⟨B', ρ', μ', e', g', s', p'⟩
  refine ⟨B', ρ', μ', _, DD.xe, g', s', pt m ρ' μ' p', fun b H2 B2 μ2 e2 g2 q2 => ?_, (k.xe σ').mono e'⟩
  cases b with
  | false => exact k.nx σ' ρ' H2 B2 μ2 (e'.trans e2) g2 (s'.mono e2) q2
  | true =>
    refine ⟨fun σ3 H3 => ∃ m', m' < m ∧ ∃ B3 ρ3 μ3, Ext B B3 ∧ Good X.K B3 H3 μ3 ∧ SlR X.K B3 σ3 ρ3 ∧ P m' ρ3 μ3, fun σ3 H3 ⟨m', h1, h2⟩ => ⟨m', h1, h2⟩, ?_⟩
    have k2 := k.mono (e'.trans e2)
    refine ⟨B2, ρ', μ2, _, g2, s'.mono e2, q2, ⟨fun σ4 ρ4 H4 B4 μ4 e4 g4 s4 ⟨m', h1, h2⟩ => ⟨m', h1, B4, ρ4, μ4, (e'.trans e2).trans e4, g4, s4, h2⟩, fun σ4 ρ4 H4 B4 μ4 e4 g4 s4 q4 => k2.nx σ4 ρ4 H4 B4 μ4 e4 g4 s4 q4, fun σ4 ρ4 H4 B4 μ4 e4 g4 s4 ⟨m', h1, h2⟩ => ⟨m', h1, B4, ρ4, μ4, (e'.trans e2).trans e4, g4, s4, h2⟩, k2.rt, k2.xe⟩⟩
/-! ### [e for x in xs if t] -/
def wipeD (ρ : Rho) : List Nat → Rho
  | [] => ρ
  | v :: vs => (wipeD ρ vs).set v none
theorem SlR.wipe {K : PySem.W.Frag} {B : Hp} {σ : L2.St} {ρ : Rho} (s : SlR K B σ ρ) : ∀ vs, SlR K B (wipe σ vs) (wipeD ρ vs)
  | [] => s
  | v :: vs => by
    have ih := s.wipe vs
    refine ⟨by unfold L2.wipe wipeD; simp [ih.len], fun i d h => ?_⟩
    unfold wipeD at h
    unfold L2.wipe
    by_cases c : v = i
    · subst c
      rw [List.getElem?_set] at h
      simp only [if_true] at h
      split at h <;> cases h
    · rw [List.getElem?_set_ne c] at h ⊢
      exact ih.at_ i d h
theorem wipe_same {σ σ2 : L2.St} : ∀ {vs ws : List Nat}, (∀ v ∈ vs, v ∈ ws) → Same' vs (wipe σ ws) σ2 → wipe σ2 ws = wipe σ ws := by
  intro vs ws hv h
  apply List.ext_getElem?
  intro j
  by_cases hj : j ∈ ws
  · have key : ∀ (τ : L2.St) (us : List Nat), j ∈ us → (wipe τ us)[j]? = if j < τ.length then some none else none := by
      intro τ us
      induction us with
      | nil => intro h; cases h
      | cons u us ih =>
        intro hm
        unfold wipe
        rw [List.getElem?_set, wipe_length]
        by_cases c : u = j
        · rw [if_pos c]
          subst c
          rfl
        · rw [if_neg c]
          exact ih (by rcases List.mem_cons.mp hm with e | e; exact absurd e.symm c; exact e)
    rw [key σ2 ws hj, key σ ws hj, h.1, wipe_length]
  · rw [wipe_out hj, h.2 j (fun z => hj (hv j z))]
theorem mdel_mset {μ : Mu} {p : Addr} {m : MO} (h : μ p = none) : mdel (mset μ p m) p = μ := by
  funext b
  unfold mdel mset
  by_cases c : b = p
  · rw [if_pos c, c, h]
  · rw [if_neg c, if_neg c]
def tTrue : DT := fun _ μ Q _ => Q true μ
structure RTs (X : Cx) (W : WX) (ifs : List Expr) (dt : DT) : Prop where
  pts : PTs X ifs (upT X.K W dt)
theorem PTs.imp {ifs : List Expr} {t t' : TT} (h : PTs X ifs t) (i : ∀ σ H Q, t' σ H Q → t σ H Q) : PTs X ifs t' := ⟨fun pins s σ H Q I q => h.run pins s σ H Q I (i σ H Q q)⟩
theorem rts_nil : RTs X W [] tTrue := ⟨PTs.imp pts_nil fun σ H Q ⟨B, ρ, μ, QD, QE, g, s, q, k, x⟩ => k true H B μ Ext.rfl' g q⟩
theorem rts_one (h : RT X W c dt) : RTs X W [c] dt := ⟨pts_one h.pt⟩
/-- the list at p grows; at the end it stands still (z = false) or will be changed (z = true) -/
def lcBody (z : Bool) (dg : DG) (dt : DT) (de : DE) (ws : List Nat) (ρ : Rho) (Q : DQ) : List D → (Mu → Prop) → Mu → Prop := fun ds keep μ1 => ∀ p, μ1 p = none → ∃ P : Nat → List D → Mu → Prop, P 0 [] μ1 ∧ (∀ i acc μ', P i acc μ' → μ' p = none ∧ keep (mset μ' p (.lst acc)) ∧ acc.length ≤ i) ∧ ds.length ≤ sizeLine ∧
  (∀ i d acc μ', ds[i]? = some d → P i acc μ' → dg d (wipeD ρ ws) (mset μ' p (.lst acc)) fun ρ2 μ2 => dt ρ2 μ2 (fun b μ3 => if b = true then de ρ2 μ3 (fun y μ4 => μ4 p = some (.lst acc) ∧ P (i + 1) (acc ++ [y]) (mdel μ4 p)) (fun _ _ => False) else μ3 p = some (.lst acc) ∧ P (i + 1) acc (mdel μ3 p)) (fun _ _ => False)) ∧
  (∀ acc μ', P ds.length acc μ' → if z = true then Q (.ref p) (mset μ' p (.lst acc)) else Q (.lst acc) μ')
def dLc (z : Bool) (di : DI) (dg : DG) (dt : DT) (de : DE) (ws : List Nat) : DE := fun ρ μ Q E => di ρ μ (lcBody z dg dt de ws ρ Q) E
theorem mset_back {μ : Mu} {p : Addr} {m : MO} (h : μ p = some m) : mset (mdel μ p) p m = μ := by
  funext b
  unfold mset mdel
  by_cases c : b = p
  · rw [if_pos c, c, h]
  · rw [if_neg c, if_neg c]
theorem up_lc {z : Bool} {tg iter : Expr} {di : DI} {dg : DG} {de : DE} {vs ws : List Nat} {wi : TI} (hv : ∀ v ∈ vs, v ∈ ws) (hr : ∀ B ρ μ σ H QI QE (R : It → Hp → Prop), Good X.K B H μ → SlR X.K B σ ρ → di ρ μ QI QE → KtX X.K W B σ QE →
    (∀ J H1 B1 μ1 ds keep, Ext B B1 → Good X.K B1 H1 μ1 → ItOk X.K J B1 ds keep → QI ds keep μ1 → R J H1) → wi σ H R) {σ : L2.St} {H : Hp} {Q : VK} (q : upE X.K W (dLc z di dg dt de ws) σ H Q) :
    tLc wi (upG X.K vs dg) (upT X.K (fun _ _ _ _ => False) dt) (upE X.K (fun _ _ _ _ => False) de) ws σ H Q := by
  obtain ⟨B, ρ, μ, QD, QE, g, s, q, k, x⟩ := q
  refine hr B ρ μ σ H _ QE _ g s q x fun J H1 B1 μ1 ds keep e1 g1 ok q1 => ?_
  intro p hp
  obtain ⟨P, p0, pk, hz, pt, pe⟩ := q1 p (g1.free hp)
  refine ⟨fun i m H' => m = ds.length - i ∧ i ≤ ds.length ∧ ∃ B' μ' acc, Ext B1 B' ∧ Good X.K B' H' (mset μ' p (.lst acc)) ∧ P i acc μ', ⟨ds.length, by simp, Nat.zero_le _, B1, μ1, [], Ext.rfl', g1.fresh (m := .lst []) hp ⟨_, upd_same, .nil⟩, p0⟩, ?_⟩
  rintro i m H' ⟨rfl, hil, B', μ', acc, e', g', p'⟩
  obtain ⟨hn, hk, ha⟩ := pk i acc μ' p'
  obtain ⟨o1, o2⟩ := ok i B' H' _ e' g' hk
  by_cases hlt : i < ds.length
  · obtain ⟨hgo, hy⟩ := o1 ds[i] (by simp [hlt])
    refine .inr ⟨hgo, fun H2 => ∃ B2 μ2 acc2, Ext B1 B2 ∧ Good X.K B2 H2 (mset μ2 p (.lst acc2)) ∧ P (i + 1) acc2 μ2, fun H2 ⟨B2, μ2, acc2, h1, h2, h3⟩ => ⟨ds.length - (i + 1), by omega, rfl, hlt, B2, μ2, acc2, h1, h2, h3⟩, fun y H2 yy => ?_⟩
    obtain ⟨B2, e2, g2, r2⟩ := hy y H2 yy
    refine ⟨B2, _, _, _, _, g2, ((s.mono (e1.trans (e'.trans e2))).wipe ws), r2, pt i _ acc μ' (by simp [hlt]) p', fun σ3 ρ3 H3 B3 μ3 e3 g3 s3 m3 q3 => ⟨wipe_same hv m3, ?_⟩⟩
    refine ⟨B3, ρ3, μ3, _, _, g3, s3, q3, fun b H4 B4 μ4 e4 g4 q4 => ?_, ⟨fun _ _ _ _ _ _ _ _ _ z => z.elim⟩⟩
    have e04 := ((e'.trans e2).trans e3).trans e4
    cases b with
    | false =>
      refine ⟨B4, mdel μ4 p, acc, e04, ?_, q4.2⟩
      rw [mset_back q4.1]
      exact g4
    | true =>
      refine ⟨B4, ρ3, μ4, _, _, g4, s3.mono e4, q4, ⟨fun v d H5 B5 μ5 e5 g5 r5 q5 => ?_⟩, ⟨fun _ _ _ _ _ _ _ _ _ z => z.elim⟩⟩
      obtain ⟨hm, q5⟩ := q5
      obtain ⟨_, xs, h1, h2⟩ := g5.mo p _ hm
      refine ⟨xs, h1, by rw [h2.length]; omega, B5, mdel μ5 p, acc ++ [d], e04.trans e5, ?_, q5⟩
      have := g5.put (o := .lst (xs ++ [v])) (m := .lst (acc ++ [d])) hm ⟨_, upd_same, h2.append (.cons r5 .nil)⟩
      have e : mset (mdel μ5 p) p (.lst (acc ++ [d])) = mset μ5 p (.lst (acc ++ [d])) := by
        funext b
        unfold mset mdel
        by_cases c : b = p
        · rw [if_pos c, if_pos c]
        · rw [if_neg c, if_neg c, if_neg c]
      rw [e]
      exact this
  · have e : i = ds.length := by omega
    subst e
    refine .inl ⟨o2 (Nat.le_refl _), ?_⟩
    have qe := pe acc μ' p'
    cases z with
    | true => exact k.ok _ _ H' B' _ (e1.trans e') g' (.ref p) qe
    | false =>
      obtain ⟨B3, e3, g3, r3⟩ := g'.freeze (mset_same (m := .lst acc))
      rw [mdel_mset hn] at g3
      exact k.ok _ _ H' B3 μ' (e1.trans (e'.trans e3)) g3 r3 qe
theorem re_lc (z : Bool) {tg iter elt : Expr} {ifs : List Expr} {scope : Scope} {own : List (Str × Nat)} {di : DI} {dg : DG} {de : DE} {vs : List Nat} (hc : X.calm = true) (hN : X.N.Nodup) (hi : RI X W tg iter di) (ok : BlkOk X.N X.env.scope scope own) (hv : ∀ v ∈ vs, v ∈ own.map (·.2))
    (hg : ∀ (s : Shared) (H : Hp) (C : Addr) (cl : List (Str × Addr)) (fp : List Addr), RG (X.blk s H scope (compEnvC scope cl C X.env) fp) tg vs dg)
    (ht : ∀ (s : Shared) (H : Hp) (C : Addr) (cl : List (Str × Addr)) (fp : List Addr), RTs (X.blk s H scope (compEnvC scope cl C X.env) fp) (fun _ _ _ _ => False) ifs dt)
    (he : ∀ (s : Shared) (H : Hp) (C : Addr) (cl : List (Str × Addr)) (fp : List Addr), RE (X.blk s H scope (compEnvC scope cl C X.env) fp) (fun _ _ _ _ => False) elt de) (hs : ∀ x, foldedSetIterable iter X.env x = pure x := by intro _; rfl) :
    RE X W (.ListComp elt [⟨tg, iter, ifs, 0⟩] scope pos) (dLc z di dg dt de (own.map (·.2))) := by
  obtain ⟨wi, hw, hr⟩ := hi.pi
  exact ⟨PE.imp (pe_lc (g := upG X.K vs dg) (tt := upT X.K (fun _ _ _ _ => False) dt) (te := upE X.K (fun _ _ _ _ => False) de) hc hN hw ok (fun s H C cl fp => (hg s H C cl fp).pg) (fun s H C cl fp => (ht s H C cl fp).pts) (fun s H C cl fp => (he s H C cl fp).pe) hs) fun σ H Q q => up_lc (tg := tg) (iter := iter) hv hr q⟩
theorem rs_setLc (z : Bool) {i : Nat} {y : Str} {py : Pos} {tg iter elt : Expr} {ifs : List Expr} {scope : Scope} {own : List (Str × Nat)} {spos : Pos} {di : DI} {dg : DG} {de : DE} {vs : List Nat} (hc : X.calm = true) (hN : X.N.Nodup) (hy : X.N[i]? = some y) (hyl : X.env.scope.names.lookup y = some .local)
    (hsw : swapsWith (.ListComp elt [⟨tg, iter, ifs, 0⟩] scope pos) (some (.Name y py)) spos.line X.env = pure true) (hi : RI X W tg iter di) (ok : BlkOk X.N X.env.scope scope own) (hv : ∀ v ∈ vs, v ∈ own.map (·.2))
    (hg : ∀ (s : Shared) (H : Hp) (C : Addr) (cl : List (Str × Addr)) (fp : List Addr), RG (X.blk s H scope (compEnvC scope cl C X.env) fp) tg vs dg)
    (ht : ∀ (s : Shared) (H : Hp) (C : Addr) (cl : List (Str × Addr)) (fp : List Addr), RTs (X.blk s H scope (compEnvC scope cl C X.env) fp) (fun _ _ _ _ => False) ifs dt)
    (he : ∀ (s : Shared) (H : Hp) (C : Addr) (cl : List (Str × Addr)) (fp : List Addr), RE (X.blk s H scope (compEnvC scope cl C X.env) fp) (fun _ _ _ _ => False) elt de) (hs : ∀ x, foldedSetIterable iter X.env x = pure x := by intro _; rfl) :
    RS X W (.Assign [.Name y py] (.ListComp elt [⟨tg, iter, ifs, 0⟩] scope pos) spos) (sAsg (dLc z di dg dt de (own.map (·.2))) (dName i)) := by
  obtain ⟨wi, hw, hr⟩ := hi.pi
  refine ⟨PS.imp (ps_setLc (g := upG X.K vs dg) (tt := upT X.K (fun _ _ _ _ => False) dt) (te := upE X.K (fun _ _ _ _ => False) de) hc hN hy hyl hsw hw ok (fun s H C cl fp => (hg s H C cl fp).pg) (fun s H C cl fp => (ht s H C cl fp).pts) (fun s H C cl fp => (he s H C cl fp).pe) hs) fun D σ H ⟨B, ρ, μ, DD, g, s, q, k⟩ => ?_⟩
  exact up_lc (tg := tg) (iter := iter) hv hr ⟨B, ρ, μ, _, _, g, s, q, ⟨fun v d H1 B1 μ1 e1 g1 r1 q1 => k.nx _ _ H1 B1 μ1 e1 g1 ((s.mono e1).set i r1) q1⟩, k.xe σ⟩
end
end DL

/-! The data layer, 6: isinstance, repr, repetition, list(range(..)). -/
namespace DL
open PySem PySem.Spec PyProof.Rows L2
section
variable {X : Cx} {W : WX} {e a b c : Expr} {es : List Expr} {da db dc : DE} {dt du : DT} {dr dk : DA} {pos : Pos}
/-! ### isinstance of built-in classes -/
def tyD (μ : Mu) : D → Option String
  | .non => some "NoneType"
  | .bl _ => some "bool"
  | .int _ => some "int"
  | .str _ => some "str"
  | .lst _ => some "list"
  | .tup _ => some "tuple"
  | .ref a => match μ a with
    | some (.lst _) => some "list"
    | some (.dct _) => some "dict"
    | none => none
  | _ => none
theorem tyD_X {K : PySem.W.Frag} {B H : Hp} {μ : Mu} {v : V} {d : D} {t : String} (g : Good K B H μ) (r : Rp K B v d) (h : tyD μ d = some t) : TyX K H v (.type t) := by
  cases r with
  | non => cases h; exact .base .non
  | bl b => cases h; exact .base (.bl b)
  | int i => cases h; exact .base (.int i)
  | str x => cases h; exact .base (.str x)
  | lst h1 _ =>
    cases h
    rcases ext_rd g.ex h1 with h1 | ⟨o, h1⟩
    · exact .base (.lst h1)
    · exact .base (.frz h1)
  | tup h1 _ =>
    cases h
    rcases ext_t g.ex h1 with (h1 | ⟨o, h1⟩) | ⟨o, its, n, h1, h2, _⟩
    · exact .base (.tup h1)
    · exact .fTuple h1
    · exact .kTuple h1 h2
  | arg _ _ => cases h
  | ins _ _ _ => cases h
  | cls _ => cases h
  | ref a =>
    have h : (match μ a with | some (.lst _) => some "list" | some (.dct _) => some "dict" | none => none) = some t := h
    split at h
    · rename_i e
      cases h
      obtain ⟨_, xs, h1, _⟩ := g.mo a _ e
      exact .base (.lst h1)
    · rename_i e
      cases h
      obtain ⟨_, xs, h1, _⟩ := g.mo a _ e
      exact .base (.dK h1)
    · cases h
  | ty _ => cases h
def cdIsi : CD := fun ds μ Q => match ds with
  | [d, .ty T] => ∃ t b, tyD μ d = some t ∧ kitB t T = some b ∧ Q (.bl b) μ
  | _ => False
theorem ca_isi {K : PySem.W.Frag} : CaD K (rIsi K) cdIsi := by
  intro B H μ xs ds QD Q g r q k
  unfold cdIsi at q
  split at q
  · obtain ⟨v, w, rfl, r1, r2⟩ := r.two_inv
    obtain ⟨t, b, h1, h2, q⟩ := q
    cases r2
    exact ⟨_, _, _, _, b, rfl, .ty _, tyD_X g r1 h1, kit_ty h2, k.ok _ _ H B μ Ext.rfl' g (.bl b) q⟩
  · exact q.elim
/-! ### repr of data -/
/-- repr of data, where no other repr runs around -/
def rRepr (K : PySem.W.Frag) : List V → Hp → VK → Prop := fun xs H Q => ∃ x d, xs = [x] ∧ Dp K H x d ∧ (∃ a, x = .ref a) ∧ d.showable = true ∧ d.hasDict = false ∧ d.depth ≤ 64 ∧ d.shown.length ≤ sizeLine ∧ Q (.str d.shown) H
theorem call_repr (hg : X.A.guards = some []) (hu : X.A.units + 100 < cLine) : CallR X (.builtin "repr") (rRepr X.K) := by
  intro pins s σ H xs us Q I r h
  obtain ⟨x, d, rfl, hd, ⟨a, rfl⟩, h1, h2, h3, h4, q⟩ := h
  obtain ⟨u, rfl, ru⟩ := vals1 r
  obtain ⟨as, rd⟩ := Dp.reads I d _ _ hd ru
  cases ru
  refine repr_of_reads' (h₀ := s.heap) rd h1 (fun z => by rw [h2] at z; cases z) hg (by omega) (fun _ _ h => h) (fun h' u tk hk => ?_) h4
  exact ⟨.str d.shown, H, I.kept (t' := tk) hk, ⟨_, rfl⟩, q⟩
def cdRepr : CD := fun ds μ Q => match ds with
  | [d] => ∃ p, pyM μ d = some p ∧ (∀ a, (∃ x, d = .str x) ∨ (∃ i, d = .int i) ∨ d = .non ∨ (∃ b, d = .bl b) → a = false) ∧ p.showable = true ∧ p.hasDict = false ∧ p.depth ≤ 64 ∧ p.shown.length ≤ sizeLine ∧ Q (.str p.shown) μ
  | _ => False
theorem dp_ref {K : PySem.W.Frag} {B : Hp} {μ : Mu} {v : V} {d : D} {p : PyData} (r : Rp K B v d) (h : pyM μ d = some p) (n : ∀ a, (∃ x, d = .str x) ∨ (∃ i, d = .int i) ∨ d = .non ∨ (∃ b, d = .bl b) → a = false) : ∃ a, v = .ref a := by
  have n := n true
  cases r with
  | non => exact absurd (n (.inr (.inr (.inl rfl)))) (by decide)
  | bl b => exact absurd (n (.inr (.inr (.inr ⟨b, rfl⟩)))) (by decide)
  | int i => exact absurd (n (.inr (.inl ⟨i, rfl⟩))) (by decide)
  | str x => exact absurd (n (.inl ⟨x, rfl⟩)) (by decide)
  | lst _ _ => exact ⟨_, rfl⟩
  | tup _ _ => exact ⟨_, rfl⟩
  | arg _ _ => exact ⟨_, rfl⟩
  | ins _ _ _ => exact ⟨_, rfl⟩
  | cls _ => exact ⟨_, rfl⟩
  | ref a => exact ⟨_, rfl⟩
  | ty n => cases h
theorem ca_repr {K : PySem.W.Frag} : CaD K (rRepr K) cdRepr := by
  intro B H μ xs ds QD Q g r q k
  unfold cdRepr at q
  split at q
  · obtain ⟨v, rfl, r1⟩ := r.one_inv
    obtain ⟨p, h1, h2, h3, h4, h5, h6, q⟩ := q
    exact ⟨_, p, rfl, pyM_dp g r1 h1, dp_ref r1 h1 h2, h3, h4, h5, h6, k.ok _ _ H B μ Ext.rfl' g (.str _) q⟩
  · exact q.elim
/-! ### d * n -/
/-- numbers; a list that nobody else holds: [e] * n, the new one to be changed (z) or not -/
theorem op_repL : OpR X (binaryOp .Mult) rRep := op_rep
def CMulA (i j : Int) : Prop := CMul i j ∨ CMulW i j
theorem op_mulA : OpR X (binaryOp .Mult) (rI CMulA fun i j => .int (i * j)) := opI fun _ _ _ _ _ _ _ hc q => mul_int q (hc.elim CMul.ok CMulW.ok)
def rMulAll : R2 := fun x y H Q => (rI CMulA fun i j => .int (i * j)) x y H Q ∨ rRep x y H Q
theorem op_mulAll : OpR X (binaryOp .Mult) rMulAll := (op_mulA).or op_rep
def rdMul (z : Bool) : D2 := fun d e μ Q => match d, e with
  | .int i, .int j => CMulA i j ∧ Q (.int (i * j)) μ
  | .ref a, .int k => ∃ ds, μ a = some (.lst ds) ∧ -(2 ^ 63) ≤ k ∧ k < 2 ^ 63 ∧ ds.length * k.toNat ≤ sizeLine ∧ if z = true then ∀ p, μ p = none → Q (.ref p) (mset μ p (.lst (List.replicate k.toNat ds).flatten)) else Q (.lst (List.replicate k.toNat ds).flatten) μ
  | _, _ => False
theorem od_mul {K : PySem.W.Frag} {z : Bool} : OpD K rMulAll (rdMul z) := by
  intro B H μ x y d e QD Q g rx ry q k
  unfold rdMul at q
  split at q
  · exact .inl ⟨_, _, rx.int_inv, ry.int_inv, q.1, k.ok _ _ H B μ Ext.rfl' g (.int _) q.2⟩
  · obtain ⟨ds, hm, h1, h2, h3, q⟩ := q
    obtain ⟨_, xs, h4, h5⟩ := g.mo _ _ hm
    refine .inr ⟨_, _, xs, rx.ref_inv, ry.int_inv, h4, h1, h2, by rw [h5.length]; exact h3, fun p hp => ?_⟩
    cases z with
    | true => exact k.ok _ _ _ _ _ Ext.rfl' (g.fresh (m := .lst _) hp ⟨_, upd_same, h5.flat _⟩) (.ref _) (q p (g.free hp))
    | false => exact k.ok _ _ _ _ μ (Ext.new (g.freeB hp)) (g.still hp) (.lst (Or.inl upd_same) ((h5.flat _).mono (Ext.new (g.freeB hp)))) q
  · exact q.elim
/-! ### list(range(..)), tuple(range(..)) -/
theorem rgV_rp {K : PySem.W.Frag} {B : Hp} (i j : Int) : RpL K B (rgV i j) (rng i (j - i).toNat) := by
  unfold rgV rng
  generalize List.range (j - i).toNat = l
  induction l with
  | nil => exact .nil
  | cons a l ih => exact .cons (.int _) ih
structure RRg (X : Cx) (W : WX) (e : Expr) (dg : Rho → Mu → (Int → Int → Mu → Prop) → XQ → Prop) : Prop where
  pr : ∃ te, PRg X e te ∧ ∀ B ρ μ σ H QI QE (R : Int → Int → Hp → Prop), Good X.K B H μ → SlR X.K B σ ρ → dg ρ μ QI QE → KtX X.K W B σ QE → (∀ i j H1 B1 μ1, Ext B B1 → Good X.K B1 H1 μ1 → QI i j μ1 → R i j H1) → te σ H R
def gRg1 (da : DE) : Rho → Mu → (Int → Int → Mu → Prop) → XQ → Prop := fun ρ μ Q E => da ρ μ (fun d μ1 => ∃ n, d = .int n ∧ Q 0 n μ1) E
def gRg2 (da db : DE) : Rho → Mu → (Int → Int → Mu → Prop) → XQ → Prop := fun ρ μ Q E => da ρ μ (fun d μ1 => db ρ μ1 (fun e μ2 => ∃ i j, d = .int i ∧ e = .int j ∧ Q i j μ2) E) E
theorem rrg_1 {p : Pos} (hg : Gl X "range") (hm : X.mg "range" = none) (ha : RE X W a da) (na : starEach [a] X.env = (false, eval a X.env) :: starEach [] X.env := by rfl) : RRg X W (.Call (.Name "range" p) [a] [] pos) (gRg1 da) := ⟨_, prg_1 hg hm ha.pe na, by
  intro B ρ μ σ H QI QE R g s q x k
  refine ⟨B, ρ, μ, _, QE, g, s, q, ⟨fun v d H1 B1 μ1 e1 g1 r1 q1 => ?_⟩, x⟩
  obtain ⟨n, rfl, q1⟩ := q1
  exact ⟨n, r1.int_inv, k 0 n H1 B1 μ1 e1 g1 q1⟩⟩
theorem rrg_2 {p : Pos} (hg : Gl X "range") (hm : X.mg "range" = none) (ha : RE X W a da) (hb : RE X W b db) (na : starEach [a, b] X.env = (false, eval a X.env) :: starEach [b] X.env := by rfl)
    (nb : starEach [b] X.env = (false, eval b X.env) :: starEach [] X.env := by rfl) (hp : (backTo pos (starEach [b] X.env)).any (·.1) = false := by rfl) : RRg X W (.Call (.Name "range" p) [a, b] [] pos) (gRg2 da db) := ⟨_, prg_2 hg hm ha.pe hb.pe na nb hp, by
  intro B ρ μ σ H QI QE R g s q x k
  refine ⟨B, ρ, μ, _, QE, g, s, q, ⟨fun v d H1 B1 μ1 e1 g1 r1 q1 => ?_⟩, x⟩
  refine ⟨B1, ρ, μ1, _, QE, g1, s.mono e1, q1, ⟨fun v2 d2 H2 B2 μ2 e2 g2 r2 q2 => ?_⟩, x.mono e1⟩
  obtain ⟨i, j, rfl, rfl, q2⟩ := q2
  exact ⟨i, j, r1.int_inv, r2.int_inv, k i j H2 B2 μ2 (e1.trans e2) g2 q2⟩⟩
def dRgL (z : Bool) (dg : Rho → Mu → (Int → Int → Mu → Prop) → XQ → Prop) : DE := fun ρ μ Q E => dg ρ μ (fun i j μ1 => RgOk i j ∧ if z = true then ∀ p, μ1 p = none → Q (.ref p) (mset μ1 p (.lst (rng i (j - i).toNat))) else Q (.lst (rng i (j - i).toNat)) μ1) E
def dRgT (dg : Rho → Mu → (Int → Int → Mu → Prop) → XQ → Prop) : DE := fun ρ μ Q E => dg ρ μ (fun i j μ1 => RgOk i j ∧ Q (.tup (rng i (j - i).toNat)) μ1) E
theorem re_listRg (z : Bool) {dg : Rho → Mu → (Int → Int → Mu → Prop) → XQ → Prop} {p : Pos} (hc : X.calm = true) (hg : Gl X "list") (hm : X.mg "list" = none) (h : RRg X W e dg) (na : starEach [e] X.env = (false, eval e X.env) :: starEach [] X.env := by rfl) : RE X W (.Call (.Name "list" p) [e] [] pos) (dRgL z dg) := by
  obtain ⟨te, h1, h2⟩ := h.pr
  refine ⟨PE.imp (pe_listRg hc hg hm h1 na) fun σ H Q ⟨B, ρ, μ, QD, QE, g, s, q, k, x⟩ => ?_⟩
  refine h2 B ρ μ σ H _ QE _ g s q x fun i j H1 B1 μ1 e1 g1 q1 => ⟨q1.1, fun p hp => ?_⟩
  have q1 := q1.2
  cases z with
  | true => exact k.ok _ _ _ _ _ e1 (g1.fresh (m := .lst _) hp ⟨_, upd_same, rgV_rp i j⟩) (.ref _) (q1 p (g1.free hp))
  | false => exact k.ok _ _ _ _ μ1 (e1.trans (Ext.new (g1.freeB hp))) (g1.still hp) (.lst (Or.inl upd_same) (rgV_rp i j)) q1
theorem re_tupRg {dg : Rho → Mu → (Int → Int → Mu → Prop) → XQ → Prop} {p : Pos} (hc : X.calm = true) (hg : Gl X "tuple") (hm : X.mg "tuple" = none) (h : RRg X W e dg) (na : starEach [e] X.env = (false, eval e X.env) :: starEach [] X.env := by rfl) : RE X W (.Call (.Name "tuple" p) [e] [] pos) (dRgT dg) := by
  obtain ⟨te, h1, h2⟩ := h.pr
  refine ⟨PE.imp (pe_tupRg hc hg hm h1 na) fun σ H Q ⟨B, ρ, μ, QD, QE, g, s, q, k, x⟩ => ?_⟩
  refine h2 B ρ μ σ H _ QE _ g s q x fun i j H1 B1 μ1 e1 g1 q1 => ⟨q1.1, fun p hp => ?_⟩
  exact k.ok _ _ _ _ μ1 (e1.trans (Ext.new (g1.freeB hp))) (g1.still hp) (.tup (Or.inl (Or.inl upd_same)) (rgV_rp i j)) q1.2
/-! ### -e -/
def dNeg (da : DE) : DE := fun ρ μ Q E => da ρ μ (fun d μ1 => ∃ i, d = .int i ∧ Q (.int (-i)) μ1) E
theorem re_neg (ha : RE X W a da) : RE X W (.UnaryOp .USub a pos) (dNeg da) :=
  ⟨PE.imp (pe_un un_neg ha.pe) fun σ H Q ⟨B, ρ, μ, QD, QE, g, s, q, k, x⟩ => ⟨B, ρ, μ, _, QE, g, s, q, ⟨fun v d H1 B1 μ1 e1 g1 r1 q1 => by
    obtain ⟨i, rfl, q1⟩ := q1
    exact ⟨i, r1.int_inv, k.ok _ _ H1 B1 μ1 e1 g1 (.int _) q1⟩⟩, x⟩⟩
end
end DL

/-! The data layer, 7: short words. -/
namespace DL
open PySem PySem.Spec PyProof.Rows L2
section
variable {X : Cx} {W : WX} {e a b c : Expr} {es : List Expr} {da db dc : DE} {dt du : DT} {dr dk : DA} {pos : Pos}
theorem rv (i : Nat) {x : Str} (hN : X.N[i]? = some x := by rfl) (hv : Vis X.env.scope x := by first | exact Or.inl rfl | exact Or.inr (Or.inl rfl) | exact Or.inr (Or.inr rfl)) (hd : (x == ("__debug__" : Str)) = false := by decide)
    (hcd : (x == ("__classdict__" : Str)) = false := by decide) : RE X W (.Name x pos) (dVar i) := re_var hN hv hd hcd
theorem rt_chain {op op' : CmpOp} {r r' : R2} {rd rd' : D2} (ho : OpR X (compareOp op) r) (ho' : OpR X (compareOp op') r') (h : OpD X.K r rd) (h' : OpD X.K r' rd') (ha : RE X W a da) (hb : RE X W b db) (hc : RE X W c dc) (hm : lastMarks [op, op'] [b, c] = false := by with_unfolding_all rfl) :
    RT X W (.Compare a [op, op'] [b, c] pos) (dTest (dChain rd rd' da db dc)) := ⟨PT.imp (pt_chain ho ho' ha.pe hb.pe hc.pe hm) fun σ H Q ⟨B, ρ, μ, QD, QE, g, s, q, k, x⟩ => by
  refine up_chain (Q := fun x H' => ∃ k, x = .bl k ∧ Q k H') h h' ⟨B, ρ, μ, _, QE, g, s, q, ⟨fun v d H1 B1 μ1 e1 g1 r1 q1 => ?_⟩, x⟩
  obtain ⟨b, rfl, q1⟩ := q1
  exact ⟨b, r1.bl_inv, k b H1 B1 μ1 e1 g1 q1⟩⟩
theorem rt_isN {j pos'} (ha : RE X W a da) : RT X W (.Compare a [.Is] [.Constant .none j pos'] pos) (dTest (dIsN false da)) :=
  ⟨PT.imp (pt_cmp (pc_isN ha.pe) rfl) fun σ H Q ⟨B, ρ, μ, QD, QE, g, s, q, k, x⟩ => ⟨B, ρ, μ, _, QE, g, s, q, ⟨fun v d H1 B1 μ1 e1 g1 r1 q1 => by
    obtain ⟨b, e, q1⟩ := q1
    rw [Bool.xor_false] at e
    cases e
    rw [r1.isN]
    exact ⟨_, rfl, k _ H1 B1 μ1 e1 g1 q1⟩⟩, x⟩⟩
theorem rt_notN {j pos'} (ha : RE X W a da) : RT X W (.Compare a [.IsNot] [.Constant .none j pos'] pos) (dTest (dIsN true da)) :=
  ⟨PT.imp (pt_cmp (pc_notN ha.pe) rfl) fun σ H Q ⟨B, ρ, μ, QD, QE, g, s, q, k, x⟩ => ⟨B, ρ, μ, _, QE, g, s, q, ⟨fun v d H1 B1 μ1 e1 g1 r1 q1 => by
    obtain ⟨b, e, q1⟩ := q1
    rw [Bool.xor_true] at e
    cases e
    rw [r1.isN]
    exact ⟨_, rfl, k _ H1 B1 μ1 e1 g1 q1⟩⟩, x⟩⟩
/-- a, b = x, y -/
theorem rs_par {i j : Nat} {x y : Str} {px py pt : Pos} {kt k2 pt2} (hc : X.calm = true) (hN : X.N.Nodup) (hi : X.N[i]? = some x) (hj : X.N[j]? = some y) (hij : i ≠ j)
    (hx : X.env.scope.names.lookup x = some .local) (hy : X.env.scope.names.lookup y = some .local) (ha : RA X W [a, b] dr)
    (hw : swappedStores [.Tuple [.Name x px, .Name y py] kt pt] (.Tuple [a, b] k2 pt2) X.env = pure (some [x, y]) := by rfl)
    (hs : swapsWithSole [.Tuple [.Name x px, .Name y py] kt pt] (.Tuple [a, b] k2 pt2) pos.line X.env = pure false := by rfl) : RS X W (.Assign [.Tuple [.Name x px, .Name y py] kt pt] (.Tuple [a, b] k2 pt2) pos) (sPar i j dr) :=
  ⟨PS.imp (ps_par hc hN hi hj hij hx hy ha.pa hw hs) fun _ _ _ q => up_par q⟩
end
theorem Room.u100 {k : Nat} {A : Around} (r : Room k A) : A.units + 100 < cLine := by have := r.un; omega
theorem bx_len : bootBuiltins "len" = some (.builtin "len") := PyProof.Rows.Boot.«len»
theorem bx_abs : bootBuiltins "abs" = some (.builtin "abs") := PyProof.Rows.Boot.«abs»
theorem bx_min : bootBuiltins "min" = some (.builtin "min") := PyProof.Rows.Boot.«min»
theorem bx_max : bootBuiltins "max" = some (.builtin "max") := PyProof.Rows.Boot.«max»
theorem bx_all : bootBuiltins "all" = some (.builtin "all") := PyProof.Rows.Boot.«all»
theorem bx_any : bootBuiltins "any" = some (.builtin "any") := PyProof.Rows.Boot.«any»
theorem bx_isinstance : bootBuiltins "isinstance" = some (.builtin "isinstance") := PyProof.Rows.Boot.«isinstance»
theorem bx_repr : bootBuiltins "repr" = some (.builtin "repr") := PyProof.Rows.Boot.«repr»
theorem bx_sorted : bootBuiltins "sorted" = some (.builtin "sorted") := PyProof.Rows.Boot.«sorted»
theorem bx_sum : bootBuiltins "sum" = some (.builtin "sum") := PyProof.Rows.Boot.«sum»
theorem bx_ord : bootBuiltins "ord" = some (.builtin "ord") := PyProof.Rows.Boot.«ord»
theorem bx_chr : bootBuiltins "chr" = some (.builtin "chr") := PyProof.Rows.Boot.«chr»
theorem bx_int : bootBuiltins "int" = some (.type "int") := PyProof.Rows.Boot.«int»
theorem bx_bool : bootBuiltins "bool" = some (.type "bool") := PyProof.Rows.Boot.«bool»
theorem bx_str : bootBuiltins "str" = some (.type "str") := PyProof.Rows.Boot.«str»
theorem bx_list : bootBuiltins "list" = some (.type "list") := PyProof.Rows.Boot.«list»
theorem bx_tuple : bootBuiltins "tuple" = some (.type "tuple") := PyProof.Rows.Boot.«tuple»
theorem bx_dict : bootBuiltins "dict" = some (.type "dict") := PyProof.Rows.Boot.«dict»
theorem bx_range : bootBuiltins "range" = some (.type "range") := PyProof.Rows.Boot.«range»
theorem bx_enumerate : bootBuiltins "enumerate" = some (.type "enumerate") := PyProof.Rows.Boot.«enumerate»
theorem bx_zip : bootBuiltins "zip" = some (.type "zip") := PyProof.Rows.Boot.«zip»
section
variable {X : Cx} {W : WX} {pos : Pos}
theorem re_globI {x : Str} {i : Int} (hg : Gl X x) (hm : ∃ t, X.mg x = some (.int i t)) (hd : (x == ("__debug__" : Str)) = false := by decide) : RE X W (.Name x pos) (dC (.int i)) := by
  obtain ⟨t, hm⟩ := hm
  exact re_glob (v := .int i) hg hm ⟨t, rfl⟩ (fun _ => .int i) hd
theorem re_globS {x : Str} {i : Str} (hg : Gl X x) (hm : ∃ t, X.mg x = some (.str i t)) (hd : (x == ("__debug__" : Str)) = false := by decide) : RE X W (.Name x pos) (dC (.str i)) := by
  obtain ⟨t, hm⟩ := hm
  exact re_glob (v := .str i) hg hm ⟨t, rfl⟩ (fun _ => .str i) hd
/-- raise X('..'), X an own class without __init__ of its own, below ValueError -/
structure ExcC (K : PySem.W.Frag) (mg : Str → Option Value) (x : Str) : Prop where
  ex : ∃ C, mg x = some (.ref C) ∧ PySem.W.nsIn K mainGlobals x = some (some (.ref C)) ∧ PySem.W.excIn K C [.type "ValueError", .type "Exception", .type "BaseException", .type "object"] "ValueError.__new__" = true ∧ PySem.W.keepIn K (.ref C) = true ∧
    PySem.W.subIn K (.ref C) (.type "BaseException") = some true ∧ PySem.W.typeIn K (.ref C) = some (.type "type")
def sRaise (x : Str) : DS := fun D _ μ => D.xe ⟨x, []⟩ μ
theorem rs_raise {x m : Str} {j : Nat} {p p2 pos2 : Pos} (G : ExcC X.K X.mg x) (hc : X.calm = true) (tk : Takes X W) (hg : Gl X x := by rfl) (hdb : (x == ("__debug__" : Str)) = false := by decide) : RS X W (.Raise (some (.Call (.Name x p) [.Constant (.str m) j p2] [] pos2)) none pos) (sRaise x) := by
  obtain ⟨C, gC, nC, xC, kC, bC, tC⟩ := G.ex
  refine ⟨PS.imp (ps_raise hc tk (pmk_own PySem.F.excBase_ValueError xC gC kC (raises_own bC tC) hg hdb)) fun D σ H ⟨B, ρ, μ, DD, g, s, q, k⟩ => ?_⟩
  exact (k.xe σ).ex _ none ⟨x, []⟩ H B μ Ext.rfl' g ⟨nC, .inl ⟨rfl, rfl⟩⟩ q
end
/-! ### a def of the text, ready to be called -/
structure Def (P : Program) (w : World) (K : PySem.W.Frag) (mg : Str → Option Value) (base : Heap) (k : Nat) (x : Str) (st : Stmt) (ps : List Str) (sd : SpD) : Prop where
  ex : ∃ f fd, mg x = some (.ref f) ∧ Fun K x x st f fd ∧ L2.Binds K fd ps [] ∧ FnOk P w K mg base (L2.CX P w) k f fd ps (upSp K sd)
theorem _root_.L2.Fun.kw {K : PySem.W.Frag} {x qual : Str} {st : Stmt} {f : Addr} {fd : FuncData} {ps ks : List Str} {π : List Nat} (F : Fun K x qual st f fd)
    (h : ∀ (kV doc pm : Value) (an : Option Addr) (cdv ct : Value) (ws us : List Value), ws.length = ks.length → π.mapM (fun i => ws[i]?) = some us → bindArgs (PySem.W.fnOf x qual (defArgs st) (defBody st) (defScope st) .none kV doc pm an cdv ct) ⟨[], ks.zip ws⟩ = pure (ps.zip us)) : KwBinds K fd ps ks π := by
  obtain ⟨oc, od, kV, doc, pm, an, cdv, ct, osl, rfl, lk, hcd⟩ := F.ex
  exact fun s ws us _ hl e => .of_eq (h kV doc pm an cdv ct ws us hl e)
section
variable {P : Program} {w : World} {K : PySem.W.Frag} {mg : Str → Option Value} {base : Heap}
/-- from its body's derivation (over data: db) and the reading of db -/
theorem def_ok {x : Str} {st : Stmt} {f : Addr} {fd : FuncData} {N ps : List Str} {k : Nat} {sd : SpD} {db : DS} (hm : mg x = some (.ref f)) (F : Fun K x x st f fd) (S : FnScope N ps (defScope st))
    (bi : ∀ (kV doc pm : Value) (an : Option Addr) (cdv ct : Value) (us : List Value), us.length = ps.length → bindArgs (PySem.W.fnOf x x (defArgs st) (defBody st) (defScope st) .none kV doc pm an cdv ct) ⟨us, []⟩ = pure (ps.zip us))
    (len : ∀ ds μ Q E, sd ds μ Q E → ds.length = ps.length)
    (hbody : ∀ (cdv : Value) (A : Around) (outer : List Env) (s : Shared) (H : Hp) (E : XK), Room k (A.deeper (envOfC x (defScope st) s.heap.objs.size f cdv)) →
      RSs (cxOf (L2.CX P w) P w K mg base N x (defScope st) f cdv A outer s H E) (fun cls d _ H => E cls d H) (defBody st) db)
    (pure : ∀ ds μ Q QE, sd ds μ Q QE → db { nx := fun _ μ' => fin Q .non μ', rt := fin Q, xe := finX QE } (startD N ds) μ) : Def P w K mg base (k + 1) x st ps sd :=
  ⟨f, fd, hm, F, F.binds bi, fn_ok F S len hbody pure⟩
end
section
variable {X : Cx} {W : WX} {e : Expr} {es : List Expr} {dr dk : DA} {pos : Pos}
theorem rcall {k : Nat} {st : Stmt} {ps : List Str} {sd : SpD} {x : Str} {p : Pos} (F : Def X.prog X.w X.K X.mg X.base k x st ps sd) (hr : Room k X.A) (tk : Takes X W) (ha : RA X W (e :: es) dr) (hg : Gl X x := by rfl) (hdb : (x == ("__debug__" : Str)) = false := by decide) (he : starEach (e :: es) X.env = (false, eval e X.env) :: starEach es X.env := by rfl) (hpl : (backTo pos (starEach es X.env)).any (·.1) = false := by rfl) :
    RE X W (.Call (.Name x p) (e :: es) [] pos) (dCall sd dr) := by
  obtain ⟨f, fd, hm, F, hb, G⟩ := F.ex
  exact re_call G hr hg hm F.kp hb tk ha hdb he hpl
theorem rcall0 {k : Nat} {st : Stmt} {ps : List Str} {sd : SpD} {x : Str} {p : Pos} (F : Def X.prog X.w X.K X.mg X.base k x st ps sd) (hr : Room k X.A) (tk : Takes X W) (hg : Gl X x := by rfl) (hdb : (x == ("__debug__" : Str)) = false := by decide) :
    RE X W (.Call (.Name x p) [] [] pos) (dCall sd dNil) := by
  obtain ⟨f, fd, hm, F, hb, G⟩ := F.ex
  exact re_call0 G hr hg hm F.kp hb tk hdb
theorem rcallK {k : Nat} {st : Stmt} {ps ks : List Str} {sd : SpD} {x : Str} {p : Pos} {kws : List Keyword} {π : List Nat} (F : Def X.prog X.w X.K X.mg X.base k x st ps sd) (hr : Room k X.A) (tk : Takes X W)
    (bi : ∀ (kV doc pm : Value) (an : Option Addr) (cdv ct : Value) (ws us : List Value), ws.length = ks.length → π.mapM (fun i => ws[i]?) = some us → bindArgs (PySem.W.fnOf x x (defArgs st) (defBody st) (defScope st) .none kV doc pm an cdv ct) ⟨[], ks.zip ws⟩ = pure (ps.zip us))
    (hlen : π.length = ks.length) (hkw : RK X W kws dk) (hg : Gl X x := by rfl) (hall : (backToKw pos (keywordEach kws X.env)).all (·.1.isSome) = true := by rfl) (hks : (backToKw pos (keywordEach kws X.env)).filterMap (·.1) = ks := by rfl)
    (hdb : (x == ("__debug__" : Str)) = false := by decide)
    (hpl : ((backTo pos (starEach [] X.env)).any (·.1) || (backToKw pos (keywordEach kws X.env)).any (·.1.isNone)) = false := by rfl) : RE X W (.Call (.Name x p) [] kws pos) (dCallK sd π dk) := by
  obtain ⟨f, fd, hm, F, hb, G⟩ := F.ex
  exact re_callK G hr hg hm F.kp (F.kw bi) tk hlen hkw hall hks hdb hpl
end
end DL

/-! The data layer, 8: facts for readings over data. -/
namespace DL
open PySem PySem.Spec PyProof.Rows L2

def Le (μ μ' : Mu) : Prop := ∀ a m, μ a = some m → μ' a = some m
theorem Le.rfl' {μ : Mu} : Le μ μ := fun _ _ h => h
theorem Le.trans {a b c : Mu} (h : Le a b) (k : Le b c) : Le a c := fun x m e => k x m (h x m e)
theorem Le.new {μ : Mu} {p : Addr} {m : MO} (h : μ p = none) : Le μ (mset μ p m) := fun a n e => by
  have c : a ≠ p := fun z => by rw [z, h] at e; cases e
  rw [mset_ne c]
  exact e
theorem Le.mset {μ μ' : Mu} {p : Addr} {m : MO} (h : Le μ μ') (hp : μ p = none) : Le μ (mset μ' p m) := fun a n e => by
  have c : a ≠ p := fun z => by rw [z, hp] at e; cases e
  rw [mset_ne c]
  exact h a n e
theorem ne_addr {μ : Mu} {a b : Addr} {m : MO} (h : μ a = some m) (h' : μ b = none) : a ≠ b := fun z => by rw [z, h'] at h; cases h
theorem sl_ok {n : Nat} (h : n ≤ 1000000) : n ≤ sizeLine := by rw [sizeLine_eq]; omega
theorem sl_lt {n : Nat} (h : n ≤ 1000000) : n < sizeLine := by rw [sizeLine_eq]; omega
/-! ### a comprehension that leaves things as they are -/
theorem lc_pure {z : Bool} {dg : DG} {dt : DT} {de : DE} {ws : List Nat} {ρ : Rho} {Q : DQ} {ds : List D} {keep : Mu → Prop} {μ : Mu} (g : D → Option D) (hz : ds.length ≤ sizeLine)
    (hk : ∀ p m, μ p = none → keep (mset μ p m))
    (he : ∀ (i : Nat) (x : D) (μ' : Mu) (R1 : DQ) (R2 : Mu → Prop), ds[i]? = some x → Le μ μ' → (∀ y, g x = some y → R1 y μ') → (g x = none → R2 μ') → dg x (wipeD ρ ws) μ' fun ρ2 μ2 => dt ρ2 μ2 (fun b μ3 => if b = true then de ρ2 μ3 R1 (fun _ _ => False) else R2 μ3) (fun _ _ => False))
    (q : ∀ p, μ p = none → if z = true then Q (.ref p) (mset μ p (.lst (ds.filterMap g))) else Q (.lst (ds.filterMap g)) μ) : lcBody z dg dt de ws ρ Q ds keep μ := by
  intro p hp
  refine ⟨fun i acc μ' => μ' = μ ∧ acc = (ds.take i).filterMap g, ⟨rfl, rfl⟩, fun i acc μ' ⟨h1, h2⟩ => ?_, hz, fun i x acc μ' hx ⟨h1, h2⟩ => ?_, fun acc μ' ⟨h1, h2⟩ => ?_⟩
  · subst h1 h2
    refine ⟨hp, hk p _ hp, Nat.le_trans (List.length_filterMap_le _ _) ?_⟩
    rw [List.length_take]
    omega
  · subst h1 h2
    have tk : ds.take (i + 1) = ds.take i ++ [x] := by rw [List.take_add_one, hx]; rfl
    refine he i x _ _ _ hx (Le.new hp) (fun y hy => ⟨mset_same, mdel_mset hp, ?_⟩) (fun hn => ⟨mset_same, mdel_mset hp, ?_⟩)
    · rw [tk, List.filterMap_append]
      simp [List.filterMap_cons, hy]
    · rw [tk, List.filterMap_append]
      simp [List.filterMap_cons, hn]
  · subst h1 h2
    rw [List.take_length]
    exact q p hp
/-- .. each item kept -/
theorem lc_map {z : Bool} {dg : DG} {de : DE} {ws : List Nat} {ρ : Rho} {Q : DQ} {ds : List D} {keep : Mu → Prop} {μ : Mu} (g : D → D) (hz : ds.length ≤ sizeLine)
    (hk : ∀ p m, μ p = none → keep (mset μ p m))
    (he : ∀ (i : Nat) (x : D) (μ' : Mu) (R : DQ), ds[i]? = some x → Le μ μ' → R (g x) μ' → dg x (wipeD ρ ws) μ' fun ρ2 μ2 => de ρ2 μ2 R (fun _ _ => False))
    (q : ∀ p, μ p = none → if z = true then Q (.ref p) (mset μ p (.lst (ds.map g))) else Q (.lst (ds.map g)) μ) : lcBody z dg tTrue de ws ρ Q ds keep μ :=
  lc_pure (fun x => some (g x)) hz hk (fun i x μ' R1 R2 hx hl h1 _ => he i x μ' R1 hx hl (h1 _ rfl)) (by rw [List.filterMap_eq_map']; exact q)
/-! ### the draws -/
def DrawAt (μ : Mu) (q l : Addr) : Prop := ∃ (ls : List Int) (r : Int) (cs : List Int) (t : Int), μ q = some (.dct [(.inr "large", .ref l), (.inr "rest", .int r), (.inr "cells", .lst (cs.map .int)), (.inr "turn", .int t)]) ∧ μ l = some (.lst (ls.map .int)) ∧ q ≠ l ∧ ls.length ≤ 63 ∧ cs.length ≤ 63
def Keep (q l : Addr) (μ μ' : Mu) : Prop := ∀ a m, a ≠ q → a ≠ l → μ a = some m → μ' a = some m
theorem Keep.rfl' {q l : Addr} {μ : Mu} : Keep q l μ μ := fun _ _ _ _ h => h
theorem Keep.trans {q l : Addr} {a b c : Mu} (h : Keep q l a b) (k : Keep q l b c) : Keep q l a c := fun x m h1 h2 e => k x m h1 h2 (h x m h1 h2 e)
theorem Keep.le {q l : Addr} {a b : Mu} (h : Le a b) : Keep q l a b := fun x m _ _ e => h x m e
theorem Keep.mset {q l : Addr} {μ μ' : Mu} {p : Addr} {m : MO} (h : Keep q l μ μ') (hp : μ p = none) : Keep q l μ (mset μ' p m) := fun a n h1 h2 e => by
  have c : a ≠ p := fun z => by rw [z, hp] at e; cases e
  rw [mset_ne c]
  exact h a n h1 h2 e
theorem Keep.mdel {q l : Addr} {μ μ' : Mu} {p : Addr} (h : Keep q l μ μ') (hp : μ p = none) : Keep q l μ (mdel μ' p) := fun a n h1 h2 e => by
  have c : a ≠ p := fun z => by rw [z, hp] at e; cases e
  rw [mdel_ne c]
  exact h a n h1 h2 e
theorem Keep.draw {q l : Addr} {μ : Mu} {m : MO} : Keep q l μ (DL.mset μ q m) := fun a n h1 h2 e => by rw [mset_ne h1]; exact e
theorem Keep.large {q l : Addr} {μ : Mu} {m : MO} : Keep q l μ (DL.mset μ l m) := fun a n h1 h2 e => by rw [mset_ne h2]; exact e
theorem DrawAt.mset {q l p : Addr} {μ : Mu} {m : MO} (h : DrawAt μ q l) (h1 : p ≠ q) (h2 : p ≠ l) : DrawAt (DL.mset μ p m) q l := by
  obtain ⟨ls, r, cs, t, a, b, c⟩ := h
  exact ⟨ls, r, cs, t, by rw [mset_ne (Ne.symm h1)]; exact a, by rw [mset_ne (Ne.symm h2)]; exact b, c⟩
theorem DrawAt.mdel {q l p : Addr} {μ : Mu} (h : DrawAt μ q l) (h1 : p ≠ q) (h2 : p ≠ l) : DrawAt (DL.mdel μ p) q l := by
  obtain ⟨ls, r, cs, t, a, b, c⟩ := h
  exact ⟨ls, r, cs, t, by rw [mdel_ne (Ne.symm h1)]; exact a, by rw [mdel_ne (Ne.symm h2)]; exact b, c⟩
theorem DrawAt.q {q l : Addr} {μ : Mu} (h : DrawAt μ q l) {p : Addr} (hp : μ p = none) : p ≠ q := by
  obtain ⟨ls, r, cs, t, a, b, c⟩ := h
  exact Ne.symm (ne_addr a hp)
theorem DrawAt.l {q l : Addr} {μ : Mu} (h : DrawAt μ q l) {p : Addr} (hp : μ p = none) : p ≠ l := by
  obtain ⟨ls, r, cs, t, a, b, c⟩ := h
  exact Ne.symm (ne_addr b hp)
/-- a comprehension whose elements draw: what is made fulfils T -/
theorem lc_draw {z : Bool} {dg : DG} {dt : DT} {de : DE} {ws : List Nat} {ρ : Rho} {Q : DQ} {ds : List D} {keep : Mu → Prop} {μ : Mu} {q l : Addr} (T : Nat → List D → Prop) (hz : ds.length ≤ sizeLine) (D0 : DrawAt μ q l) (t0 : T 0 [])
    (hk : ∀ p m μ', DrawAt μ' q l → Keep q l μ μ' → keep (DL.mset μ' p m)) (hl : ∀ i acc, T i acc → acc.length ≤ i)
    (he : ∀ (i : Nat) (x : D) (acc : List D) (μ' : Mu) (R1 : DQ) (R2 : Mu → Prop), ds[i]? = some x → T i acc → DrawAt μ' q l → Keep q l μ μ' → (∀ y μ2, T (i + 1) (acc ++ [y]) → DrawAt μ2 q l → Keep q l μ' μ2 → R1 y μ2) → (∀ μ2, T (i + 1) acc → DrawAt μ2 q l → Keep q l μ' μ2 → R2 μ2) →
      dg x (wipeD ρ ws) μ' fun ρ2 μ2 => dt ρ2 μ2 (fun b μ3 => if b = true then de ρ2 μ3 R1 (fun _ _ => False) else R2 μ3) (fun _ _ => False))
    (qq : ∀ p acc μ', T ds.length acc → μ p = none → μ' p = none → DrawAt μ' q l → Keep q l μ μ' → if z = true then Q (.ref p) (DL.mset μ' p (.lst acc)) else Q (.lst acc) μ') : lcBody z dg dt de ws ρ Q ds keep μ := by
  intro p hp
  refine ⟨fun i acc μ' => T i acc ∧ μ' p = none ∧ DrawAt μ' q l ∧ Keep q l μ μ', ⟨t0, hp, D0, Keep.rfl'⟩, fun i acc μ' ⟨h1, h2, h3, h4⟩ => ⟨h2, hk p _ μ' h3 h4, hl i acc h1⟩, hz, fun i x acc μ' hx ⟨h1, h2, h3, h4⟩ => ?_, fun acc μ' ⟨h1, h2, h3, h4⟩ => qq p acc μ' h1 hp h2 h3 h4⟩
  have pq := h3.q h2
  have pl := h3.l h2
  have fin : ∀ μ2, DrawAt μ2 q l → Keep q l (DL.mset μ' p (.lst acc)) μ2 → μ2 p = some (.lst acc) ∧ DL.mdel μ2 p p = none ∧ DrawAt (DL.mdel μ2 p) q l ∧ Keep q l μ (DL.mdel μ2 p) := fun μ2 d2 k2 =>
    ⟨k2 p _ pq pl mset_same, mdel_same, d2.mdel pq pl, ((h4.mset hp).trans k2).mdel hp⟩
  refine he i x acc _ _ _ hx h1 (h3.mset pq pl) (h4.mset hp) (fun y μ2 ht d2 k2 => ?_) (fun μ2 ht d2 k2 => ?_)
  · obtain ⟨a, b, c, d⟩ := fin μ2 d2 k2
    exact ⟨a, ht, b, c, d⟩
  · obtain ⟨a, b, c, d⟩ := fin μ2 d2 k2
    exact ⟨a, ht, b, c, d⟩
end DL
namespace DL
open PySem PySem.Spec PyProof.Rows L2
theorem seqIx_nat {i : Int} {n : Nat} (h0 : 0 ≤ i) (h1 : i < n) : seqIndex? i n = some i.toNat := by
  unfold seqIndex?
  have e : ¬ i < 0 := by omega
  simp only [if_neg e, decide_eq_true h0, decide_eq_true h1, Bool.and_self, if_true]
/-! ### equal data -/
def PyOk (n : Nat) (d : D) : Prop := ∃ p, d.py = some p ∧ p.canLay0 = true ∧ p.depth ≤ n
theorem PyOk.int {n : Nat} {i : Int} : PyOk n (.int i) := ⟨.int i, by simp only [D.py], by simp only [PyData.canLay0], by simp only [PyData.depth]; omega⟩
theorem PyOk.bl {n : Nat} {i : Bool} : PyOk n (.bl i) := ⟨.bool i, by simp only [D.py], by simp only [PyData.canLay0], by simp only [PyData.depth]; omega⟩
theorem PyOk.non {n : Nat} : PyOk n .non := ⟨.none, by simp only [D.py], by simp only [PyData.canLay0], by simp only [PyData.depth]; omega⟩
theorem PyOk.mono {n m : Nat} {d : D} (h : PyOk n d) (l : n ≤ m) : PyOk m d := let ⟨p, a, b, c⟩ := h; ⟨p, a, b, Nat.le_trans c l⟩
theorem PyOk.all {n : Nat} : ∀ {xs : List D}, (∀ x ∈ xs, PyOk n x) → ∃ ps, pyL xs = some ps ∧ PyData.canLayAll0 ps = true ∧ PyData.depthAll ps ≤ n
  | [], _ => ⟨[], by simp only [pyL], by simp only [PyData.canLayAll0], by simp only [PyData.depthAll]; omega⟩
  | x :: xs, h => by
    obtain ⟨p, a, b, c⟩ := h x (List.mem_cons_self ..)
    obtain ⟨ps, a', b', c'⟩ := PyOk.all (xs := xs) fun y hy => h y (List.mem_cons_of_mem _ hy)
    exact ⟨p :: ps, by simp only [pyL, a, a'], by simp only [PyData.canLayAll0, b, b', Bool.and_self], by simp only [PyData.depthAll]; omega⟩
theorem PyOk.tup {n : Nat} {xs : List D} (h : ∀ x ∈ xs, PyOk n x) : PyOk (n + 1) (.tup xs) := by
  obtain ⟨ps, a, b, c⟩ := PyOk.all h
  exact ⟨.tuple ps, by simp only [D.py, a, Option.map_some], by simp only [PyData.canLay0, b], by simp only [PyData.depth]; omega⟩
theorem PyOk.lst {n : Nat} {xs : List D} (h : ∀ x ∈ xs, PyOk n x) : PyOk (n + 1) (.lst xs) := by
  obtain ⟨ps, a, b, c⟩ := PyOk.all h
  exact ⟨.list ps, by simp only [D.py, a, Option.map_some], by simp only [PyData.canLay0, b], by simp only [PyData.depth]; omega⟩
theorem shaped_of {p : PyData} (h1 : p.canLay0 = true) (h2 : p.depth ≤ 64) : SeqAt.shaped p = true := by
  unfold SeqAt.shaped
  rw [h1, decide_eq_true h2]
  rfl
theorem pyM_py {μ : Mu} {d : D} {p : PyData} (h : d.py = some p) : pyM μ d = some p := by
  cases d with
  | ref a => simp only [D.py] at h; cases h
  | _ => exact h
theorem pyM_list {μ : Mu} {d : D} {xs : List D} {ps : List PyData} (h : listOf μ d = some xs) (hp : pyL xs = some ps) : pyM μ d = some (.list ps) := by
  rcases listOf_inv h with rfl | ⟨a, rfl, hm⟩
  · simp only [pyM, D.py, hp, Option.map_some]
  · simp only [pyM, hm, hp, Option.map_some]
/-- == of data: b is what the library's eqv tells -/
theorem eq_ok {s : Bool} {d e : D} {μ : Mu} {Q : DQ} {b : Bool} (h1 : PyOk 64 d) (h2 : PyOk 64 e) (hb : ∀ p q, d.py = some p → e.py = some q → PyData.eqv p q = b) (q : Q (.bl (b ^^ s)) μ) : rdEq s d e μ Q := by
  obtain ⟨p, a1, a2, a3⟩ := h1
  obtain ⟨r, b1, b2, b3⟩ := h2
  exact .inl ⟨p, r, pyM_py a1, pyM_py b1, shaped_of a2 a3, shaped_of b2 b3, by rw [hb p r a1 b1]; exact q⟩
theorem eq_int {s : Bool} {i j : Int} {μ : Mu} {Q : DQ} (q : Q (.bl (decide (i = j) ^^ s)) μ) : rdEq s (.int i) (.int j) μ Q := by
  refine eq_ok .int .int (b := decide (i = j)) (fun p r h1 h2 => ?_) q
  simp only [D.py, Option.some.injEq] at h1 h2
  subst h1 h2
  simp only [PyData.eqv]
  exact (Bool.beq_eq_decide_eq i j)
theorem isEmpty_py {xs : List D} {ps : List PyData} (h : pyL xs = some ps) : PyData.eqvAll ps [] = xs.isEmpty := by
  cases xs with
  | nil => simp only [pyL, Option.some.injEq] at h; subst h; simp only [PyData.eqvAll, List.isEmpty_nil]
  | cons x xs =>
    simp only [pyL] at h
    split at h
    · cases h; simp only [PyData.eqvAll, List.isEmpty_cons]
    · cases h
/-- == [] of a list, as it stands -/
theorem eq_nil {s : Bool} {d : D} {xs : List D} {μ : Mu} {Q : DQ} (h1 : listOf μ d = some xs) (h2 : ∀ x ∈ xs, PyOk 63 x) (q : Q (.bl (xs.isEmpty ^^ s)) μ) : rdEq s d (.lst []) μ Q := by
  obtain ⟨ps, a, b, c⟩ := PyOk.all h2
  refine .inl ⟨.list ps, .list [], pyM_list h1 a, by simp only [pyM, D.py, pyL, Option.map_some], shaped_of (by simp only [PyData.canLay0, b]) (by simp only [PyData.depth]; omega), shaped_of (by simp only [PyData.canLay0, PyData.canLayAll0]) (by simp only [PyData.depth, PyData.depthAll]; omega), ?_⟩
  have e : PyData.eqv (.list ps) (.list []) = xs.isEmpty := by simp only [PyData.eqv]; exact isEmpty_py a
  rw [e]
  exact q
theorem mem_ints {ns : List Int} {x : D} (h : x ∈ ns.map D.int) : ∃ i, i ∈ ns ∧ x = .int i := by
  obtain ⟨i, hi, e⟩ := List.mem_map.mp h
  exact ⟨i, hi, e.symm⟩
theorem ints_ok {n : Nat} {ns : List Int} : ∀ x ∈ ns.map D.int, PyOk n x := fun x hx => by
  obtain ⟨i, _, rfl⟩ := mem_ints hx
  exact .int
abbrev tI (ns : List Int) : D := .tup (ns.map .int)
theorem pyL_ints : ∀ ns : List Int, pyL (ns.map D.int) = some (ns.map PyData.int)
  | [] => by simp only [List.map_nil, pyL]
  | n :: ns => by simp only [List.map_cons, pyL, D.py, pyL_ints ns]
theorem eqv_ints : ∀ a b : List Int, PyData.eqvAll (a.map PyData.int) (b.map PyData.int) = decide (a = b)
  | [], [] => by simp [PyData.eqvAll]
  | [], _ :: _ => by simp [PyData.eqvAll]
  | _ :: _, [] => by simp [PyData.eqvAll]
  | x :: a, y :: b => by
    simp only [List.map_cons, PyData.eqvAll, PyData.eqv, eqv_ints a b, List.cons.injEq]
    by_cases e : x = y
    · subst e; simp
    · simp [e]
theorem eq_tI {s : Bool} {a b : List Int} {μ : Mu} {Q : DQ} (q : Q (.bl (decide (a = b) ^^ s)) μ) : rdEq s (tI a) (tI b) μ Q := by
  refine eq_ok ((PyOk.tup (n := 0) ints_ok).mono (by decide)) ((PyOk.tup (n := 0) ints_ok).mono (by decide)) (b := decide (a = b)) (fun p r h1 h2 => ?_) q
  simp only [D.py, pyL_ints, Option.map_some, Option.some.injEq] at h1 h2
  subst h1 h2
  simp only [PyData.eqv]
  exact eqv_ints a b
end DL

/-! The draws of the laws. -/
namespace DL
open PySem PySem.Spec PyProof.Rows L2
def sd__law_begun : SpD := fun ds μ Q _ => ∃ ns : List Int, ds = [.arg (ns.map .int)] ∧ ns.length ≤ 63 ∧ ∀ q l μ', μ q = none → μ l = none → DrawAt μ' q l → Le μ μ' → Q (.ref q) μ'
def sd__law_mixed : SpD := fun ds μ Q _ => ∃ q l, ds = [.ref q] ∧ DrawAt μ q l ∧ ∀ n μ', DrawAt μ' q l → Keep q l μ μ' → Q (.int n) μ'
def sd__law_take : SpD := fun ds μ Q _ => ∃ q l n, ds = [.ref q, .int n] ∧ DrawAt μ q l ∧ 0 < n ∧ n < 2 ^ 64 ∧ ∀ i μ', 0 ≤ i → i < n → DrawAt μ' q l → Keep q l μ μ' → Q (.int i) μ'
def sd__law_pick : SpD := fun ds μ Q _ => ∃ q l d xs, ds = [.ref q, d] ∧ (d = .lst xs ∨ d = .tup xs) ∧ 0 < xs.length ∧ xs.length < 100000 ∧ DrawAt μ q l ∧ ∀ (i : Nat) x μ', (xs : List D)[i]? = some x → DrawAt μ' q l → Keep q l μ μ' → Q x μ'
def sd__law_shuffled : SpD := fun ds μ Q _ => ∃ q l d xs, ds = [.ref q, d] ∧ (d = .lst xs ∨ d = .tup xs) ∧ xs.length < 100000 ∧ (∀ x ∈ xs, PyOk 63 x) ∧ DrawAt μ q l ∧ ∀ p ys μ', ys.Perm xs → μ p = none → μ' p = some (.lst ys) → DrawAt μ' q l → Keep q l μ μ' → Q (.ref p) μ'
/-- slots: 0 script, 1 grain, 2 large -/
def db__law_begun : DS :=
  (sSeq (sAsg (dLc true (iSeqD (dVar 0)) (dName 1) (dTest (dOp (rdB0 fun i j => decide (j ≤ i)) (dCB cdAbs (dCons (dVar 1) dNil)) (dOp (rdI CPow fun i j => i ^ j.toNat) (dC (.int 10)) (dC (.int 18))))) (dOp (rdI0 fun i j => i - j) (dCB cdAbs (dCons (dVar 1) dNil)) (dOp (rdI CPow fun i j => i ^ j.toNat) (dC (.int 10)) (dC (.int 18)))) [1]) (dName 2))
    (sRet (dDict [(.inr "large", (dVar 2)), (.inr "rest", (dC (.int 0))), (.inr "cells", (dLc false (iSeqD (dVar 0)) (dName 1) tTrue (dCB cdAbs (dCons (dVar 1) dNil)) [1])), (.inr "turn", (dC (.int 0)))])))
/-- slots: 0 draw, 1 turn, 2 found, 3 great, 4 blend, 5 grain -/
def db__law_mixed : DS :=
  (sSeq (sDPutD (dVar 0) (dC (.str "turn")) (dOp rdAdd (dDGet (dVar 0) (dC (.str "turn"))) (dC (.int 1))))
    (sSeq (sPar 1 2 (dCons (dCB cdInt (dCons (dDGet (dVar 0) (dC (.str "turn"))) dNil)) (dCons (dC (.int 0)) dNil)))
    (sSeq (sFor (iSeqD (dLst (dCons (dC (.int 2147483629)) (dCons (dC (.int 2147483587)) (dCons (dC (.int 2147483579)) dNil))))) (dName 3) (sSeq (sAsg (dOp (rdI (fun _ j => 0 < j) fun i j => i % j) (dOp rdAdd (dOp (rdMul false) (dVar 1) (dC (.int 69621))) (dOp (rdI CDivW fun i j => i / j) (dVar 3) (dC (.int 7)))) (dVar 3)) (dName 4))
    (sSeq (sFor (iSeqD (dDGet (dVar 0) (dC (.str "cells")))) (dName 5) (sAsg (dOp (rdI (fun _ j => 0 < j) fun i j => i % j) (dOp rdAdd (dOp (rdMul false) (dVar 4) (dC (.int 48271))) (dCB cdInt (dCons (dVar 5) dNil))) (dVar 3)) (dName 4)))
    (sAsg (dOp rdAdd (dOp (rdMul false) (dVar 2) (dC (.int 2147483647))) (dOp (rdI (fun _ j => 0 < j) fun i j => i % j) (dOp (rdI CPow fun i j => i ^ j.toNat) (dVar 4) (dC (.int 5))) (dVar 3))) (dName 2)))))
    (sRet (dVar 2)))))
/-- slots: 0 draw, 1 amount, 2 found -/
def db__law_take : DS :=
  (sSeq (sIf (dTest (dOp (rdEq false) (dDGet (dVar 0) (dC (.str "rest"))) (dC (.int 0)))) (sDPutD (dVar 0) (dC (.str "rest")) (dIf (dTest (dOp (rdEq true) (dDGet (dVar 0) (dC (.str "large"))) (dLst dNil))) (dPopAt (dDGet (dVar 0) (dC (.str "large"))) (dC (.int 0))) (dCall sd__law_mixed (dCons (dVar 0) dNil)))) sNext)
    (sSeq (sAsg (dOp (rdI (fun _ j => 0 < j) fun i j => i % j) (dCB cdInt (dCons (dDGet (dVar 0) (dC (.str "rest"))) dNil)) (dVar 1)) (dName 2))
    (sSeq (sDPutD (dVar 0) (dC (.str "rest")) (dOp (rdI CDivW fun i j => i / j) (dCB cdInt (dCons (dDGet (dVar 0) (dC (.str "rest"))) dNil)) (dVar 1)))
    (sRet (dVar 2)))))
/-- slots: 0 draw, 1 some -/
def db__law_pick : DS :=
  (sRet (dOp rdIx (dVar 1) (dCall sd__law_take (dCons (dVar 0) (dCons (dCB cdLen (dCons (dVar 1) dNil)) dNil)))))
/-- slots: 0 draw, 1 some, 2 left, 3 found -/
def db__law_shuffled : DS :=
  (sSeq (sPar 2 3 (dCons (dCB cdListM (dCons (dVar 1) dNil)) (dCons (dLstM dNil) dNil)))
    (sSeq (sWhile (dTest (dOp (rdEq true) (dVar 2) (dLst dNil))) (sDrop (dAppend (dVar 3) (dPopAt (dVar 2) (dCall sd__law_take (dCons (dVar 0) (dCons (dCB cdLen (dCons (dVar 2) dNil)) dNil)))))))
    (sRet (dVar 3))))
theorem abs_nat (i : Int) : (if i < 0 then -i else i) = (i.natAbs : Int) := by split <;> omega
theorem big18 : CPow 10 18 := ⟨by decide, by decide, by decide⟩
theorem ints_get {ns : List Int} {i : Nat} {x : D} (h : (ns.map D.int)[i]? = some x) : ∃ n, ns[i]? = some n ∧ x = .int n := by
  rw [List.getElem?_map] at h
  cases e : ns[i]? with
  | none => rw [e] at h; cases h
  | some n => rw [e] at h; exact ⟨n, rfl, (Option.some.inj h).symm⟩
theorem fm_int (f : Int → Option Int) : ∀ ns : List Int, (ns.map D.int).filterMap (fun d => match d with | .int i => (f i).map D.int | _ => none) = (ns.filterMap f).map D.int
  | [] => rfl
  | n :: ns => by
    rw [List.map_cons, List.filterMap_cons, List.filterMap_cons]
    cases e : f n with
    | none => simp only [e, Option.map_none]; exact fm_int f ns
    | some m => simp only [e, Option.map_some, List.map_cons]; rw [fm_int f ns]
theorem m_int (f : Int → Int) : ∀ ns : List Int, (ns.map D.int).map (fun d => match d with | .int i => D.int (f i) | d => d) = (ns.map f).map D.int
  | [] => rfl
  | n :: ns => by rw [List.map_cons, List.map_cons, List.map_cons, List.map_cons, m_int f ns]
theorem pu__law_begun (ds : List D) (μ : Mu) (Q : DQ) (QE : XQ) (h : sd__law_begun ds μ Q QE) : db__law_begun { nx := fun _ μ' => fin Q .non μ', rt := fin Q, xe := finX QE } (startD ["script", "grain", "large"] ds) μ := by
  obtain ⟨ns, rfl, hn, k⟩ := h
  have hz : (ns.map D.int).length ≤ sizeLine := sl_ok (by rw [List.length_map]; omega)
  -- large
  unfold db__law_begun
  simp only [sSeq, sAsg, sRet, sRetN, sDrop, sIf, sPar, sDPutD, sNext, sBrk, sCont, sRaise, sAugI, sFor, sFreeze, dVar, dC, dOp, dTest, dAnd, dOr, dNot, dAndV, dOrV, dNotV, dIf, dChain, dTup, dLst, dLstM, dNil, dCons, dCB, dCall, dCallK, dRev, dSlice, oNone, oSome, dIsN, dNeg, dDGet, dDict, dPs, dPop, dPopAt, dAppend, dLc, dRgL, dRgT, gRg1, gRg2, iSeqD, iRng1D, iRng2D, tTrue, rdAdd, rdI, rdI0, rdB0, rdIx, rdMul, cdLen, cdAbs, cdInt, cdMin2, cdMax2, cdTup, cdList, cdListM, cdAll, cdAny, cdIsi, dName, dGTup, dGCons, dGNil, dGSub, startD, wipeD, seqOf, listOf, keepOf, List.map_cons, List.map_nil, List.length_cons, List.length_nil, List.cons_append, List.nil_append, Nat.reduceAdd, Nat.reduceSub, List.replicate_succ, List.replicate_zero, List.replicate, List.set_cons_zero, List.set_cons_succ, List.getElem?_cons_zero, List.getElem?_cons_succ, Int.reduceToNat, Int.reduceNeg, Bool.false_eq_true, if_true, if_false, decide_eq_true_eq, Option.some.injEq, exists_eq_left', exists_eq_left, true_and, and_true, D.key, D.int.injEq, D.bl.injEq, D.tup.injEq, D.ref.injEq, D.lst.injEq, D.arg.injEq]
  refine lc_pure (fun d => match d with | .int i => (if 10 ^ 18 ≤ (i.natAbs : Int) then some ((i.natAbs : Int) - 10 ^ 18) else none).map D.int | _ => none) hz (fun _ _ _ => trivial) (fun i x μ' R1 R2 hx hl h1 h2 => ?_) (fun l hl => ?_)
  · obtain ⟨n, _, rfl⟩ := ints_get hx
    simp only [sSeq, sAsg, sRet, sRetN, sDrop, sIf, sPar, sDPutD, sNext, sBrk, sCont, sRaise, sAugI, sFor, sFreeze, dVar, dC, dOp, dTest, dAnd, dOr, dNot, dAndV, dOrV, dNotV, dIf, dChain, dTup, dLst, dLstM, dNil, dCons, dCB, dCall, dCallK, dRev, dSlice, oNone, oSome, dIsN, dNeg, dDGet, dDict, dPs, dPop, dPopAt, dAppend, dLc, dRgL, dRgT, gRg1, gRg2, iSeqD, iRng1D, iRng2D, tTrue, rdAdd, rdI, rdI0, rdB0, rdIx, rdMul, cdLen, cdAbs, cdInt, cdMin2, cdMax2, cdTup, cdList, cdListM, cdAll, cdAny, cdIsi, dName, dGTup, dGCons, dGNil, dGSub, startD, wipeD, seqOf, listOf, keepOf, List.map_cons, List.map_nil, List.length_cons, List.length_nil, List.cons_append, List.nil_append, Nat.reduceAdd, Nat.reduceSub, List.replicate_succ, List.replicate_zero, List.replicate, List.set_cons_zero, List.set_cons_succ, List.getElem?_cons_zero, List.getElem?_cons_succ, Int.reduceToNat, Int.reduceNeg, Bool.false_eq_true, if_true, if_false, decide_eq_true_eq, Option.some.injEq, exists_eq_left', exists_eq_left, true_and, and_true, D.key, D.int.injEq, D.bl.injEq, D.tup.injEq, D.ref.injEq, D.lst.injEq, D.arg.injEq, abs_nat]
    refine ⟨big18, ?_⟩
    by_cases c : 10 ^ 18 ≤ (n.natAbs : Int)
    · rw [if_pos c]
      exact ⟨big18, h1 _ (by simp only [if_pos c]; rfl)⟩
    · rw [if_neg c]
      exact h2 (by simp only [if_neg c]; rfl)
  rw [fm_int]
  -- the dict
  intro q hq
  have nlq : q ≠ l := fun z => by rw [z, mset_same] at hq; cases hq
  refine lc_map (fun d => match d with | .int i => D.int (i.natAbs : Int) | d => d) hz (fun _ _ _ => trivial) (fun i x μ' R hx hl h1 => ?_) (fun _ _ => ?_)
  · obtain ⟨n, _, rfl⟩ := ints_get hx
    simp only [sSeq, sAsg, sRet, sRetN, sDrop, sIf, sPar, sDPutD, sNext, sBrk, sCont, sRaise, sAugI, sFor, sFreeze, dVar, dC, dOp, dTest, dAnd, dOr, dNot, dAndV, dOrV, dNotV, dIf, dChain, dTup, dLst, dLstM, dNil, dCons, dCB, dCall, dCallK, dRev, dSlice, oNone, oSome, dIsN, dNeg, dDGet, dDict, dPs, dPop, dPopAt, dAppend, dLc, dRgL, dRgT, gRg1, gRg2, iSeqD, iRng1D, iRng2D, tTrue, rdAdd, rdI, rdI0, rdB0, rdIx, rdMul, cdLen, cdAbs, cdInt, cdMin2, cdMax2, cdTup, cdList, cdListM, cdAll, cdAny, cdIsi, dName, dGTup, dGCons, dGNil, dGSub, startD, wipeD, seqOf, listOf, keepOf, List.map_cons, List.map_nil, List.length_cons, List.length_nil, List.cons_append, List.nil_append, Nat.reduceAdd, Nat.reduceSub, List.replicate_succ, List.replicate_zero, List.replicate, List.set_cons_zero, List.set_cons_succ, List.getElem?_cons_zero, List.getElem?_cons_succ, Int.reduceToNat, Int.reduceNeg, Bool.false_eq_true, if_true, if_false, decide_eq_true_eq, Option.some.injEq, exists_eq_left', exists_eq_left, true_and, and_true, D.key, D.int.injEq, D.bl.injEq, D.tup.injEq, D.ref.injEq, D.lst.injEq, D.arg.injEq, abs_nat]
    exact h1
  rw [m_int]
  have hq' : μ q = none := by rw [mset_ne nlq] at hq; exact hq
  refine ⟨mset_same, fin_self (k q l _ hq' hl ⟨ns.filterMap fun i => if 10 ^ 18 ≤ (i.natAbs : Int) then some ((i.natAbs : Int) - 10 ^ 18) else none, 0, _, 0, mset_same, ?_, nlq, ?_, ?_⟩ ?_)⟩
  · rw [mset_ne nlq.symm, mset_ne nlq.symm]; exact mset_same
  · exact Nat.le_trans (List.length_filterMap_le _ _) hn
  · rw [List.length_map]; exact hn
  · exact ((Le.new hl).mset hq').mset hq'
abbrev drawD (l : Addr) (r : Int) (cs : List Int) (t : Int) : MO := .dct [(.inr "large", .ref l), (.inr "rest", .int r), (.inr "cells", .lst (cs.map .int)), (.inr "turn", .int t)]
section
variable {l : Addr} {r t r' : Int} {cs : List Int}
theorem val_large : valD [((.inr "large" : Key), D.ref l), (.inr "rest", .int r), (.inr "cells", .lst (cs.map .int)), (.inr "turn", .int t)] (.inr "large") = some (.ref l) := by rfl
theorem val_rest : valD [((.inr "large" : Key), D.ref l), (.inr "rest", .int r), (.inr "cells", .lst (cs.map .int)), (.inr "turn", .int t)] (.inr "rest") = some (.int r) := by rfl
theorem val_cells : valD [((.inr "large" : Key), D.ref l), (.inr "rest", .int r), (.inr "cells", .lst (cs.map .int)), (.inr "turn", .int t)] (.inr "cells") = some (.lst (cs.map .int)) := by rfl
theorem val_turn : valD [((.inr "large" : Key), D.ref l), (.inr "rest", .int r), (.inr "cells", .lst (cs.map .int)), (.inr "turn", .int t)] (.inr "turn") = some (.int t) := by rfl
theorem put_turn : putD [((.inr "large" : Key), D.ref l), (.inr "rest", .int r), (.inr "cells", .lst (cs.map .int)), (.inr "turn", .int t)] (.inr "turn") (.int r') = [(.inr "large", .ref l), (.inr "rest", .int r), (.inr "cells", .lst (cs.map .int)), (.inr "turn", .int r')] := by rfl
theorem put_rest : putD [((.inr "large" : Key), D.ref l), (.inr "rest", .int r), (.inr "cells", .lst (cs.map .int)), (.inr "turn", .int t)] (.inr "rest") (.int r') = [(.inr "large", .ref l), (.inr "rest", .int r'), (.inr "cells", .lst (cs.map .int)), (.inr "turn", .int t)] := by rfl
end
theorem cm_small {i j : Int} (h : -(2 ^ 64) < j ∧ j < 2 ^ 64) : CMulA i j := .inl (.inr h)
theorem cdiv_small {i j : Int} (h : 0 < j) (h2 : j < 2 ^ 64) : CDivW i j := wide_div (b := 64) h (by omega) (by decide) (by decide)
theorem lt4 : (4 : Nat) ≤ sizeLine := sl_ok (by decide)
theorem pu__law_mixed (ds : List D) (μ : Mu) (Q : DQ) (QE : XQ) (h : sd__law_mixed ds μ Q QE) : db__law_mixed { nx := fun _ μ' => fin Q .non μ', rt := fin Q, xe := finX QE } (startD ["draw", "turn", "found", "great", "blend", "grain"] ds) μ := by
  obtain ⟨q, l, rfl, ⟨ls, r, cs, t, hq, hl, nql, h1, h2⟩, k⟩ := h
  unfold db__law_mixed
  simp only [sSeq, sAsg, sRet, sRetN, sDrop, sIf, sPar, sDPutD, sNext, sBrk, sCont, sRaise, sAugI, sFor, sFreeze, dVar, dC, dOp, dTest, dAnd, dOr, dNot, dAndV, dOrV, dNotV, dIf, dChain, dTup, dLst, dLstM, dNil, dCons, dCB, dCall, dCallK, dRev, dSlice, oNone, oSome, dIsN, dNeg, dDGet, dDict, dPs, dPop, dPopAt, dAppend, dLc, dRgL, dRgT, gRg1, gRg2, iSeqD, iRng1D, iRng2D, tTrue, rdAdd, rdI, rdI0, rdB0, rdIx, rdMul, cdLen, cdAbs, cdInt, cdMin2, cdMax2, cdTup, cdList, cdListM, cdAll, cdAny, cdIsi, dName, dGTup, dGCons, dGNil, dGSub, startD, wipeD, seqOf, listOf, keepOf, List.map_cons, List.map_nil, List.length_cons, List.length_nil, List.cons_append, List.nil_append, Nat.reduceAdd, Nat.reduceSub, List.replicate_succ, List.replicate_zero, List.replicate, List.set_cons_zero, List.set_cons_succ, List.getElem?_cons_zero, List.getElem?_cons_succ, Int.reduceToNat, Int.reduceNeg, Bool.false_eq_true, if_true, if_false, decide_eq_true_eq, Option.some.injEq, exists_eq_left', exists_eq_left, true_and, and_true, D.key, D.int.injEq, D.bl.injEq, D.tup.injEq, D.ref.injEq, D.lst.injEq, D.arg.injEq]
  refine ⟨_, _, _, _, rfl, hq, rfl, val_turn, _, _, _, rfl, hq, rfl, sl_lt (by simp), ?_⟩
  rw [put_turn]
  refine ⟨_, _, _, _, rfl, mset_same, rfl, val_turn, ?_⟩
  dsimp only
  refine ⟨sl_ok (by decide), fun _ ρ' μ' => ∃ (f : Int) (g b gr : Option D), ρ' = [some (.ref q), some (.int (t + 1)), some (.int f), g, b, gr] ∧ μ' = mset μ q (drawD l r cs (t + 1)), ⟨0, none, none, none, rfl, rfl⟩, fun _ _ _ _ _ => trivial, fun i d ρ' μ' hd ⟨f, g, b, gr, e1, e2⟩ => ?_, fun ρ' μ' ⟨f, g, b, gr, e1, e2⟩ => ?_⟩
  · obtain ⟨G, rfl, g0, g1⟩ : ∃ G : Int, d = .int G ∧ 0 < G ∧ G < 2147483648 := by
      have hm := List.mem_of_getElem? hd
      simp only [List.mem_cons, List.not_mem_nil, or_false] at hm
      rcases hm with rfl | rfl | rfl
      · exact ⟨_, rfl, by decide, by decide⟩
      · exact ⟨_, rfl, by decide, by decide⟩
      · exact ⟨_, rfl, by decide, by decide⟩
    subst e1 e2
    simp only [sSeq, sAsg, sRet, sRetN, sDrop, sIf, sPar, sDPutD, sNext, sBrk, sCont, sRaise, sAugI, sFor, sFreeze, dVar, dC, dOp, dTest, dAnd, dOr, dNot, dAndV, dOrV, dNotV, dIf, dChain, dTup, dLst, dLstM, dNil, dCons, dCB, dCall, dCallK, dRev, dSlice, oNone, oSome, dIsN, dNeg, dDGet, dDict, dPs, dPop, dPopAt, dAppend, dLc, dRgL, dRgT, gRg1, gRg2, iSeqD, iRng1D, iRng2D, tTrue, rdAdd, rdI, rdI0, rdB0, rdIx, rdMul, cdLen, cdAbs, cdInt, cdMin2, cdMax2, cdTup, cdList, cdListM, cdAll, cdAny, cdIsi, dName, dGTup, dGCons, dGNil, dGSub, startD, wipeD, seqOf, listOf, keepOf, List.map_cons, List.map_nil, List.length_cons, List.length_nil, List.cons_append, List.nil_append, Nat.reduceAdd, Nat.reduceSub, List.replicate_succ, List.replicate_zero, List.replicate, List.set_cons_zero, List.set_cons_succ, List.getElem?_cons_zero, List.getElem?_cons_succ, Int.reduceToNat, Int.reduceNeg, Bool.false_eq_true, if_true, if_false, decide_eq_true_eq, Option.some.injEq, exists_eq_left', exists_eq_left, true_and, and_true, D.key, D.int.injEq, D.bl.injEq, D.tup.injEq, D.ref.injEq, D.lst.injEq, D.arg.injEq]
    refine ⟨cm_small (by omega), cdiv_small (by decide) (by decide), g0, _, _, _, _, rfl, mset_same, rfl, val_cells, _, rfl, ?_⟩
    have b0 := Int.emod_nonneg ((t + 1) * 69621 + G / 7) (by omega : G ≠ 0)
    have b1 := Int.emod_lt_of_pos ((t + 1) * 69621 + G / 7) g0
    refine ⟨fun _ ρ' μ' => ∃ (b : Int) (gr : Option D), 0 ≤ b ∧ b < G ∧ ρ' = [some (.ref q), some (.int (t + 1)), some (.int f), some (.int G), some (.int b), gr] ∧ μ' = mset μ q (drawD l r cs (t + 1)), ⟨_, _, b0, b1, rfl, rfl⟩, fun _ _ _ _ _ => trivial, fun i d ρ' μ' hd ⟨b, gr, c0, c1, e1, e2⟩ => ?_, fun ρ' μ' ⟨b, gr, c0, c1, e1, e2⟩ => ?_⟩
    · obtain ⟨n, _, rfl⟩ := ints_get hd
      subst e1 e2
      simp only [sSeq, sAsg, sRet, sRetN, sDrop, sIf, sPar, sDPutD, sNext, sBrk, sCont, sRaise, sAugI, sFor, sFreeze, dVar, dC, dOp, dTest, dAnd, dOr, dNot, dAndV, dOrV, dNotV, dIf, dChain, dTup, dLst, dLstM, dNil, dCons, dCB, dCall, dCallK, dRev, dSlice, oNone, oSome, dIsN, dNeg, dDGet, dDict, dPs, dPop, dPopAt, dAppend, dLc, dRgL, dRgT, gRg1, gRg2, iSeqD, iRng1D, iRng2D, tTrue, rdAdd, rdI, rdI0, rdB0, rdIx, rdMul, cdLen, cdAbs, cdInt, cdMin2, cdMax2, cdTup, cdList, cdListM, cdAll, cdAny, cdIsi, dName, dGTup, dGCons, dGNil, dGSub, startD, wipeD, seqOf, listOf, keepOf, List.map_cons, List.map_nil, List.length_cons, List.length_nil, List.cons_append, List.nil_append, Nat.reduceAdd, Nat.reduceSub, List.replicate_succ, List.replicate_zero, List.replicate, List.set_cons_zero, List.set_cons_succ, List.getElem?_cons_zero, List.getElem?_cons_succ, Int.reduceToNat, Int.reduceNeg, Bool.false_eq_true, if_true, if_false, decide_eq_true_eq, Option.some.injEq, exists_eq_left', exists_eq_left, true_and, and_true, D.key, D.int.injEq, D.bl.injEq, D.tup.injEq, D.ref.injEq, D.lst.injEq, D.arg.injEq]
      refine ⟨cm_small (by omega), g0, _, _, Int.emod_nonneg _ (by omega), Int.emod_lt_of_pos _ g0, rfl⟩
    · subst e1 e2
      simp only [sSeq, sAsg, sRet, sRetN, sDrop, sIf, sPar, sDPutD, sNext, sBrk, sCont, sRaise, sAugI, sFor, sFreeze, dVar, dC, dOp, dTest, dAnd, dOr, dNot, dAndV, dOrV, dNotV, dIf, dChain, dTup, dLst, dLstM, dNil, dCons, dCB, dCall, dCallK, dRev, dSlice, oNone, oSome, dIsN, dNeg, dDGet, dDict, dPs, dPop, dPopAt, dAppend, dLc, dRgL, dRgT, gRg1, gRg2, iSeqD, iRng1D, iRng2D, tTrue, rdAdd, rdI, rdI0, rdB0, rdIx, rdMul, cdLen, cdAbs, cdInt, cdMin2, cdMax2, cdTup, cdList, cdListM, cdAll, cdAny, cdIsi, dName, dGTup, dGCons, dGNil, dGSub, startD, wipeD, seqOf, listOf, keepOf, List.map_cons, List.map_nil, List.length_cons, List.length_nil, List.cons_append, List.nil_append, Nat.reduceAdd, Nat.reduceSub, List.replicate_succ, List.replicate_zero, List.replicate, List.set_cons_zero, List.set_cons_succ, List.getElem?_cons_zero, List.getElem?_cons_succ, Int.reduceToNat, Int.reduceNeg, Bool.false_eq_true, if_true, if_false, decide_eq_true_eq, Option.some.injEq, exists_eq_left', exists_eq_left, true_and, and_true, D.key, D.int.injEq, D.bl.injEq, D.tup.injEq, D.ref.injEq, D.lst.injEq, D.arg.injEq]
      exact ⟨cm_small (by omega), ⟨by decide, by decide, by omega⟩, g0, _, _, _, _, rfl⟩
  · subst e1 e2
    simp only [sSeq, sAsg, sRet, sRetN, sDrop, sIf, sPar, sDPutD, sNext, sBrk, sCont, sRaise, sAugI, sFor, sFreeze, dVar, dC, dOp, dTest, dAnd, dOr, dNot, dAndV, dOrV, dNotV, dIf, dChain, dTup, dLst, dLstM, dNil, dCons, dCB, dCall, dCallK, dRev, dSlice, oNone, oSome, dIsN, dNeg, dDGet, dDict, dPs, dPop, dPopAt, dAppend, dLc, dRgL, dRgT, gRg1, gRg2, iSeqD, iRng1D, iRng2D, tTrue, rdAdd, rdI, rdI0, rdB0, rdIx, rdMul, cdLen, cdAbs, cdInt, cdMin2, cdMax2, cdTup, cdList, cdListM, cdAll, cdAny, cdIsi, dName, dGTup, dGCons, dGNil, dGSub, startD, wipeD, seqOf, listOf, keepOf, List.map_cons, List.map_nil, List.length_cons, List.length_nil, List.cons_append, List.nil_append, Nat.reduceAdd, Nat.reduceSub, List.replicate_succ, List.replicate_zero, List.replicate, List.set_cons_zero, List.set_cons_succ, List.getElem?_cons_zero, List.getElem?_cons_succ, Int.reduceToNat, Int.reduceNeg, Bool.false_eq_true, if_true, if_false, decide_eq_true_eq, Option.some.injEq, exists_eq_left', exists_eq_left, true_and, and_true, D.key, D.int.injEq, D.bl.injEq, D.tup.injEq, D.ref.injEq, D.lst.injEq, D.arg.injEq]
    exact fin_self (k f _ ⟨ls, r, cs, t + 1, mset_same, by rw [mset_ne nql.symm]; exact hl, nql, h1, h2⟩ Keep.draw)
theorem pu__law_take (ds : List D) (μ : Mu) (Q : DQ) (QE : XQ) (h : sd__law_take ds μ Q QE) : db__law_take { nx := fun _ μ' => fin Q .non μ', rt := fin Q, xe := finX QE } (startD ["draw", "amount", "found"] ds) μ := by
  obtain ⟨q, l, n, rfl, ⟨ls, r, cs, t, hq, hl, nql, h1, h2⟩, n0, n1, k⟩ := h
  -- what stands behind the if
  have rest : ∀ μ' : Mu, DrawAt μ' q l → Keep q l μ μ' → sSeq (sAsg (dOp (rdI (fun _ j => 0 < j) fun i j => i % j) (dCB cdInt (dCons (dDGet (dVar 0) (dC (.str "rest"))) dNil)) (dVar 1)) (dName 2))
      (sSeq (sDPutD (dVar 0) (dC (.str "rest")) (dOp (rdI CDivW fun i j => i / j) (dCB cdInt (dCons (dDGet (dVar 0) (dC (.str "rest"))) dNil)) (dVar 1))) (sRet (dVar 2))) { nx := fun _ μ' => fin Q .non μ', rt := fin Q, xe := finX QE } (startD ["draw", "amount", "found"] [.ref q, .int n]) μ' := by
    intro μ' ⟨ls, r, cs, t, hq, hl, nql, h1, h2⟩ kp
    simp only [sSeq, sAsg, sRet, sRetN, sDrop, sIf, sPar, sDPutD, sNext, sBrk, sCont, sRaise, sAugI, sFor, sFreeze, dVar, dC, dOp, dTest, dAnd, dOr, dNot, dAndV, dOrV, dNotV, dIf, dChain, dTup, dLst, dLstM, dNil, dCons, dCB, dCall, dCallK, dRev, dSlice, oNone, oSome, dIsN, dNeg, dDGet, dDict, dPs, dPop, dPopAt, dAppend, dLc, dRgL, dRgT, gRg1, gRg2, iSeqD, iRng1D, iRng2D, tTrue, rdAdd, rdI, rdI0, rdB0, rdIx, rdMul, cdLen, cdAbs, cdInt, cdMin2, cdMax2, cdTup, cdList, cdListM, cdAll, cdAny, cdIsi, dName, dGTup, dGCons, dGNil, dGSub, startD, wipeD, seqOf, listOf, keepOf, List.map_cons, List.map_nil, List.length_cons, List.length_nil, List.cons_append, List.nil_append, Nat.reduceAdd, Nat.reduceSub, List.replicate_succ, List.replicate_zero, List.replicate, List.set_cons_zero, List.set_cons_succ, List.getElem?_cons_zero, List.getElem?_cons_succ, Int.reduceToNat, Int.reduceNeg, Bool.false_eq_true, if_true, if_false, decide_eq_true_eq, Option.some.injEq, exists_eq_left', exists_eq_left, true_and, and_true, D.key, D.int.injEq, D.bl.injEq, D.tup.injEq, D.ref.injEq, D.lst.injEq, D.arg.injEq]
    refine ⟨_, _, _, _, rfl, hq, rfl, val_rest, ?_⟩
    dsimp only
    refine ⟨n0, _, _, _, _, rfl, hq, rfl, val_rest, ?_⟩
    dsimp only
    refine ⟨cdiv_small n0 n1, _, _, _, rfl, hq, rfl, sl_lt (by simp), ?_⟩
    rw [put_rest]
    exact fin_self (k _ _ (Int.emod_nonneg _ (by omega)) (Int.emod_lt_of_pos _ n0) ⟨ls, _, cs, t, mset_same, by rw [mset_ne nql.symm]; exact hl, nql, h1, h2⟩ (kp.trans Keep.draw))
  unfold db__law_take
  unfold sSeq
  simp only [sIf, sDPutD, dTest, dOp, dDGet, dVar, dC, dIf, dPopAt, dLst, dNil, dCall, dCons, startD, List.map_cons, List.map_nil, List.length_cons, List.length_nil, List.cons_append, List.nil_append, Nat.reduceAdd, Nat.reduceSub, List.replicate_succ, List.replicate_zero, List.getElem?_cons_zero, List.getElem?_cons_succ, Option.some.injEq, exists_eq_left']
  refine ⟨_, _, _, _, rfl, hq, rfl, val_rest, eq_int ?_⟩
  rw [Bool.xor_false]
  refine ⟨_, rfl, ?_⟩
  by_cases c : r = 0
  · rw [if_pos (decide_eq_true c)]
    refine ⟨_, _, _, _, rfl, hq, rfl, val_large, sl_ok (by decide), eq_nil (xs := ls.map .int) (by simp only [listOf, hl]) ints_ok ?_⟩
    refine ⟨_, rfl, ?_⟩
    cases ls with
    | nil =>
      rw [if_neg (by decide)]
      refine ⟨q, l, rfl, ⟨[], r, cs, t, hq, hl, nql, h1, h2⟩, fun m μ' ⟨ls, r, cs, t, hq, hl, nql, h1, h2⟩ kp => ?_⟩
      refine ⟨_, _, _, rfl, hq, rfl, sl_lt (by simp), ?_⟩
      rw [put_rest]
      exact rest _ ⟨ls, m, cs, t, mset_same, by rw [mset_ne nql.symm]; exact hl, nql, h1, h2⟩ (kp.trans Keep.draw)
    | cons m ls =>
      rw [if_pos (by simp)]
      refine ⟨_, _, _, _, rfl, hq, rfl, val_large, _, _, rfl, hl, _, _, 0, _, rfl, hl, by decide, by decide, ?_, rfl, ?_⟩
      · simp [seqIndex?]
      refine ⟨_, _, _, rfl, by rw [mset_ne nql]; exact hq, rfl, sl_lt (by simp), ?_⟩
      rw [put_rest]
      exact rest _ ⟨ls, m, cs, t, mset_same, by rw [mset_ne nql.symm, mset_same]; rfl, nql, by simp at h1; omega, h2⟩ (Keep.large.trans Keep.draw)
  · rw [if_neg (by simpa using c)]
    exact rest μ ⟨ls, r, cs, t, hq, hl, nql, h1, h2⟩ Keep.rfl'
theorem pu__law_pick (ds : List D) (μ : Mu) (Q : DQ) (QE : XQ) (h : sd__law_pick ds μ Q QE) : db__law_pick { nx := fun _ μ' => fin Q .non μ', rt := fin Q, xe := finX QE } (startD ["draw", "some"] ds) μ := by
  obtain ⟨q, l, d, xs, rfl, hd, h0, h1, D0, k⟩ := h
  have hs : ∀ μ' : Mu, seqOf μ' d = some xs := fun μ' => by rcases hd with rfl | rfl <;> rfl
  have hL : ∀ (μ' : Mu) (R : DQ), R (.int xs.length) μ' → cdLen [d] μ' R := fun μ' R hr => by
    rcases hd with rfl | rfl
    · exact ⟨xs, rfl, hr⟩
    · exact ⟨xs, rfl, hr⟩
  unfold db__law_pick
  simp only [sRet, dOp, dVar, dCall, dCons, dCB, dNil, rdIx, startD, List.map_cons, List.map_nil, List.length_cons, List.length_nil, List.cons_append, List.nil_append, Nat.reduceAdd, Nat.reduceSub, List.replicate_zero, List.getElem?_cons_zero, List.getElem?_cons_succ, Option.some.injEq, exists_eq_left']
  refine hL _ _ ⟨q, l, xs.length, rfl, D0, by omega, by omega, fun i μ' i0 i1 D1 kp => ?_⟩
  have hi : i.toNat < xs.length := by omega
  refine ⟨xs, hs μ', xs[i.toNat], ?_, fin_self (k i.toNat _ μ' (by simp [hi]) D1 kp)⟩
  unfold atI ixN
  rw [if_pos i0, if_pos i1]
  simp [hi]
theorem erase_perm {α : Type} : ∀ (l : List α) (i : Nat) (h : i < l.length), (l[i] :: l.eraseIdx i).Perm l
  | a :: l, 0, _ => List.Perm.refl _
  | a :: l, i + 1, h => by
    have h' : i < l.length := by simpa using h
    have := erase_perm l i h'
    show (l[i] :: a :: l.eraseIdx i).Perm (a :: l)
    exact (List.Perm.swap a l[i] _).trans (this.cons a)
theorem pu__law_shuffled (ds : List D) (μ : Mu) (Q : DQ) (QE : XQ) (h : sd__law_shuffled ds μ Q QE) : db__law_shuffled { nx := fun _ μ' => fin Q .non μ', rt := fin Q, xe := finX QE } (startD ["draw", "some", "left", "found"] ds) μ := by
  obtain ⟨q, l, d, xs, rfl, hd, h1, hp, D0, k⟩ := h
  have main : ∀ (p1 p2 : Addr) (μ1 : Mu), μ p1 = none → μ p2 = none → p1 ≠ p2 → μ1 p1 = some (.lst xs) → μ1 p2 = some (.lst []) → DrawAt μ1 q l → Keep q l μ μ1 →
      sSeq (sWhile (dTest (dOp (rdEq true) (dVar 2) (dLst dNil))) (sDrop (dAppend (dVar 3) (dPopAt (dVar 2) (dCall sd__law_take (dCons (dVar 0) (dCons (dCB cdLen (dCons (dVar 2) dNil)) dNil))))))) (sRet (dVar 3))
        { nx := fun _ μ' => fin Q .non μ', rt := fin Q, xe := finX QE } [some (.ref q), some d, some (.ref p1), some (.ref p2)] μ1 := by
    intro p1 p2 μ1 n1 n2 n12 a1 a2 D1 K1
    have q1 := D0.q n1
    have l1 := D0.l n1
    have q2 := D0.q n2
    have l2 := D0.l n2
    unfold sSeq sWhile
    refine ⟨fun m ρ' μ' => ρ' = [some (.ref q), some d, some (.ref p1), some (.ref p2)] ∧ DrawAt μ' q l ∧ Keep q l μ μ' ∧ ∃ ls fs, m = ls.length ∧ μ' p1 = some (.lst ls) ∧ μ' p2 = some (.lst fs) ∧ (fs ++ ls).Perm xs, ⟨_, rfl, D1, K1, xs, [], rfl, a1, a2, List.Perm.refl _⟩, ?_⟩
    rintro m ρ' μ' ⟨rfl, D2, K2, ls, fs, rfl, b1, b2, pm⟩
    have hlen := pm.length_eq
    rw [List.length_append] at hlen
    simp only [sSeq, sAsg, sRet, sRetN, sDrop, sIf, sPar, sDPutD, sNext, sBrk, sCont, sRaise, sAugI, sFor, sFreeze, dVar, dC, dOp, dTest, dAnd, dOr, dNot, dAndV, dOrV, dNotV, dIf, dChain, dTup, dLst, dLstM, dNil, dCons, dCB, dCall, dCallK, dRev, dSlice, oNone, oSome, dIsN, dNeg, dDGet, dDict, dPs, dPop, dPopAt, dAppend, dLc, dRgL, dRgT, gRg1, gRg2, iSeqD, iRng1D, iRng2D, tTrue, rdAdd, rdI, rdI0, rdB0, rdIx, rdMul, cdLen, cdAbs, cdInt, cdMin2, cdMax2, cdTup, cdList, cdListM, cdAll, cdAny, cdIsi, dName, dGTup, dGCons, dGNil, dGSub, startD, wipeD, seqOf, listOf, keepOf, List.map_cons, List.map_nil, List.length_cons, List.length_nil, List.cons_append, List.nil_append, Nat.reduceAdd, Nat.reduceSub, List.replicate_succ, List.replicate_zero, List.replicate, List.set_cons_zero, List.set_cons_succ, List.getElem?_cons_zero, List.getElem?_cons_succ, Int.reduceToNat, Int.reduceNeg, Bool.false_eq_true, if_true, if_false, decide_eq_true_eq, Option.some.injEq, exists_eq_left', exists_eq_left, true_and, and_true, D.key, D.int.injEq, D.bl.injEq, D.tup.injEq, D.ref.injEq, D.lst.injEq, D.arg.injEq]
    refine ⟨sl_ok (by decide), eq_nil (xs := ls) (by simp only [listOf, b1]) (fun x hx => hp x (pm.mem_iff.mp (List.mem_append_right _ hx))) ⟨_, rfl, ?_⟩⟩
    by_cases c : ls = []
    · subst c
      rw [if_neg (by simp)]
      refine fin_self (k p2 fs μ' ?_ n2 b2 D2 K2)
      rw [List.append_nil] at pm
      exact pm
    · rw [if_pos (by simp [c])]
      have hpos := List.length_pos_iff.mpr c
      refine ⟨p2, fs, rfl, b2, p1, ls, rfl, b1, ?_⟩
      refine ⟨ls, by simp only [b1], ?_⟩
      refine ⟨q, l, ls.length, rfl, D2, by omega, by omega, fun i μ3 i0 i1 D3 K3 => ?_⟩
      have hi : i.toNat < ls.length := by omega
      have b1' := K3 p1 _ q1 l1 b1
      have b2' := K3 p2 _ q2 l2 b2
      refine ⟨ls, i, i.toNat, ls[i.toNat], rfl, b1', by omega, by omega, seqIx_nat i0 i1, by simp [hi], ?_⟩
      refine ⟨fs, by rw [mset_ne n12.symm]; exact b2', sl_lt (by omega), ?_⟩
      refine ⟨(ls.eraseIdx i.toNat).length, ?_, (D3.mset q1 l1).mset q2 l2, ((K2.trans K3).mset n1).mset n2, _, _, rfl, ?_, mset_same, ?_⟩
      · rw [List.length_eraseIdx_of_lt hi]; omega
      · rw [mset_ne n12]; exact mset_same
      · rw [List.append_assoc]
        refine List.Perm.trans (List.Perm.append_left fs ?_) pm
        exact erase_perm ls _ hi
  rcases hd with rfl | rfl
  · unfold db__law_shuffled
    unfold sSeq sPar
    simp only [dCB, dCons, dNil, dVar, cdListM, dLstM, startD, List.map_cons, List.map_nil, List.length_cons, List.length_nil, List.cons_append, List.nil_append, Nat.reduceAdd, Nat.reduceSub, List.replicate_succ, List.replicate_zero, List.replicate, List.getElem?_cons_zero, List.getElem?_cons_succ, Option.some.injEq, exists_eq_left', seqOf, List.set_cons_zero, List.set_cons_succ]
    intro p1 n1
    refine ⟨sl_ok (by decide), fun p2 n2 => ?_⟩
    have n12 : p1 ≠ p2 := fun z => by rw [z, mset_same] at n2; cases n2
    have n2' : μ p2 = none := by rw [mset_ne n12.symm] at n2; exact n2
    exact main p1 p2 _ n1 n2' n12 (by rw [mset_ne n12]; exact mset_same) mset_same ((D0.mset (D0.q n1) (D0.l n1)).mset (D0.q n2') (D0.l n2')) ((Keep.rfl'.mset n1).mset n2')
  · unfold db__law_shuffled
    unfold sSeq sPar
    simp only [dCB, dCons, dNil, dVar, cdListM, dLstM, startD, List.map_cons, List.map_nil, List.length_cons, List.length_nil, List.cons_append, List.nil_append, Nat.reduceAdd, Nat.reduceSub, List.replicate_succ, List.replicate_zero, List.replicate, List.getElem?_cons_zero, List.getElem?_cons_succ, Option.some.injEq, exists_eq_left', seqOf, List.set_cons_zero, List.set_cons_succ]
    intro p1 n1
    refine ⟨sl_ok (by decide), fun p2 n2 => ?_⟩
    have n12 : p1 ≠ p2 := fun z => by rw [z, mset_same] at n2; cases n2
    have n2' : μ p2 = none := by rw [mset_ne n12.symm] at n2; exact n2
    exact main p1 p2 _ n1 n2' n12 (by rw [mset_ne n12]; exact mset_same) mset_same ((D0.mset (D0.q n1) (D0.l n1)).mset (D0.q n2') (D0.l n2')) ((Keep.rfl'.mset n1).mset n2')
end DL

/-! kinds.py and letters.py. -/
namespace DL
open PySem PySem.Spec PyProof.Rows L2
def isIntD : D → Bool
  | .int _ => true
  | _ => false
def isBlD : D → Bool
  | .bl _ => true
  | _ => false
def isTupD : D → Bool
  | .tup _ => true
  | _ => false
def isLstD (μ : Mu) : D → Bool
  | .lst _ => true
  | .ref a => match μ a with
    | some (.lst _) => true
    | _ => false
  | _ => false
def btw (d : D) (lo hi : Int) : Bool := match d with
  | .int i => decide (lo ≤ i) && decide (i ≤ hi)
  | _ => false
def Ty (μ : Mu) (d : D) : Prop := ∃ t, tyD μ d = some t
def TyA (μ : Mu) (d : D) : Prop := Ty μ d ∧ ∀ xs, d = .tup xs → ∀ x ∈ xs, Ty μ x
/-- which of int, bool, tuple, list a built-in type is below -/
structure KT (t : String) (i b u l : Bool) : Prop where
  i : kitB t "int" = some i
  b : kitB t "bool" = some b
  u : kitB t "tuple" = some u
  l : kitB t "list" = some l
theorem kt_NoneType : KT "NoneType" false false false false := ⟨by decide +kernel, by decide +kernel, by decide +kernel, by decide +kernel⟩
theorem kt_bool : KT "bool" true true false false := ⟨by decide +kernel, by decide +kernel, by decide +kernel, by decide +kernel⟩
theorem kt_int : KT "int" true false false false := ⟨by decide +kernel, by decide +kernel, by decide +kernel, by decide +kernel⟩
theorem kt_str : KT "str" false false false false := ⟨by decide +kernel, by decide +kernel, by decide +kernel, by decide +kernel⟩
theorem kt_list : KT "list" false false false true := ⟨by decide +kernel, by decide +kernel, by decide +kernel, by decide +kernel⟩
theorem kt_tuple : KT "tuple" false false true false := ⟨by decide +kernel, by decide +kernel, by decide +kernel, by decide +kernel⟩
theorem kt_dict : KT "dict" false false false false := ⟨by decide +kernel, by decide +kernel, by decide +kernel, by decide +kernel⟩
theorem kit_ty' {μ : Mu} {d : D} {t : String} (h : tyD μ d = some t) : KT t (isIntD d || isBlD d) (isBlD d) (isTupD d) (isLstD μ d) := by
  cases d with
  | ref a =>
    have h : (match μ a with | some (.lst _) => some "list" | some (.dct _) => some "dict" | none => none) = some t := h
    show KT t false false false (match μ a with | some (.lst _) => true | _ => false)
    split at h
    · cases h; rename_i e; simp only [e]; exact kt_list
    · cases h; rename_i e; simp only [e]; exact kt_dict
    · cases h
  | arg _ => cases h
  | ins _ _ => cases h
  | ty _ => cases h
  | cls _ => cases h
  | non => cases h; exact kt_NoneType
  | bl _ => cases h; exact kt_bool
  | int _ => cases h; exact kt_int
  | str _ => cases h; exact kt_str
  | lst _ => cases h; exact kt_list
  | tup _ => cases h; exact kt_tuple
def sd_is_number : SpD := fun ds μ Q _ => ∃ d, ds = [d] ∧ Ty μ d ∧ Q (.bl (isIntD d)) μ
def sd_is_between : SpD := fun ds μ Q _ => ∃ d lo hi, ds = [d, .int lo, .int hi] ∧ Ty μ d ∧ Q (.bl (btw d lo hi)) μ
def intsOf : List D → Option (List Int)
  | [] => some []
  | .int i :: ds => (intsOf ds).map (i :: ·)
  | _ => none
def isBackI (ns : List Int) : Bool := decide (2 ≤ ns.length) && decide (ns.length ≤ 12) && (ns.all fun i => decide (0 ≤ i) && decide (i ≤ (ns.length : Int) - 1)) && (List.range ns.length).all fun k => decide (ns.getD (ns.getD k 0).toNat 0 = (k : Int))
def isBackD : D → Bool
  | .tup xs => match intsOf xs with
    | some ns => isBackI ns
    | none => false
  | _ => false
def sd_is_back : SpD := fun ds μ Q _ => ∃ d, ds = [d] ∧ TyA μ d ∧ Q (.bl (isBackD d)) μ
def sd_need_back : SpD := fun ds μ Q E => ∃ d, ds = [d] ∧ TyA μ d ∧ (isBackD d = true → Q .non μ) ∧ (isBackD d = false → E ⟨"BadBack", []⟩ μ)
def isLet (n : Int) : D → Bool
  | .tup xs => xs.all fun x => btw x 0 (n - 1)
  | _ => false
def lenD : D → Int
  | .tup xs => xs.length
  | _ => 0
def sd_is_letters : SpD := fun ds μ Q _ => ∃ bs d, ds = [.tup bs, d] ∧ TyA μ d ∧ (∀ xs, d = .tup xs → xs.length < 1000000) ∧ Q (.bl (isLet bs.length d)) μ
def isWd (n : Int) (d : D) : Bool := isLet n d && decide (lenD d ≤ 200)
def sd_is_word : SpD := fun ds μ Q E => ∃ b d, ds = [b, d] ∧ TyA μ b ∧ (isBackD b = true → TyA μ d ∧ (∀ xs, d = .tup xs → xs.length < 1000000) ∧ Q (.bl (isWd (lenD b) d)) μ) ∧ (isBackD b = false → E ⟨"BadBack", []⟩ μ)
def sd_need_word : SpD := fun ds μ Q E => ∃ b d, ds = [b, d] ∧ TyA μ b ∧ (isBackD b = true → TyA μ d ∧ (∀ xs, d = .tup xs → xs.length < 1000000) ∧ (isWd (lenD b) d = true → Q .non μ) ∧ (isWd (lenD b) d = false → E ⟨"BadWord", []⟩ μ)) ∧ (isBackD b = false → E ⟨"BadBack", []⟩ μ)
def frStep (bs : List Int) (st : List Int) (l : Int) : List Int := if st ≠ [] ∧ st.getD (st.length - 1) 0 = bs.getD l.toNat 0 then st.dropLast else st ++ [l]
def freeI (bs ws : List Int) : List Int := ws.foldl (frStep bs) []
def undoI (bs ws : List Int) : List Int := ws.reverse.map fun l => bs.getD l.toNat 0
def Lets (n : Nat) (ws : List Int) : Prop := ∀ l ∈ ws, 0 ≤ l ∧ l < n
def sd_free_of : SpD := fun ds μ Q _ => ∃ bs ws, ds = [tI bs, tI ws] ∧ Lets bs.length ws ∧ ws.length < 100000 ∧ Q (tI (freeI bs ws)) μ
def sd_undone_of : SpD := fun ds μ Q _ => ∃ bs ws, ds = [tI bs, tI ws] ∧ Lets bs.length ws ∧ ws.length < 100000 ∧ Q (tI (undoI bs ws)) μ
def sd_free : SpD := fun ds μ Q E => ∃ b d, ds = [b, d] ∧ TyA μ b ∧ (isBackD b = true → TyA μ d ∧ (∀ xs, d = .tup xs → xs.length < 1000000) ∧ (∀ bs ws, b = tI bs → d = tI ws → Lets bs.length ws → ws.length ≤ 200 → Q (tI (freeI bs ws)) μ) ∧ (isWd (lenD b) d = false → E ⟨"BadWord", []⟩ μ)) ∧ (isBackD b = false → E ⟨"BadBack", []⟩ μ)
def sd_undone : SpD := fun ds μ Q E => ∃ b d, ds = [b, d] ∧ TyA μ b ∧ (isBackD b = true → TyA μ d ∧ (∀ xs, d = .tup xs → xs.length < 1000000) ∧ (∀ bs ws, b = tI bs → d = tI ws → Lets bs.length ws → ws.length ≤ 200 → Q (tI (undoI bs ws)) μ) ∧ (isWd (lenD b) d = false → E ⟨"BadWord", []⟩ μ)) ∧ (isBackD b = false → E ⟨"BadBack", []⟩ μ)
/-- slots: 0 thing -/
def db_is_number : DS :=
  (sRet (dAndV (dCB cdIsi (dCons (dVar 0) (dCons (dC (.ty "int")) dNil))) (dNotV (dCB cdIsi (dCons (dVar 0) (dCons (dC (.ty "bool")) dNil))))))
/-- slots: 0 thing, 1 low, 2 high -/
def db_is_between : DS :=
  (sRet (dAndV (dCall sd_is_number (dCons (dVar 0) dNil)) (dChain (rdB0 fun i j => decide (i ≤ j)) (rdB0 fun i j => decide (i ≤ j)) (dVar 1) (dVar 0) (dVar 2))))
/-- slots: 0 thing, 1 item, 2 k -/
def db_is_back : DS :=
  (sSeq (sIf (dOr (dNot (dTest (dCB cdIsi (dCons (dVar 0) (dCons (dC (.ty "tuple")) dNil))))) (dNot (dTest (dChain (rdB0 fun i j => decide (i ≤ j)) (rdB0 fun i j => decide (i ≤ j)) (dC (.int 2)) (dCB cdLen (dCons (dVar 0) dNil)) (dC (.int 12)))))) (sRet (dC (.bl false))) sNext)
    (sSeq (sIf (dNot (dTest (dCB cdAll (dCons (dLc false (iSeqD (dVar 0)) (dName 1) tTrue (dCall sd_is_between (dCons (dVar 1) (dCons (dC (.int 0)) (dCons (dOp (rdI0 fun i j => i - j) (dCB cdLen (dCons (dVar 0) dNil)) (dC (.int 1))) dNil)))) [1]) dNil)))) (sRet (dC (.bl false))) sNext)
    (sRet (dCB cdAll (dCons (dLc false (iRng1D (dCB cdLen (dCons (dVar 0) dNil))) (dName 2) tTrue (dOp (rdEq false) (dOp rdIx (dVar 0) (dOp rdIx (dVar 0) (dVar 2))) (dVar 2)) [2]) dNil)))))
/-- slots: 0 back -/
def db_need_back : DS :=
  (sIf (dNot (dTest (dCall sd_is_back (dCons (dVar 0) dNil)))) (sRaise "BadBack") sNext)
/-- slots: 0 back, 1 thing, 2 item -/
def db_is_letters : DS :=
  (sRet (dAndV (dCB cdIsi (dCons (dVar 1) (dCons (dC (.ty "tuple")) dNil))) (dCB cdAll (dCons (dLc false (iSeqD (dVar 1)) (dName 2) tTrue (dCall sd_is_between (dCons (dVar 2) (dCons (dC (.int 0)) (dCons (dOp (rdI0 fun i j => i - j) (dCB cdLen (dCons (dVar 0) dNil)) (dC (.int 1))) dNil)))) [2]) dNil))))
/-- slots: 0 back, 1 thing -/
def db_is_word : DS :=
  (sSeq (sDrop (dCall sd_need_back (dCons (dVar 0) dNil)))
    (sRet (dAndV (dCall sd_is_letters (dCons (dVar 0) (dCons (dVar 1) dNil))) (dOp (rdB0 fun i j => decide (i ≤ j)) (dCB cdLen (dCons (dVar 1) dNil)) (dC (.int 200))))))
/-- slots: 0 back, 1 thing -/
def db_need_word : DS :=
  (sIf (dNot (dTest (dCall sd_is_word (dCons (dVar 0) (dCons (dVar 1) dNil))))) (sRaise "BadWord") sNext)
/-- slots: 0 back, 1 word, 2 found, 3 letter -/
def db_free_of : DS :=
  (sSeq (sAsg (dLstM dNil) (dName 2))
    (sSeq (sFor (iSeqD (dVar 1)) (dName 3) (sIf (dAnd (dTest (dOp (rdEq true) (dVar 2) (dLst dNil))) (dTest (dOp (rdEq false) (dOp rdIx (dVar 2) (dNeg (dC (.int 1)))) (dOp rdIx (dVar 0) (dVar 3))))) (sDrop (dPop (dVar 2))) (sDrop (dAppend (dVar 2) (dVar 3)))))
    (sRet (dCB cdTup (dCons (dVar 2) dNil)))))
/-- slots: 0 back, 1 word -/
def db_free : DS :=
  (sSeq (sDrop (dCall sd_need_word (dCons (dVar 0) (dCons (dVar 1) dNil))))
    (sRet (dCall sd_free_of (dCons (dVar 0) (dCons (dVar 1) dNil)))))
/-- slots: 0 back, 1 word, 2 letter -/
def db_undone_of : DS :=
  (sRet (dCB cdTup (dCons (dLc false (iSeqD (dRev (dVar 1))) (dName 2) tTrue (dOp rdIx (dVar 0) (dVar 2)) [2]) dNil)))
/-- slots: 0 back, 1 word -/
def db_undone : DS :=
  (sSeq (sDrop (dCall sd_need_word (dCons (dVar 0) (dCons (dVar 1) dNil))))
    (sRet (dCall sd_undone_of (dCons (dVar 0) (dCons (dVar 1) dNil)))))
theorem intsOf_map : ∀ ns : List Int, intsOf (ns.map D.int) = some ns
  | [] => rfl
  | n :: ns => by rw [List.map_cons]; show (intsOf (ns.map D.int)).map (n :: ·) = _; rw [intsOf_map ns]; rfl
theorem intsOf_inv : ∀ {xs : List D} {ns : List Int}, intsOf xs = some ns → xs = ns.map D.int
  | [], ns, h => by cases h; rfl
  | .int i :: ds, ns, h => by
    obtain ⟨ms, h1, rfl⟩ := Option.map_eq_some_iff.mp h
    rw [intsOf_inv h1, List.map_cons]
  | .non :: _, _, h => by cases h
  | .bl _ :: _, _, h => by cases h
  | .str _ :: _, _, h => by cases h
  | .lst _ :: _, _, h => by cases h
  | .tup _ :: _, _, h => by cases h
  | .arg _ :: _, _, h => by cases h
  | .ins _ _ :: _, _, h => by cases h
  | .ref _ :: _, _, h => by cases h
  | .ty _ :: _, _, h => by cases h
  | .cls _ :: _, _, h => by cases h
theorem btw_ints {lo hi : Int} : ∀ {xs : List D}, (xs.all fun x => btw x lo hi) = true → ∃ ns : List Int, xs = ns.map D.int ∧ ∀ n ∈ ns, lo ≤ n ∧ n ≤ hi
  | [], _ => ⟨[], rfl, fun n h => by cases h⟩
  | x :: xs, h => by
    rw [List.all_cons, Bool.and_eq_true] at h
    obtain ⟨ns, rfl, hn⟩ := btw_ints h.2
    cases x with
    | int i =>
      have h1 := h.1
      simp only [btw, Bool.and_eq_true, decide_eq_true_eq] at h1
      refine ⟨i :: ns, rfl, fun n hm => ?_⟩
      rcases List.mem_cons.mp hm with rfl | hm
      · exact h1
      · exact hn n hm
    | _ => simp [btw] at h
theorem isBackD_tI (ns : List Int) : isBackD (tI ns) = isBackI ns := by
  show (match intsOf (ns.map D.int) with | some ns => isBackI ns | none => false) = _
  rw [intsOf_map]
theorem isBackD_inv {d : D} (h : isBackD d = true) : ∃ ns, d = tI ns ∧ isBackI ns = true := by
  cases d with
  | tup xs =>
    have h : (match intsOf xs with | some ns => isBackI ns | none => false) = true := h
    split at h
    · rename_i ns e
      exact ⟨ns, by rw [intsOf_inv e], h⟩
    · cases h
  | _ => cases h
theorem all_of {n : Nat} {f : Nat → Bool} (h : (List.range n).all f = true) : ∀ k, k < n → f k = true := fun k hk => List.all_eq_true.mp h k (List.mem_range.mpr hk)
structure BackI (ns : List Int) : Prop where
  two : 2 ≤ ns.length
  few : ns.length ≤ 12
  lets : Lets ns.length ns
  inv : ∀ k : Nat, k < ns.length → ns.getD (ns.getD k 0).toNat 0 = (k : Int)
theorem backI {ns : List Int} (h : isBackI ns = true) : BackI ns := by
  unfold isBackI at h
  simp only [Bool.and_eq_true, decide_eq_true_eq, List.all_eq_true] at h
  obtain ⟨⟨⟨h1, h2⟩, h3⟩, h4⟩ := h
  exact ⟨h1, h2, fun l hl => by have := h3 l hl; omega, fun k hk => h4 k (List.mem_range.mpr hk)⟩
theorem backI_of {ns : List Int} (h : BackI ns) : isBackI ns = true := by
  unfold isBackI
  simp only [Bool.and_eq_true, decide_eq_true_eq, List.all_eq_true]
  exact ⟨⟨⟨h.two, h.few⟩, fun l hl => by have := h.lets l hl; omega⟩, fun k hk => h.inv k (List.mem_range.mp hk)⟩
theorem atI_nat' {α : Type} {xs : List α} {i : Int} (h0 : 0 ≤ i) (h1 : i < xs.length) : atI xs i = xs[i.toNat]? := by
  unfold atI ixN
  rw [if_pos h0, if_pos h1]
  rfl
theorem atI_ints {ns : List Int} {i : Int} (h0 : 0 ≤ i) (h1 : i < ns.length) : atI (ns.map D.int) i = some (.int (ns.getD i.toNat 0)) := by
  rw [atI_nat' h0 (by rw [List.length_map]; exact h1), List.getElem?_map]
  have hi : i.toNat < ns.length := by omega
  simp [List.getD_eq_getElem?_getD, hi]
theorem getD_mem' {ns : List Int} {i : Nat} (h : i < ns.length) : ns.getD i 0 ∈ ns := by
  rw [List.getD_eq_getElem?_getD, List.getElem?_eq_getElem h]
  exact List.getElem_mem h
theorem map_bl (f : D → Bool) (xs : List D) : xs.map (fun x => D.bl (f x)) = (xs.map f).map D.bl := by rw [List.map_map]; rfl
theorem all_id (f : D → Bool) (xs : List D) : (xs.map f).all id = xs.all f := by rw [List.all_map]; rfl

theorem rng_get {lo : Int} {n i : Nat} {x : D} (h : (rng lo n)[i]? = some x) : i < n ∧ x = .int (lo + (i : Nat)) := by
  unfold rng at h
  rw [List.getElem?_map] at h
  by_cases c : i < n
  · rw [List.getElem?_range c] at h
    exact ⟨c, (Option.some.inj h).symm⟩
  · rw [List.getElem?_eq_none (by simpa using c)] at h
    cases h
theorem finX_self {Q : XQ} {x : Exn} {μ : Mu} (h : Q x μ) : finX Q x μ := ⟨μ, fun _ _ h => h, h⟩
theorem m_int' (f : Int → Int) : ∀ ns : List Int, (ns.map D.int).map (fun d => match d with | .int i => D.int (f i) | d => d) = (ns.map f).map D.int
  | [] => rfl
  | n :: ns => by rw [List.map_cons, List.map_cons, List.map_cons, List.map_cons, m_int' f ns]
theorem ints_get' {ns : List Int} {i : Nat} {x : D} (h : (ns.map D.int)[i]? = some x) : ∃ n, ns[i]? = some n ∧ x = .int n := by
  rw [List.getElem?_map] at h
  cases e : ns[i]? with
  | none => rw [e] at h; cases h
  | some n => rw [e] at h; exact ⟨n, rfl, (Option.some.inj h).symm⟩
theorem pu_is_number (ds : List D) (μ : Mu) (Q : DQ) (QE : XQ) (h : sd_is_number ds μ Q QE) : db_is_number { nx := fun _ μ' => fin Q .non μ', rt := fin Q, xe := finX QE } (startD ["thing"] ds) μ := by
  obtain ⟨d, rfl, ⟨t, ht⟩, k⟩ := h
  have k1 := (kit_ty' ht).i
  have k2 := (kit_ty' ht).b
  unfold db_is_number
  simp only [sSeq, sAsg, sRet, sRetN, sDrop, sIf, sPar, sDPutD, sNext, sBrk, sCont, sRaise, sAugI, sFor, sFreeze, dVar, dC, dOp, dTest, dAnd, dOr, dNot, dAndV, dOrV, dNotV, dIf, dChain, dTup, dLst, dLstM, dNil, dCons, dCB, dCall, dCallK, dRev, dSlice, oNone, oSome, dIsN, dNeg, dDGet, dDict, dPs, dPop, dPopAt, dAppend, dLc, dRgL, dRgT, gRg1, gRg2, iSeqD, iRng1D, iRng2D, tTrue, rdAdd, rdI, rdI0, rdB0, rdIx, rdMul, cdLen, cdAbs, cdInt, cdMin2, cdMax2, cdTup, cdList, cdListM, cdAll, cdAny, cdIsi, dName, dGTup, dGCons, dGNil, dGSub, startD, wipeD, seqOf, listOf, keepOf, List.map_cons, List.map_nil, List.length_cons, List.length_nil, List.cons_append, List.nil_append, Nat.reduceAdd, Nat.reduceSub, List.replicate_succ, List.replicate_zero, List.replicate, List.set_cons_zero, List.set_cons_succ, List.getElem?_cons_zero, List.getElem?_cons_succ, Int.reduceToNat, Int.reduceNeg, Bool.false_eq_true, if_true, if_false, decide_eq_true_eq, Option.some.injEq, exists_eq_left', exists_eq_left, true_and, and_true, D.key, D.int.injEq, D.bl.injEq, D.tup.injEq, D.ref.injEq, D.lst.injEq, D.arg.injEq]
  refine ⟨t, _, ht, k1, ?_⟩
  cases e1 : isIntD d with
  | true =>
    have e2 : isBlD d = false := by cases d <;> first | rfl | cases e1
    rw [if_pos (by rfl)]
    refine ⟨t, _, ht, k2, fin_self ?_⟩
    rw [e2]
    rw [e1] at k
    exact k
  | false =>
    rw [e1] at k
    cases e2 : isBlD d with
    | true =>
      rw [if_pos (by rfl)]
      refine ⟨t, _, ht, k2, fin_self ?_⟩
      rw [e2]
      exact k
    | false =>
      rw [if_neg (by decide)]
      exact fin_self k
theorem pu_is_between (ds : List D) (μ : Mu) (Q : DQ) (QE : XQ) (h : sd_is_between ds μ Q QE) : db_is_between { nx := fun _ μ' => fin Q .non μ', rt := fin Q, xe := finX QE } (startD ["thing", "low", "high"] ds) μ := by
  obtain ⟨d, lo, hi, rfl, ht, k⟩ := h
  unfold db_is_between
  simp only [sSeq, sAsg, sRet, sRetN, sDrop, sIf, sPar, sDPutD, sNext, sBrk, sCont, sRaise, sAugI, sFor, sFreeze, dVar, dC, dOp, dTest, dAnd, dOr, dNot, dAndV, dOrV, dNotV, dIf, dChain, dTup, dLst, dLstM, dNil, dCons, dCB, dCall, dCallK, dRev, dSlice, oNone, oSome, dIsN, dNeg, dDGet, dDict, dPs, dPop, dPopAt, dAppend, dLc, dRgL, dRgT, gRg1, gRg2, iSeqD, iRng1D, iRng2D, tTrue, rdAdd, rdI, rdI0, rdB0, rdIx, rdMul, cdLen, cdAbs, cdInt, cdMin2, cdMax2, cdTup, cdList, cdListM, cdAll, cdAny, cdIsi, dName, dGTup, dGCons, dGNil, dGSub, startD, wipeD, seqOf, listOf, keepOf, List.map_cons, List.map_nil, List.length_cons, List.length_nil, List.cons_append, List.nil_append, Nat.reduceAdd, Nat.reduceSub, List.replicate_succ, List.replicate_zero, List.replicate, List.set_cons_zero, List.set_cons_succ, List.getElem?_cons_zero, List.getElem?_cons_succ, Int.reduceToNat, Int.reduceNeg, Bool.false_eq_true, if_true, if_false, decide_eq_true_eq, Option.some.injEq, exists_eq_left', exists_eq_left, true_and, and_true, D.key, D.int.injEq, D.bl.injEq, D.tup.injEq, D.ref.injEq, D.lst.injEq, D.arg.injEq]
  refine ⟨d, rfl, ht, _, rfl, ?_⟩
  cases d with
  | int i =>
    rw [if_pos (by rfl)]
    simp only [sSeq, sAsg, sRet, sRetN, sDrop, sIf, sPar, sDPutD, sNext, sBrk, sCont, sRaise, sAugI, sFor, sFreeze, dVar, dC, dOp, dTest, dAnd, dOr, dNot, dAndV, dOrV, dNotV, dIf, dChain, dTup, dLst, dLstM, dNil, dCons, dCB, dCall, dCallK, dRev, dSlice, oNone, oSome, dIsN, dNeg, dDGet, dDict, dPs, dPop, dPopAt, dAppend, dLc, dRgL, dRgT, gRg1, gRg2, iSeqD, iRng1D, iRng2D, tTrue, rdAdd, rdI, rdI0, rdB0, rdIx, rdMul, cdLen, cdAbs, cdInt, cdMin2, cdMax2, cdTup, cdList, cdListM, cdAll, cdAny, cdIsi, dName, dGTup, dGCons, dGNil, dGSub, startD, wipeD, seqOf, listOf, keepOf, List.map_cons, List.map_nil, List.length_cons, List.length_nil, List.cons_append, List.nil_append, Nat.reduceAdd, Nat.reduceSub, List.replicate_succ, List.replicate_zero, List.replicate, List.set_cons_zero, List.set_cons_succ, List.getElem?_cons_zero, List.getElem?_cons_succ, Int.reduceToNat, Int.reduceNeg, Bool.false_eq_true, if_true, if_false, decide_eq_true_eq, Option.some.injEq, exists_eq_left', exists_eq_left, true_and, and_true, D.key, D.int.injEq, D.bl.injEq, D.tup.injEq, D.ref.injEq, D.lst.injEq, D.arg.injEq]
    by_cases c : lo ≤ i
    · rw [if_pos c]
      refine fin_self ?_
      have e : btw (.int i) lo hi = decide (i ≤ hi) := by simp [btw, c]
      rw [e] at k
      exact k
    · rw [if_neg c]
      refine fin_self ?_
      have e : btw (.int i) lo hi = false := by simp [btw, c]
      rw [e] at k
      exact k
  | _ => exact fin_self k
/-- all items between 0 and n - 1, by a comprehension -/
theorem lc_btw {i : Nat} {ρ : Rho} {Q : DQ} {n : Int} {xs : List D} {keep : Mu → Prop} {μ : Mu} {da : DE} (hz : xs.length ≤ sizeLine) (hi : i < ρ.length) (hk : ∀ p m, μ p = none → keep (mset μ p m)) (ht : ∀ x ∈ xs, Ty μ x)
    (ha : ∀ d μ' (R : DQ), R (.int (n - 1)) μ' → da (((ρ.set i none)).set i (some d)) μ' R (fun _ _ => False)) (q : Q (.lst ((xs.map fun x => btw x 0 (n - 1)).map .bl)) μ) :
    lcBody false (dName i) tTrue (dCall sd_is_between (dCons (dVar i) (dCons (dC (.int 0)) (dCons da dNil)))) [i] ρ Q xs keep μ := by
  refine lc_map (fun x => .bl (btw x 0 (n - 1))) hz hk (fun j x μ' R hx hl h => ?_) (fun _ _ => by rw [map_bl]; exact q)
  show (dCall sd_is_between (dCons (dVar i) (dCons (dC (.int 0)) (dCons da dNil)))) ((ρ.set i none).set i (some x)) μ' R _
  refine ⟨x, ?_, ha x μ' _ ⟨x, 0, n - 1, rfl, ?_, h⟩⟩
  · rw [List.getElem?_set_self (by simpa using hi)]
  · obtain ⟨t, ht⟩ := ht x (List.mem_of_getElem? hx)
    refine ⟨t, ?_⟩
    cases x with
    | ref a =>
      have ht : (match μ a with | some (.lst _) => some "list" | some (.dct _) => some "dict" | none => none) = some t := ht
      show (match μ' a with | some (.lst _) => some "list" | some (.dct _) => some "dict" | none => none) = some t
      cases e : μ a with
      | none => rw [e] at ht; cases ht
      | some m => rw [hl a m e]; rw [e] at ht; exact ht
    | _ => exact ht
theorem pu_is_back (ds : List D) (μ : Mu) (Q : DQ) (QE : XQ) (h : sd_is_back ds μ Q QE) : db_is_back { nx := fun _ μ' => fin Q .non μ', rt := fin Q, xe := finX QE } (startD ["thing", "item", "k"] ds) μ := by
  obtain ⟨d, rfl, ⟨⟨t, ht⟩, hx⟩, k⟩ := h
  have k3 := (kit_ty' ht).u
  unfold db_is_back
  simp only [sSeq, sAsg, sRet, sRetN, sDrop, sIf, sPar, sDPutD, sNext, sBrk, sCont, sRaise, sAugI, sFor, sFreeze, dVar, dC, dOp, dTest, dAnd, dOr, dNot, dAndV, dOrV, dNotV, dIf, dChain, dTup, dLst, dLstM, dNil, dCons, dCB, dCall, dCallK, dRev, dSlice, oNone, oSome, dIsN, dNeg, dDGet, dDict, dPs, dPop, dPopAt, dAppend, dLc, dRgL, dRgT, gRg1, gRg2, iSeqD, iRng1D, iRng2D, tTrue, rdAdd, rdI, rdI0, rdB0, rdIx, rdMul, cdLen, cdAbs, cdInt, cdMin2, cdMax2, cdTup, cdList, cdListM, cdAll, cdAny, cdIsi, dName, dGTup, dGCons, dGNil, dGSub, startD, wipeD, seqOf, listOf, keepOf, List.map_cons, List.map_nil, List.length_cons, List.length_nil, List.cons_append, List.nil_append, Nat.reduceAdd, Nat.reduceSub, List.replicate_succ, List.replicate_zero, List.replicate, List.set_cons_zero, List.set_cons_succ, List.getElem?_cons_zero, List.getElem?_cons_succ, Int.reduceToNat, Int.reduceNeg, Bool.false_eq_true, if_true, if_false, decide_eq_true_eq, Option.some.injEq, exists_eq_left', exists_eq_left, true_and, and_true, D.key, D.int.injEq, D.bl.injEq, D.tup.injEq, D.ref.injEq, D.lst.injEq, D.arg.injEq]
  refine ⟨t, _, ht, k3, ?_⟩
  cases e : isTupD d with
  | false =>
    rw [if_pos (by rfl)]
    have : isBackD d = false := by cases d <;> first | rfl | cases e
    rw [this] at k
    exact fin_self k
  | true =>
    rw [if_neg (by decide)]
    cases d with
    | tup xs =>
      have hx := hx xs rfl
      simp only [sSeq, sAsg, sRet, sRetN, sDrop, sIf, sPar, sDPutD, sNext, sBrk, sCont, sRaise, sAugI, sFor, sFreeze, dVar, dC, dOp, dTest, dAnd, dOr, dNot, dAndV, dOrV, dNotV, dIf, dChain, dTup, dLst, dLstM, dNil, dCons, dCB, dCall, dCallK, dRev, dSlice, oNone, oSome, dIsN, dNeg, dDGet, dDict, dPs, dPop, dPopAt, dAppend, dLc, dRgL, dRgT, gRg1, gRg2, iSeqD, iRng1D, iRng2D, tTrue, rdAdd, rdI, rdI0, rdB0, rdIx, rdMul, cdLen, cdAbs, cdInt, cdMin2, cdMax2, cdTup, cdList, cdListM, cdAll, cdAny, cdIsi, dName, dGTup, dGCons, dGNil, dGSub, startD, wipeD, seqOf, listOf, keepOf, List.map_cons, List.map_nil, List.length_cons, List.length_nil, List.cons_append, List.nil_append, Nat.reduceAdd, Nat.reduceSub, List.replicate_succ, List.replicate_zero, List.replicate, List.set_cons_zero, List.set_cons_succ, List.getElem?_cons_zero, List.getElem?_cons_succ, Int.reduceToNat, Int.reduceNeg, Bool.false_eq_true, if_true, if_false, decide_eq_true_eq, Option.some.injEq, exists_eq_left', exists_eq_left, true_and, and_true, D.key, D.int.injEq, D.bl.injEq, D.tup.injEq, D.ref.injEq, D.lst.injEq, D.arg.injEq]
      by_cases c2 : (2 : Int) ≤ xs.length
      · rw [if_pos c2]
        by_cases c12 : (xs.length : Int) ≤ 12
        · rw [if_neg (by simp [c12])]
          have hz : xs.length ≤ sizeLine := sl_ok (by omega)
          refine lc_btw (n := xs.length) hz (by simp) (fun _ _ _ => trivial) hx (fun d μ' R hR => by simp only [sSeq, sAsg, sRet, sRetN, sDrop, sIf, sPar, sDPutD, sNext, sBrk, sCont, sRaise, sAugI, sFor, sFreeze, dVar, dC, dOp, dTest, dAnd, dOr, dNot, dAndV, dOrV, dNotV, dIf, dChain, dTup, dLst, dLstM, dNil, dCons, dCB, dCall, dCallK, dRev, dSlice, oNone, oSome, dIsN, dNeg, dDGet, dDict, dPs, dPop, dPopAt, dAppend, dLc, dRgL, dRgT, gRg1, gRg2, iSeqD, iRng1D, iRng2D, tTrue, rdAdd, rdI, rdI0, rdB0, rdIx, rdMul, cdLen, cdAbs, cdInt, cdMin2, cdMax2, cdTup, cdList, cdListM, cdAll, cdAny, cdIsi, dName, dGTup, dGCons, dGNil, dGSub, startD, wipeD, seqOf, listOf, keepOf, List.map_cons, List.map_nil, List.length_cons, List.length_nil, List.cons_append, List.nil_append, Nat.reduceAdd, Nat.reduceSub, List.replicate_succ, List.replicate_zero, List.replicate, List.set_cons_zero, List.set_cons_succ, List.getElem?_cons_zero, List.getElem?_cons_succ, Int.reduceToNat, Int.reduceNeg, Bool.false_eq_true, if_true, if_false, decide_eq_true_eq, Option.some.injEq, exists_eq_left', exists_eq_left, true_and, and_true, D.key, D.int.injEq, D.bl.injEq, D.tup.injEq, D.ref.injEq, D.lst.injEq, D.arg.injEq]; exact hR) ?_
          simp only [sSeq, sAsg, sRet, sRetN, sDrop, sIf, sPar, sDPutD, sNext, sBrk, sCont, sRaise, sAugI, sFor, sFreeze, dVar, dC, dOp, dTest, dAnd, dOr, dNot, dAndV, dOrV, dNotV, dIf, dChain, dTup, dLst, dLstM, dNil, dCons, dCB, dCall, dCallK, dRev, dSlice, oNone, oSome, dIsN, dNeg, dDGet, dDict, dPs, dPop, dPopAt, dAppend, dLc, dRgL, dRgT, gRg1, gRg2, iSeqD, iRng1D, iRng2D, tTrue, rdAdd, rdI, rdI0, rdB0, rdIx, rdMul, cdLen, cdAbs, cdInt, cdMin2, cdMax2, cdTup, cdList, cdListM, cdAll, cdAny, cdIsi, dName, dGTup, dGCons, dGNil, dGSub, startD, wipeD, seqOf, listOf, keepOf, List.map_cons, List.map_nil, List.length_cons, List.length_nil, List.cons_append, List.nil_append, Nat.reduceAdd, Nat.reduceSub, List.replicate_succ, List.replicate_zero, List.replicate, List.set_cons_zero, List.set_cons_succ, List.getElem?_cons_zero, List.getElem?_cons_succ, Int.reduceToNat, Int.reduceNeg, Bool.false_eq_true, if_true, if_false, decide_eq_true_eq, Option.some.injEq, exists_eq_left', exists_eq_left, true_and, and_true, D.key, D.int.injEq, D.bl.injEq, D.tup.injEq, D.ref.injEq, D.lst.injEq, D.arg.injEq]
          refine ⟨_, _, rfl, rfl, ?_⟩
          rw [all_id]
          by_cases ca : (xs.all fun x => btw x 0 (↑xs.length - 1)) = true
          · rw [if_neg (by rw [ca]; decide)]
            obtain ⟨ns, rfl, hn⟩ := btw_ints ca
            rw [List.length_map] at hn c2 c12 ⊢
            refine ⟨by omega, by omega, ?_⟩
            have hn' : Lets ns.length ns := fun l hl => by have := hn l hl; omega
            refine lc_map (fun d => match d with | .int k => .bl (decide (ns.getD (ns.getD k.toNat 0).toNat 0 = k)) | d => d) (by unfold rng; rw [List.length_map, List.length_range]; exact sl_ok (by omega)) (fun _ _ _ => trivial) (fun i x μ' R hx hl h => ?_) (fun _ _ => ?_)
            · obtain ⟨hi, rfl⟩ := rng_get hx
              simp only [sSeq, sAsg, sRet, sRetN, sDrop, sIf, sPar, sDPutD, sNext, sBrk, sCont, sRaise, sAugI, sFor, sFreeze, dVar, dC, dOp, dTest, dAnd, dOr, dNot, dAndV, dOrV, dNotV, dIf, dChain, dTup, dLst, dLstM, dNil, dCons, dCB, dCall, dCallK, dRev, dSlice, oNone, oSome, dIsN, dNeg, dDGet, dDict, dPs, dPop, dPopAt, dAppend, dLc, dRgL, dRgT, gRg1, gRg2, iSeqD, iRng1D, iRng2D, tTrue, rdAdd, rdI, rdI0, rdB0, rdIx, rdMul, cdLen, cdAbs, cdInt, cdMin2, cdMax2, cdTup, cdList, cdListM, cdAll, cdAny, cdIsi, dName, dGTup, dGCons, dGNil, dGSub, startD, wipeD, seqOf, listOf, keepOf, List.map_cons, List.map_nil, List.length_cons, List.length_nil, List.cons_append, List.nil_append, Nat.reduceAdd, Nat.reduceSub, List.replicate_succ, List.replicate_zero, List.replicate, List.set_cons_zero, List.set_cons_succ, List.getElem?_cons_zero, List.getElem?_cons_succ, Int.reduceToNat, Int.reduceNeg, Bool.false_eq_true, if_true, if_false, decide_eq_true_eq, Option.some.injEq, exists_eq_left', exists_eq_left, true_and, and_true, D.key, D.int.injEq, D.bl.injEq, D.tup.injEq, D.ref.injEq, D.lst.injEq, D.arg.injEq]
              have e0 : (0 : Int) + (i : Nat) = (i : Nat) := Int.zero_add _
              rw [e0] at h ⊢
              have hin : i < ns.length := by omega
              have a1 : atI (ns.map D.int) (i : Nat) = some (.int (ns.getD i 0)) := by
                have := atI_ints (ns := ns) (i := (i : Nat)) (by omega) (by omega)
                rw [Int.toNat_natCast] at this
                exact this
              have m1 := hn' _ (getD_mem' hin)
              refine ⟨_, a1, _, atI_ints m1.1 m1.2, eq_int ?_⟩
              rw [Bool.xor_false]
              exact h
            · refine ⟨_, (List.range ns.length).map fun k => decide (ns.getD (ns.getD k 0).toNat 0 = (k : Int)), rfl, ?_, fin_self ?_⟩
              · unfold rng
                rw [Int.toNat_natCast, List.map_map, List.map_map]
                refine List.map_congr_left fun k hk => ?_
                simp only [Function.comp_apply, Int.zero_add, Int.toNat_natCast]
              · have e2 : isBackD (.tup (ns.map .int)) = ((List.range ns.length).map fun k => decide (ns.getD (ns.getD k 0).toNat 0 = (k : Int))).all id := by
                  show isBackD (tI ns) = _
                  rw [isBackD_tI, List.all_map]
                  unfold isBackI
                  have h1 : decide (2 ≤ ns.length) = true := by simpa using (by omega : 2 ≤ ns.length)
                  have h2 : decide (ns.length ≤ 12) = true := by simpa using (by omega : ns.length ≤ 12)
                  have h3 : (ns.all fun i => decide (0 ≤ i) && decide (i ≤ (ns.length : Int) - 1)) = true := by
                    simp only [List.all_eq_true, Bool.and_eq_true, decide_eq_true_eq]
                    exact fun l hl => hn l hl
                  rw [h1, h2, h3]
                  rfl
                rw [e2] at k
                exact k
          · rw [if_pos (by simpa using ca)]
            refine fin_self ?_
            have e2 : isBackD (.tup xs) = false := by
              cases eb : isBackD (.tup xs) with
              | false => rfl
              | true =>
                exfalso
                obtain ⟨ns, en, hb⟩ := isBackD_inv eb
                injection en with en
                subst en
                refine ca ?_
                have hb := (backI hb).lets
                rw [List.all_map, List.length_map]
                simp only [List.all_eq_true, Function.comp_apply, btw, Bool.and_eq_true, decide_eq_true_eq]
                exact fun l hl => by have := hb l hl; omega
            rw [e2] at k
            exact k
        · rw [if_pos (by simpa using c12)]
          refine fin_self ?_
          have e2 : isBackD (.tup xs) = false := by
            cases eb : isBackD (.tup xs) with
            | false => rfl
            | true =>
              exfalso
              obtain ⟨ns, en, hb⟩ := isBackD_inv eb
              injection en with en
              subst en
              have := (backI hb).few
              rw [List.length_map] at c12
              omega
          rw [e2] at k
          exact k
      · rw [if_neg c2, if_pos (by rfl)]
        refine fin_self ?_
        have e2 : isBackD (.tup xs) = false := by
          cases eb : isBackD (.tup xs) with
          | false => rfl
          | true =>
            exfalso
            obtain ⟨ns, en, hb⟩ := isBackD_inv eb
            injection en with en
            subst en
            have := (backI hb).two
            rw [List.length_map] at c2
            omega
        rw [e2] at k
        exact k
    | _ => cases e
theorem pu_need_back (ds : List D) (μ : Mu) (Q : DQ) (QE : XQ) (h : sd_need_back ds μ Q QE) : db_need_back { nx := fun _ μ' => fin Q .non μ', rt := fin Q, xe := finX QE } (startD ["back"] ds) μ := by
  obtain ⟨d, rfl, ht, k1, k2⟩ := h
  unfold db_need_back
  simp only [sSeq, sAsg, sRet, sRetN, sDrop, sIf, sPar, sDPutD, sNext, sBrk, sCont, sRaise, sAugI, sFor, sFreeze, dVar, dC, dOp, dTest, dAnd, dOr, dNot, dAndV, dOrV, dNotV, dIf, dChain, dTup, dLst, dLstM, dNil, dCons, dCB, dCall, dCallK, dRev, dSlice, oNone, oSome, dIsN, dNeg, dDGet, dDict, dPs, dPop, dPopAt, dAppend, dLc, dRgL, dRgT, gRg1, gRg2, iSeqD, iRng1D, iRng2D, tTrue, rdAdd, rdI, rdI0, rdB0, rdIx, rdMul, cdLen, cdAbs, cdInt, cdMin2, cdMax2, cdTup, cdList, cdListM, cdAll, cdAny, cdIsi, dName, dGTup, dGCons, dGNil, dGSub, startD, wipeD, seqOf, listOf, keepOf, List.map_cons, List.map_nil, List.length_cons, List.length_nil, List.cons_append, List.nil_append, Nat.reduceAdd, Nat.reduceSub, List.replicate_succ, List.replicate_zero, List.replicate, List.set_cons_zero, List.set_cons_succ, List.getElem?_cons_zero, List.getElem?_cons_succ, Int.reduceToNat, Int.reduceNeg, Bool.false_eq_true, if_true, if_false, decide_eq_true_eq, Option.some.injEq, exists_eq_left', exists_eq_left, true_and, and_true, D.key, D.int.injEq, D.bl.injEq, D.tup.injEq, D.ref.injEq, D.lst.injEq, D.arg.injEq]
  refine ⟨d, rfl, ht, _, rfl, ?_⟩
  cases e : isBackD d with
  | true => rw [if_neg (by decide)]; exact fin_self (k1 e)
  | false => rw [if_pos (by rfl)]; exact finX_self (k2 e)
theorem pu_is_letters (ds : List D) (μ : Mu) (Q : DQ) (QE : XQ) (h : sd_is_letters ds μ Q QE) : db_is_letters { nx := fun _ μ' => fin Q .non μ', rt := fin Q, xe := finX QE } (startD ["back", "thing", "item"] ds) μ := by
  obtain ⟨bs, d, rfl, ⟨⟨t, ht⟩, hx⟩, hz, k⟩ := h
  have k3 := (kit_ty' ht).u
  unfold db_is_letters
  simp only [sSeq, sAsg, sRet, sRetN, sDrop, sIf, sPar, sDPutD, sNext, sBrk, sCont, sRaise, sAugI, sFor, sFreeze, dVar, dC, dOp, dTest, dAnd, dOr, dNot, dAndV, dOrV, dNotV, dIf, dChain, dTup, dLst, dLstM, dNil, dCons, dCB, dCall, dCallK, dRev, dSlice, oNone, oSome, dIsN, dNeg, dDGet, dDict, dPs, dPop, dPopAt, dAppend, dLc, dRgL, dRgT, gRg1, gRg2, iSeqD, iRng1D, iRng2D, tTrue, rdAdd, rdI, rdI0, rdB0, rdIx, rdMul, cdLen, cdAbs, cdInt, cdMin2, cdMax2, cdTup, cdList, cdListM, cdAll, cdAny, cdIsi, dName, dGTup, dGCons, dGNil, dGSub, startD, wipeD, seqOf, listOf, keepOf, List.map_cons, List.map_nil, List.length_cons, List.length_nil, List.cons_append, List.nil_append, Nat.reduceAdd, Nat.reduceSub, List.replicate_succ, List.replicate_zero, List.replicate, List.set_cons_zero, List.set_cons_succ, List.getElem?_cons_zero, List.getElem?_cons_succ, Int.reduceToNat, Int.reduceNeg, Bool.false_eq_true, if_true, if_false, decide_eq_true_eq, Option.some.injEq, exists_eq_left', exists_eq_left, true_and, and_true, D.key, D.int.injEq, D.bl.injEq, D.tup.injEq, D.ref.injEq, D.lst.injEq, D.arg.injEq]
  refine ⟨t, _, ht, k3, ?_⟩
  cases e : isTupD d with
  | false =>
    rw [if_neg (by decide)]
    have : isLet bs.length d = false := by cases d <;> first | rfl | cases e
    rw [this] at k
    exact fin_self k
  | true =>
    rw [if_pos (by rfl)]
    cases d with
    | tup xs =>
      refine ⟨xs, rfl, lc_btw (n := bs.length) (sl_ok (by have := hz xs rfl; omega)) (by simp) (fun _ _ _ => trivial) (hx xs rfl) (fun d μ' R hR => by simp only [sSeq, sAsg, sRet, sRetN, sDrop, sIf, sPar, sDPutD, sNext, sBrk, sCont, sRaise, sAugI, sFor, sFreeze, dVar, dC, dOp, dTest, dAnd, dOr, dNot, dAndV, dOrV, dNotV, dIf, dChain, dTup, dLst, dLstM, dNil, dCons, dCB, dCall, dCallK, dRev, dSlice, oNone, oSome, dIsN, dNeg, dDGet, dDict, dPs, dPop, dPopAt, dAppend, dLc, dRgL, dRgT, gRg1, gRg2, iSeqD, iRng1D, iRng2D, tTrue, rdAdd, rdI, rdI0, rdB0, rdIx, rdMul, cdLen, cdAbs, cdInt, cdMin2, cdMax2, cdTup, cdList, cdListM, cdAll, cdAny, cdIsi, dName, dGTup, dGCons, dGNil, dGSub, startD, wipeD, seqOf, listOf, keepOf, List.map_cons, List.map_nil, List.length_cons, List.length_nil, List.cons_append, List.nil_append, Nat.reduceAdd, Nat.reduceSub, List.replicate_succ, List.replicate_zero, List.replicate, List.set_cons_zero, List.set_cons_succ, List.getElem?_cons_zero, List.getElem?_cons_succ, Int.reduceToNat, Int.reduceNeg, Bool.false_eq_true, if_true, if_false, decide_eq_true_eq, Option.some.injEq, exists_eq_left', exists_eq_left, true_and, and_true, D.key, D.int.injEq, D.bl.injEq, D.tup.injEq, D.ref.injEq, D.lst.injEq, D.arg.injEq]; exact hR) ?_⟩
      refine ⟨_, _, rfl, rfl, fin_self ?_⟩
      rw [all_id]
      exact k
    | _ => cases e
theorem pu_is_word (ds : List D) (μ : Mu) (Q : DQ) (QE : XQ) (h : sd_is_word ds μ Q QE) : db_is_word { nx := fun _ μ' => fin Q .non μ', rt := fin Q, xe := finX QE } (startD ["back", "thing"] ds) μ := by
  obtain ⟨b, d, rfl, hb, k1, k2⟩ := h
  unfold db_is_word
  simp only [sSeq, sAsg, sRet, sRetN, sDrop, sIf, sPar, sDPutD, sNext, sBrk, sCont, sRaise, sAugI, sFor, sFreeze, dVar, dC, dOp, dTest, dAnd, dOr, dNot, dAndV, dOrV, dNotV, dIf, dChain, dTup, dLst, dLstM, dNil, dCons, dCB, dCall, dCallK, dRev, dSlice, oNone, oSome, dIsN, dNeg, dDGet, dDict, dPs, dPop, dPopAt, dAppend, dLc, dRgL, dRgT, gRg1, gRg2, iSeqD, iRng1D, iRng2D, tTrue, rdAdd, rdI, rdI0, rdB0, rdIx, rdMul, cdLen, cdAbs, cdInt, cdMin2, cdMax2, cdTup, cdList, cdListM, cdAll, cdAny, cdIsi, dName, dGTup, dGCons, dGNil, dGSub, startD, wipeD, seqOf, listOf, keepOf, List.map_cons, List.map_nil, List.length_cons, List.length_nil, List.cons_append, List.nil_append, Nat.reduceAdd, Nat.reduceSub, List.replicate_succ, List.replicate_zero, List.replicate, List.set_cons_zero, List.set_cons_succ, List.getElem?_cons_zero, List.getElem?_cons_succ, Int.reduceToNat, Int.reduceNeg, Bool.false_eq_true, if_true, if_false, decide_eq_true_eq, Option.some.injEq, exists_eq_left', exists_eq_left, true_and, and_true, D.key, D.int.injEq, D.bl.injEq, D.tup.injEq, D.ref.injEq, D.lst.injEq, D.arg.injEq]
  refine ⟨b, rfl, hb, fun e => ?_, fun e => finX_self (k2 e)⟩
  obtain ⟨bs, rfl, _⟩ := isBackD_inv e
  obtain ⟨ht, hz, k⟩ := k1 e
  refine ⟨_, d, rfl, ht, hz, _, rfl, ?_⟩
  have el : lenD (tI bs) = ((bs.map D.int).length : Int) := rfl
  rw [el] at k
  cases e2 : isLet ((bs.map D.int).length : Int) d with
  | false =>
    rw [if_neg (by decide)]
    refine fin_self ?_
    unfold isWd at k
    rw [e2, Bool.false_and] at k
    exact k
  | true =>
    rw [if_pos (by rfl)]
    unfold isWd at k
    rw [e2, Bool.true_and] at k
    cases d with
    | tup xs =>
      simp only [sSeq, sAsg, sRet, sRetN, sDrop, sIf, sPar, sDPutD, sNext, sBrk, sCont, sRaise, sAugI, sFor, sFreeze, dVar, dC, dOp, dTest, dAnd, dOr, dNot, dAndV, dOrV, dNotV, dIf, dChain, dTup, dLst, dLstM, dNil, dCons, dCB, dCall, dCallK, dRev, dSlice, oNone, oSome, dIsN, dNeg, dDGet, dDict, dPs, dPop, dPopAt, dAppend, dLc, dRgL, dRgT, gRg1, gRg2, iSeqD, iRng1D, iRng2D, tTrue, rdAdd, rdI, rdI0, rdB0, rdIx, rdMul, cdLen, cdAbs, cdInt, cdMin2, cdMax2, cdTup, cdList, cdListM, cdAll, cdAny, cdIsi, dName, dGTup, dGCons, dGNil, dGSub, startD, wipeD, seqOf, listOf, keepOf, List.map_cons, List.map_nil, List.length_cons, List.length_nil, List.cons_append, List.nil_append, Nat.reduceAdd, Nat.reduceSub, List.replicate_succ, List.replicate_zero, List.replicate, List.set_cons_zero, List.set_cons_succ, List.getElem?_cons_zero, List.getElem?_cons_succ, Int.reduceToNat, Int.reduceNeg, Bool.false_eq_true, if_true, if_false, decide_eq_true_eq, Option.some.injEq, exists_eq_left', exists_eq_left, true_and, and_true, D.key, D.int.injEq, D.bl.injEq, D.tup.injEq, D.ref.injEq, D.lst.injEq, D.arg.injEq]
      exact fin_self k
    | _ => cases e2
theorem pu_need_word (ds : List D) (μ : Mu) (Q : DQ) (QE : XQ) (h : sd_need_word ds μ Q QE) : db_need_word { nx := fun _ μ' => fin Q .non μ', rt := fin Q, xe := finX QE } (startD ["back", "thing"] ds) μ := by
  obtain ⟨b, d, rfl, hb, k1, k2⟩ := h
  unfold db_need_word
  simp only [sSeq, sAsg, sRet, sRetN, sDrop, sIf, sPar, sDPutD, sNext, sBrk, sCont, sRaise, sAugI, sFor, sFreeze, dVar, dC, dOp, dTest, dAnd, dOr, dNot, dAndV, dOrV, dNotV, dIf, dChain, dTup, dLst, dLstM, dNil, dCons, dCB, dCall, dCallK, dRev, dSlice, oNone, oSome, dIsN, dNeg, dDGet, dDict, dPs, dPop, dPopAt, dAppend, dLc, dRgL, dRgT, gRg1, gRg2, iSeqD, iRng1D, iRng2D, tTrue, rdAdd, rdI, rdI0, rdB0, rdIx, rdMul, cdLen, cdAbs, cdInt, cdMin2, cdMax2, cdTup, cdList, cdListM, cdAll, cdAny, cdIsi, dName, dGTup, dGCons, dGNil, dGSub, startD, wipeD, seqOf, listOf, keepOf, List.map_cons, List.map_nil, List.length_cons, List.length_nil, List.cons_append, List.nil_append, Nat.reduceAdd, Nat.reduceSub, List.replicate_succ, List.replicate_zero, List.replicate, List.set_cons_zero, List.set_cons_succ, List.getElem?_cons_zero, List.getElem?_cons_succ, Int.reduceToNat, Int.reduceNeg, Bool.false_eq_true, if_true, if_false, decide_eq_true_eq, Option.some.injEq, exists_eq_left', exists_eq_left, true_and, and_true, D.key, D.int.injEq, D.bl.injEq, D.tup.injEq, D.ref.injEq, D.lst.injEq, D.arg.injEq]
  refine ⟨b, d, rfl, hb, fun e => ?_, fun e => finX_self (k2 e)⟩
  obtain ⟨ht, hz, k3, k4⟩ := k1 e
  refine ⟨ht, hz, _, rfl, ?_⟩
  cases e2 : isWd (lenD b) d with
  | true => rw [if_neg (by decide)]; exact fin_self (k3 e2)
  | false => rw [if_pos (by rfl)]; exact finX_self (k4 e2)
theorem isWd_tI {n : Nat} {ws : List Int} (h : Lets n ws) (hl : ws.length ≤ 200) : isWd n (tI ws) = true := by
  unfold isWd
  rw [Bool.and_eq_true]
  refine ⟨?_, by rw [decide_eq_true_eq]; show ((ws.map D.int).length : Int) ≤ 200; rw [List.length_map]; omega⟩
  show ((ws.map D.int).all fun x => btw x 0 ((n : Int) - 1)) = true
  rw [List.all_map]
  simp only [List.all_eq_true, Function.comp_apply, btw, Bool.and_eq_true, decide_eq_true_eq]
  exact fun l hl => by have := h l hl; omega
theorem isWd_inv {n : Nat} {d : D} (h : isWd n d = true) : ∃ ws, d = tI ws ∧ Lets n ws ∧ ws.length ≤ 200 := by
  unfold isWd at h
  rw [Bool.and_eq_true] at h
  cases d with
  | tup xs =>
    obtain ⟨ns, rfl, hn⟩ := btw_ints h.1
    refine ⟨ns, rfl, fun l hl => by have := hn l hl; omega, ?_⟩
    have := of_decide_eq_true h.2
    have e : lenD (.tup (ns.map .int)) = ((ns.map D.int).length : Int) := rfl
    rw [e, List.length_map] at this
    omega
  | _ => cases h.1
theorem pu_free (ds : List D) (μ : Mu) (Q : DQ) (QE : XQ) (h : sd_free ds μ Q QE) : db_free { nx := fun _ μ' => fin Q .non μ', rt := fin Q, xe := finX QE } (startD ["back", "word"] ds) μ := by
  obtain ⟨b, d, rfl, hb, k1, k2⟩ := h
  unfold db_free
  simp only [sSeq, sAsg, sRet, sRetN, sDrop, sIf, sPar, sDPutD, sNext, sBrk, sCont, sRaise, sAugI, sFor, sFreeze, dVar, dC, dOp, dTest, dAnd, dOr, dNot, dAndV, dOrV, dNotV, dIf, dChain, dTup, dLst, dLstM, dNil, dCons, dCB, dCall, dCallK, dRev, dSlice, oNone, oSome, dIsN, dNeg, dDGet, dDict, dPs, dPop, dPopAt, dAppend, dLc, dRgL, dRgT, gRg1, gRg2, iSeqD, iRng1D, iRng2D, tTrue, rdAdd, rdI, rdI0, rdB0, rdIx, rdMul, cdLen, cdAbs, cdInt, cdMin2, cdMax2, cdTup, cdList, cdListM, cdAll, cdAny, cdIsi, dName, dGTup, dGCons, dGNil, dGSub, startD, wipeD, seqOf, listOf, keepOf, List.map_cons, List.map_nil, List.length_cons, List.length_nil, List.cons_append, List.nil_append, Nat.reduceAdd, Nat.reduceSub, List.replicate_succ, List.replicate_zero, List.replicate, List.set_cons_zero, List.set_cons_succ, List.getElem?_cons_zero, List.getElem?_cons_succ, Int.reduceToNat, Int.reduceNeg, Bool.false_eq_true, if_true, if_false, decide_eq_true_eq, Option.some.injEq, exists_eq_left', exists_eq_left, true_and, and_true, D.key, D.int.injEq, D.bl.injEq, D.tup.injEq, D.ref.injEq, D.lst.injEq, D.arg.injEq]
  refine ⟨b, d, rfl, hb, fun e => ?_, fun e => finX_self (k2 e)⟩
  obtain ⟨ht, hz, k3, k4⟩ := k1 e
  refine ⟨ht, hz, fun e2 => ?_, fun e2 => finX_self (k4 e2)⟩
  obtain ⟨bs, rfl, _⟩ := isBackD_inv e
  have el : lenD (tI bs) = ((bs.length : Nat) : Int) := by show ((bs.map D.int).length : Int) = _; rw [List.length_map]
  rw [el] at e2
  obtain ⟨ws, rfl, hw, hl⟩ := isWd_inv e2
  exact ⟨bs, ws, rfl, hw, by omega, fin_self (k3 bs ws rfl rfl hw hl)⟩
theorem pu_undone (ds : List D) (μ : Mu) (Q : DQ) (QE : XQ) (h : sd_undone ds μ Q QE) : db_undone { nx := fun _ μ' => fin Q .non μ', rt := fin Q, xe := finX QE } (startD ["back", "word"] ds) μ := by
  obtain ⟨b, d, rfl, hb, k1, k2⟩ := h
  unfold db_undone
  simp only [sSeq, sAsg, sRet, sRetN, sDrop, sIf, sPar, sDPutD, sNext, sBrk, sCont, sRaise, sAugI, sFor, sFreeze, dVar, dC, dOp, dTest, dAnd, dOr, dNot, dAndV, dOrV, dNotV, dIf, dChain, dTup, dLst, dLstM, dNil, dCons, dCB, dCall, dCallK, dRev, dSlice, oNone, oSome, dIsN, dNeg, dDGet, dDict, dPs, dPop, dPopAt, dAppend, dLc, dRgL, dRgT, gRg1, gRg2, iSeqD, iRng1D, iRng2D, tTrue, rdAdd, rdI, rdI0, rdB0, rdIx, rdMul, cdLen, cdAbs, cdInt, cdMin2, cdMax2, cdTup, cdList, cdListM, cdAll, cdAny, cdIsi, dName, dGTup, dGCons, dGNil, dGSub, startD, wipeD, seqOf, listOf, keepOf, List.map_cons, List.map_nil, List.length_cons, List.length_nil, List.cons_append, List.nil_append, Nat.reduceAdd, Nat.reduceSub, List.replicate_succ, List.replicate_zero, List.replicate, List.set_cons_zero, List.set_cons_succ, List.getElem?_cons_zero, List.getElem?_cons_succ, Int.reduceToNat, Int.reduceNeg, Bool.false_eq_true, if_true, if_false, decide_eq_true_eq, Option.some.injEq, exists_eq_left', exists_eq_left, true_and, and_true, D.key, D.int.injEq, D.bl.injEq, D.tup.injEq, D.ref.injEq, D.lst.injEq, D.arg.injEq]
  refine ⟨b, d, rfl, hb, fun e => ?_, fun e => finX_self (k2 e)⟩
  obtain ⟨ht, hz, k3, k4⟩ := k1 e
  refine ⟨ht, hz, fun e2 => ?_, fun e2 => finX_self (k4 e2)⟩
  obtain ⟨bs, rfl, _⟩ := isBackD_inv e
  have el : lenD (tI bs) = ((bs.length : Nat) : Int) := by show ((bs.map D.int).length : Int) = _; rw [List.length_map]
  rw [el] at e2
  obtain ⟨ws, rfl, hw, hl⟩ := isWd_inv e2
  exact ⟨bs, ws, rfl, hw, by omega, fin_self (k3 bs ws rfl rfl hw hl)⟩
theorem pu_undone_of (ds : List D) (μ : Mu) (Q : DQ) (QE : XQ) (h : sd_undone_of ds μ Q QE) : db_undone_of { nx := fun _ μ' => fin Q .non μ', rt := fin Q, xe := finX QE } (startD ["back", "word", "letter"] ds) μ := by
  obtain ⟨bs, ws, rfl, hw, hl, k⟩ := h
  unfold db_undone_of
  simp only [sSeq, sAsg, sRet, sRetN, sDrop, sIf, sPar, sDPutD, sNext, sBrk, sCont, sRaise, sAugI, sFor, sFreeze, dVar, dC, dOp, dTest, dAnd, dOr, dNot, dAndV, dOrV, dNotV, dIf, dChain, dTup, dLst, dLstM, dNil, dCons, dCB, dCall, dCallK, dRev, dSlice, oNone, oSome, dIsN, dNeg, dDGet, dDict, dPs, dPop, dPopAt, dAppend, dLc, dRgL, dRgT, gRg1, gRg2, iSeqD, iRng1D, iRng2D, tTrue, rdAdd, rdI, rdI0, rdB0, rdIx, rdMul, cdLen, cdAbs, cdInt, cdMin2, cdMax2, cdTup, cdList, cdListM, cdAll, cdAny, cdIsi, dName, dGTup, dGCons, dGNil, dGSub, startD, wipeD, seqOf, listOf, keepOf, List.map_cons, List.map_nil, List.length_cons, List.length_nil, List.cons_append, List.nil_append, Nat.reduceAdd, Nat.reduceSub, List.replicate_succ, List.replicate_zero, List.replicate, List.set_cons_zero, List.set_cons_succ, List.getElem?_cons_zero, List.getElem?_cons_succ, Int.reduceToNat, Int.reduceNeg, Bool.false_eq_true, if_true, if_false, decide_eq_true_eq, Option.some.injEq, exists_eq_left', exists_eq_left, true_and, and_true, D.key, D.int.injEq, D.bl.injEq, D.tup.injEq, D.ref.injEq, D.lst.injEq, D.arg.injEq, ← List.map_reverse]
  refine lc_map (fun d => match d with | .int l => .int (bs.getD l.toNat 0) | d => d) (sl_ok (by rw [List.length_map, List.length_reverse]; omega)) (fun _ _ _ => trivial) (fun i x μ' R hx hl h => ?_) (fun _ _ => ?_)
  · have hm := List.mem_of_getElem? hx
    obtain ⟨n, hn, rfl⟩ := mem_ints hm
    have := hw n (List.mem_reverse.mp hn)
    simp only [sSeq, sAsg, sRet, sRetN, sDrop, sIf, sPar, sDPutD, sNext, sBrk, sCont, sRaise, sAugI, sFor, sFreeze, dVar, dC, dOp, dTest, dAnd, dOr, dNot, dAndV, dOrV, dNotV, dIf, dChain, dTup, dLst, dLstM, dNil, dCons, dCB, dCall, dCallK, dRev, dSlice, oNone, oSome, dIsN, dNeg, dDGet, dDict, dPs, dPop, dPopAt, dAppend, dLc, dRgL, dRgT, gRg1, gRg2, iSeqD, iRng1D, iRng2D, tTrue, rdAdd, rdI, rdI0, rdB0, rdIx, rdMul, cdLen, cdAbs, cdInt, cdMin2, cdMax2, cdTup, cdList, cdListM, cdAll, cdAny, cdIsi, dName, dGTup, dGCons, dGNil, dGSub, startD, wipeD, seqOf, listOf, keepOf, List.map_cons, List.map_nil, List.length_cons, List.length_nil, List.cons_append, List.nil_append, Nat.reduceAdd, Nat.reduceSub, List.replicate_succ, List.replicate_zero, List.replicate, List.set_cons_zero, List.set_cons_succ, List.getElem?_cons_zero, List.getElem?_cons_succ, Int.reduceToNat, Int.reduceNeg, Bool.false_eq_true, if_true, if_false, decide_eq_true_eq, Option.some.injEq, exists_eq_left', exists_eq_left, true_and, and_true, D.key, D.int.injEq, D.bl.injEq, D.tup.injEq, D.ref.injEq, D.lst.injEq, D.arg.injEq]
    exact ⟨_, atI_ints this.1 this.2, h⟩
  · simp only [sSeq, sAsg, sRet, sRetN, sDrop, sIf, sPar, sDPutD, sNext, sBrk, sCont, sRaise, sAugI, sFor, sFreeze, dVar, dC, dOp, dTest, dAnd, dOr, dNot, dAndV, dOrV, dNotV, dIf, dChain, dTup, dLst, dLstM, dNil, dCons, dCB, dCall, dCallK, dRev, dSlice, oNone, oSome, dIsN, dNeg, dDGet, dDict, dPs, dPop, dPopAt, dAppend, dLc, dRgL, dRgT, gRg1, gRg2, iSeqD, iRng1D, iRng2D, tTrue, rdAdd, rdI, rdI0, rdB0, rdIx, rdMul, cdLen, cdAbs, cdInt, cdMin2, cdMax2, cdTup, cdList, cdListM, cdAll, cdAny, cdIsi, dName, dGTup, dGCons, dGNil, dGSub, startD, wipeD, seqOf, listOf, keepOf, List.map_cons, List.map_nil, List.length_cons, List.length_nil, List.cons_append, List.nil_append, Nat.reduceAdd, Nat.reduceSub, List.replicate_succ, List.replicate_zero, List.replicate, List.set_cons_zero, List.set_cons_succ, List.getElem?_cons_zero, List.getElem?_cons_succ, Int.reduceToNat, Int.reduceNeg, Bool.false_eq_true, if_true, if_false, decide_eq_true_eq, Option.some.injEq, exists_eq_left', exists_eq_left, true_and, and_true, D.key, D.int.injEq, D.bl.injEq, D.tup.injEq, D.ref.injEq, D.lst.injEq, D.arg.injEq, m_int']
    refine fin_self ?_
    unfold undoI at k
    exact k
theorem pu_free_of (ds : List D) (μ : Mu) (Q : DQ) (QE : XQ) (h : sd_free_of ds μ Q QE) : db_free_of { nx := fun _ μ' => fin Q .non μ', rt := fin Q, xe := finX QE } (startD ["back", "word", "found", "letter"] ds) μ := by
  obtain ⟨bs, ws, rfl, hw, hl, k⟩ := h
  unfold db_free_of
  simp only [sSeq, sAsg, sRet, sRetN, sDrop, sIf, sPar, sDPutD, sNext, sBrk, sCont, sRaise, sAugI, sFor, sFreeze, dVar, dC, dOp, dTest, dAnd, dOr, dNot, dAndV, dOrV, dNotV, dIf, dChain, dTup, dLst, dLstM, dNil, dCons, dCB, dCall, dCallK, dRev, dSlice, oNone, oSome, dIsN, dNeg, dDGet, dDict, dPs, dPop, dPopAt, dAppend, dLc, dRgL, dRgT, gRg1, gRg2, iSeqD, iRng1D, iRng2D, tTrue, rdAdd, rdI, rdI0, rdB0, rdIx, rdMul, cdLen, cdAbs, cdInt, cdMin2, cdMax2, cdTup, cdList, cdListM, cdAll, cdAny, cdIsi, dName, dGTup, dGCons, dGNil, dGSub, startD, wipeD, seqOf, listOf, keepOf, List.map_cons, List.map_nil, List.length_cons, List.length_nil, List.cons_append, List.nil_append, Nat.reduceAdd, Nat.reduceSub, List.replicate_succ, List.replicate_zero, List.replicate, List.set_cons_zero, List.set_cons_succ, List.getElem?_cons_zero, List.getElem?_cons_succ, Int.reduceToNat, Int.reduceNeg, Bool.false_eq_true, if_true, if_false, decide_eq_true_eq, Option.some.injEq, exists_eq_left', exists_eq_left, true_and, and_true, D.key, D.int.injEq, D.bl.injEq, D.tup.injEq, D.ref.injEq, D.lst.injEq, D.arg.injEq]
  refine ⟨sl_ok (by decide), fun p hp => ?_⟩
  refine ⟨fun i ρ' μ' => ∃ lt, ρ' = [some (tI bs), some (tI ws), some (.ref p), lt] ∧ μ' = mset μ p (.lst ((freeI bs (ws.take i)).map .int)) ∧ (freeI bs (ws.take i)).length ≤ i, ⟨none, rfl, rfl, Nat.le_refl _⟩, fun _ _ _ _ _ => trivial, fun i d ρ' μ' hd ⟨lt, e1, e2, e3⟩ => ?_, fun ρ' μ' ⟨lt, e1, e2, e3⟩ => ?_⟩
  · have hil : i < ws.length := by
      have := (List.getElem?_eq_some_iff.mp hd).1
      rw [List.length_map] at this
      exact this
    obtain ⟨n, hn, rfl⟩ := ints_get' hd
    have hb := hw n (List.mem_of_getElem? hn)
    have step : freeI bs (ws.take (i + 1)) = frStep bs (freeI bs (ws.take i)) n := by
      unfold freeI
      rw [List.take_add_one, hn]
      simp
    subst e1 e2
    generalize freeI bs (ws.take i) = st at step e3 ⊢
    simp only [sSeq, sAsg, sRet, sRetN, sDrop, sIf, sPar, sDPutD, sNext, sBrk, sCont, sRaise, sAugI, sFor, sFreeze, dVar, dC, dOp, dTest, dAnd, dOr, dNot, dAndV, dOrV, dNotV, dIf, dChain, dTup, dLst, dLstM, dNil, dCons, dCB, dCall, dCallK, dRev, dSlice, oNone, oSome, dIsN, dNeg, dDGet, dDict, dPs, dPop, dPopAt, dAppend, dLc, dRgL, dRgT, gRg1, gRg2, iSeqD, iRng1D, iRng2D, tTrue, rdAdd, rdI, rdI0, rdB0, rdIx, rdMul, cdLen, cdAbs, cdInt, cdMin2, cdMax2, cdTup, cdList, cdListM, cdAll, cdAny, cdIsi, dName, dGTup, dGCons, dGNil, dGSub, startD, wipeD, seqOf, listOf, keepOf, List.map_cons, List.map_nil, List.length_cons, List.length_nil, List.cons_append, List.nil_append, Nat.reduceAdd, Nat.reduceSub, List.replicate_succ, List.replicate_zero, List.replicate, List.set_cons_zero, List.set_cons_succ, List.getElem?_cons_zero, List.getElem?_cons_succ, Int.reduceToNat, Int.reduceNeg, Bool.false_eq_true, if_true, if_false, decide_eq_true_eq, Option.some.injEq, exists_eq_left', exists_eq_left, true_and, and_true, D.key, D.int.injEq, D.bl.injEq, D.tup.injEq, D.ref.injEq, D.lst.injEq, D.arg.injEq]
    refine ⟨sl_ok (by decide), eq_nil (xs := st.map .int) (by simp only [listOf, mset_same]) ints_ok ⟨_, rfl, ?_⟩⟩
    by_cases c : st = []
    · subst c
      rw [if_neg (by simp)]
      refine ⟨p, _, rfl, mset_same, _, mset_same, by rw [List.length_map]; exact sl_lt (by simp), some (.int n), rfl, ?_, ?_⟩
      · rw [mset_mset, step]
        unfold frStep
        rw [if_neg (by simp)]
        rfl
      · rw [step]
        unfold frStep
        rw [if_neg (by simp)]
        simp
    · rw [if_pos (by simp [c])]
      have hpos := List.length_pos_iff.mpr c
      have a1 : atI (st.map D.int) (-1) = some (.int (st.getD (st.length - 1) 0)) := by
        unfold atI ixN
        rw [if_neg (by decide), if_pos (by rw [List.length_map]; omega)]
        have : ((-1 : Int) + ((st.map D.int).length : Int)).toNat = st.length - 1 := by rw [List.length_map]; omega
        show (st.map D.int)[((-1 : Int) + ((st.map D.int).length : Int)).toNat]? = _
        rw [this, List.getElem?_map, List.getElem?_eq_getElem (by omega), List.getD_eq_getElem?_getD, List.getElem?_eq_getElem (by omega)]
        rfl
      refine ⟨st.map .int, by simp only [mset_same], _, a1, _, atI_ints hb.1 hb.2, eq_int ⟨_, rfl, ?_⟩⟩
      rw [Bool.xor_false]
      by_cases c2 : st.getD (st.length - 1) 0 = bs.getD n.toNat 0
      · rw [if_pos (decide_eq_true c2)]
        have hs : frStep bs st n = st.dropLast := by unfold frStep; rw [if_pos ⟨c, c2⟩]
        refine ⟨p, _, .int (st.getD (st.length - 1) 0), rfl, mset_same, ?_, some (.int n), rfl, ?_, ?_⟩
        · have := a1
          unfold atI ixN at this
          rw [if_neg (by decide), if_pos (by rw [List.length_map]; omega)] at this
          have e : ((-1 : Int) + ((st.map D.int).length : Int)).toNat = (st.map D.int).length - 1 := by omega
          have this : (st.map D.int)[((-1 : Int) + ((st.map D.int).length : Int)).toNat]? = some (.int (st.getD (st.length - 1) 0)) := this
          rw [e] at this
          exact this
        · rw [mset_mset, step, hs, List.map_dropLast]
        · rw [step, hs, List.length_dropLast]; omega
      · rw [if_neg (by simpa using c2)]
        have hs : frStep bs st n = st ++ [n] := by unfold frStep; rw [if_neg (fun h => c2 h.2)]
        refine ⟨p, _, rfl, mset_same, _, mset_same, by rw [List.length_map]; exact sl_lt (by omega), some (.int n), rfl, ?_, ?_⟩
        · rw [mset_mset, step, hs, List.map_append]
          rfl
        · rw [step, hs, List.length_append]
          simp
          omega
  · subst e1 e2
    simp only [sSeq, sAsg, sRet, sRetN, sDrop, sIf, sPar, sDPutD, sNext, sBrk, sCont, sRaise, sAugI, sFor, sFreeze, dVar, dC, dOp, dTest, dAnd, dOr, dNot, dAndV, dOrV, dNotV, dIf, dChain, dTup, dLst, dLstM, dNil, dCons, dCB, dCall, dCallK, dRev, dSlice, oNone, oSome, dIsN, dNeg, dDGet, dDict, dPs, dPop, dPopAt, dAppend, dLc, dRgL, dRgT, gRg1, gRg2, iSeqD, iRng1D, iRng2D, tTrue, rdAdd, rdI, rdI0, rdB0, rdIx, rdMul, cdLen, cdAbs, cdInt, cdMin2, cdMax2, cdTup, cdList, cdListM, cdAll, cdAny, cdIsi, dName, dGTup, dGCons, dGNil, dGSub, startD, wipeD, seqOf, listOf, keepOf, List.map_cons, List.map_nil, List.length_cons, List.length_nil, List.cons_append, List.nil_append, Nat.reduceAdd, Nat.reduceSub, List.replicate_succ, List.replicate_zero, List.replicate, List.set_cons_zero, List.set_cons_succ, List.getElem?_cons_zero, List.getElem?_cons_succ, Int.reduceToNat, Int.reduceNeg, Bool.false_eq_true, if_true, if_false, decide_eq_true_eq, Option.some.injEq, exists_eq_left', exists_eq_left, true_and, and_true, D.key, D.int.injEq, D.bl.injEq, D.tup.injEq, D.ref.injEq, D.lst.injEq, D.arg.injEq]
    refine ⟨(freeI bs (ws.take (ws.map D.int).length)).map .int, by simp only [mset_same], fin_less (Le.new hp) ?_⟩
    have e : ws.take (ws.map D.int).length = ws := by rw [List.length_map, List.take_length]
    rw [e]
    exact k
end DL

/-! Drawn backs and words. -/
namespace DL
open PySem PySem.Spec PyProof.Rows L2
def sd__law_back : SpD := fun ds μ Q _ => ∃ q l, ds = [.ref q] ∧ DrawAt μ q l ∧ ∀ bs μ', BackI bs → bs.length ≤ 6 → DrawAt μ' q l → Keep q l μ μ' → Q (tI bs) μ'
def sd__law_word : SpD := fun ds μ Q _ => ∃ q l bs most, ds = [.ref q, .tup bs, .int most] ∧ 0 < bs.length ∧ bs.length < 100000 ∧ 0 ≤ most ∧ most < 50000 ∧ DrawAt μ q l ∧ ∀ ws μ', (ws.length : Int) ≤ most → Lets bs.length ws → DrawAt μ' q l → Keep q l μ μ' → Q (tI ws) μ'
/-- slots: 0 draw, 1 line, 2 many, 3 left_here, 4 found, 5 one, 6 other -/
def db__law_back : DS :=
  (sSeq (sPar 1 2 (dCons (dLstM dNil) (dCons (dOp rdAdd (dC (.int 2)) (dCall sd__law_take (dCons (dVar 0) (dCons (dC (.int 5)) dNil)))) dNil)))
    (sSeq (sAsg (dCall sd__law_shuffled (dCons (dVar 0) (dCons (dRgL false (gRg1 (dVar 2))) dNil))) (dName 3))
    (sSeq (sAsg (dOp (rdMul true) (dLstM (dCons (dC (.int 0)) dNil)) (dVar 2)) (dName 4))
    (sSeq (sWhile (dTest (dOp (rdEq true) (dVar 3) (dLst dNil))) (sSeq (sAsg (dPop (dVar 3)) (dName 5))
    (sSeq (sAsg (dIf (dAnd (dTest (dOp (rdEq true) (dVar 3) (dLst dNil))) (dTest (dOp (rdB0 fun i j => decide (j < i)) (dCall sd__law_take (dCons (dVar 0) (dCons (dC (.int 4)) dNil))) (dC (.int 0))))) (dPop (dVar 3)) (dVar 5)) (dName 6))
    (sAsg (dTup (dCons (dVar 6) (dCons (dVar 5) dNil))) (dGTup 2 (dGCons (dGSub (dVar 4) (dVar 5)) (dGCons (dGSub (dVar 4) (dVar 6)) dGNil)))))))
    (sRet (dCB cdTup (dCons (dVar 4) dNil)))))))
/-- slots: 0 draw, 1 back_here, 2 most, 3 k -/
def db__law_word : DS :=
  (sRet (dCB cdTup (dCons (dLc false (iRng1D (dCall sd__law_take (dCons (dVar 0) (dCons (dOp rdAdd (dVar 2) (dC (.int 1))) dNil)))) (dName 3) tTrue (dCall sd__law_take (dCons (dVar 0) (dCons (dCB cdLen (dCons (dVar 1) dNil)) dNil))) [3]) dNil)))
structure BkInv (n : Nat) (fs ls : List Int) : Prop where
  len : fs.length = n
  nd : ls.Nodup
  sub : ∀ x ∈ ls, 0 ≤ x ∧ x < n
  ok : ∀ k : Nat, k < n → (k : Int) ∉ ls → 0 ≤ fs.getD k 0 ∧ fs.getD k 0 < n ∧ fs.getD k 0 ∉ ls ∧ fs.getD (fs.getD k 0).toNat 0 = k
theorem getD_set {fs : List Int} {i j : Nat} {v : Int} (h : i < fs.length) : (fs.set i v).getD j 0 = if i = j then v else fs.getD j 0 := by
  rw [List.getD_eq_getElem?_getD, List.getD_eq_getElem?_getD, List.getElem?_set]
  by_cases c : i = j
  · rw [if_pos c, if_pos c, if_pos h]; rfl
  · rw [if_neg c, if_neg c]
theorem BkInv.step {n : Nat} {fs ls ls' : List Int} {one other : Int} (I : BkInv n fs ls) (h1 : one ∈ ls) (h2 : other ∈ ls) (nd : ls'.Nodup) (hs : ∀ x, x ∈ ls' ↔ x ∈ ls ∧ x ≠ one ∧ x ≠ other) :
    BkInv n ((fs.set one.toNat other).set other.toNat one) ls' := by
  have o1 := I.sub one h1
  have o2 := I.sub other h2
  have l1 : one.toNat < fs.length := by rw [I.len]; omega
  have l2 : other.toNat < (fs.set one.toNat other).length := by rw [List.length_set, I.len]; omega
  have at_ : ∀ j : Nat, ((fs.set one.toNat other).set other.toNat one).getD j 0 = if other.toNat = j then one else if one.toNat = j then other else fs.getD j 0 := fun j => by
    rw [getD_set l2, getD_set l1]
  refine ⟨by simp [I.len], nd, fun x hx => I.sub x ((hs x).mp hx).1, fun k hk hn => ?_⟩
  rw [at_]
  by_cases c2 : other.toNat = k
  · rw [if_pos c2]
    refine ⟨o1.1, o1.2, fun h => ((hs one).mp h).2.1 rfl, ?_⟩
    rw [at_]
    by_cases c3 : other.toNat = one.toNat
    · rw [if_pos c3]; omega
    · rw [if_neg c3, if_pos rfl]; omega
  · rw [if_neg c2]
    by_cases c1 : one.toNat = k
    · rw [if_pos c1]
      refine ⟨o2.1, o2.2, fun h => ((hs other).mp h).2.2 rfl, ?_⟩
      rw [at_, if_pos rfl]; omega
    · rw [if_neg c1]
      have hk' : (k : Int) ∉ ls := fun h => hn ((hs _).mpr ⟨h, by omega, by omega⟩)
      obtain ⟨a1, a2, a3, a4⟩ := I.ok k hk hk'
      refine ⟨a1, a2, fun h => a3 ((hs _).mp h).1, ?_⟩
      rw [at_, if_neg, if_neg]
      · exact a4
      · intro e
        have : one = fs.getD k 0 := by omega
        exact a3 (this ▸ h1)
      · intro e
        have : other = fs.getD k 0 := by omega
        exact a3 (this ▸ h2)
theorem BkInv.back {n : Nat} {fs : List Int} (I : BkInv n fs []) (h2 : 2 ≤ n) (h12 : n ≤ 12) : BackI fs := by
  refine ⟨by rw [I.len]; exact h2, by rw [I.len]; exact h12, fun l hl => ?_, fun k hk => (I.ok k (by rw [← I.len]; exact hk) (by simp)).2.2.2⟩
  obtain ⟨i, hi⟩ := List.getElem?_of_mem hl
  have hlt : i < fs.length := (List.getElem?_eq_some_iff.mp hi).1
  have := I.ok i (by rw [← I.len]; exact hlt) (by simp)
  rw [List.getD_eq_getElem?_getD, hi] at this
  rw [I.len]
  exact ⟨this.1, this.2.1⟩
theorem rng_ints (n : Nat) : rng 0 n = ((List.range n).map fun i => ((0 : Int) + (i : Nat))).map D.int := by
  unfold rng
  rw [List.map_map]
  rfl
theorem perm_ints : ∀ {ys : List D} {ns : List Int}, ys.Perm (ns.map D.int) → ∃ ms : List Int, ys = ms.map D.int ∧ ms.Perm ns := by
  intro ys ns h
  have hy : ∀ y ∈ ys, ∃ i, y = D.int i := fun y hy => by
    obtain ⟨i, _, e⟩ := mem_ints (h.mem_iff.mp hy)
    exact ⟨i, e⟩
  let toI : D → Int := fun d => match d with | .int i => i | _ => 0
  refine ⟨ys.map toI, ?_, ?_⟩
  · rw [List.map_map]
    have : ∀ y ∈ ys, (D.int ∘ toI) y = y := fun y hm => by
      obtain ⟨i, rfl⟩ := hy y hm
      rfl
    rw [List.map_congr_left this, List.map_id']
  · have := h.map toI
    rw [List.map_map] at this
    have e : (toI ∘ D.int) = id := by funext i; rfl
    rw [e, List.map_id] at this
    exact this
theorem last_split {ns : List Int} (h : ns ≠ []) : ∃ l0 x, ns = l0 ++ [x] := ⟨ns.dropLast, ns.getLast h, (List.dropLast_concat_getLast h).symm⟩
theorem flat_rep : ∀ n : Nat, (List.replicate n [D.int 0]).flatten = (List.replicate n (0 : Int)).map D.int
  | 0 => rfl
  | n + 1 => by rw [List.replicate_succ, List.flatten_cons, flat_rep n, List.replicate_succ]; rfl
theorem nodup_map {α β : Type} {f : α → β} (hf : ∀ a b, f a = f b → a = b) : ∀ {l : List α}, l.Nodup → (l.map f).Nodup
  | [], _ => List.nodup_nil
  | a :: l, h => by
    rw [List.nodup_cons] at h
    rw [List.map_cons, List.nodup_cons]
    refine ⟨fun hm => ?_, nodup_map hf h.2⟩
    obtain ⟨b, hb, e⟩ := List.mem_map.mp hm
    exact h.1 (hf _ _ e ▸ hb)
theorem pu__law_back (ds : List D) (μ : Mu) (Q : DQ) (QE : XQ) (h : sd__law_back ds μ Q QE) : db__law_back { nx := fun _ μ' => fin Q .non μ', rt := fin Q, xe := finX QE } (startD ["draw", "line", "many", "left_here", "found", "one", "other"] ds) μ := by
  obtain ⟨q, l, rfl, D0, k⟩ := h
  unfold db__law_back
  simp only [sSeq, sAsg, sRet, sRetN, sDrop, sIf, sPar, sDPutD, sNext, sBrk, sCont, sRaise, sAugI, sFor, sFreeze, dVar, dC, dOp, dTest, dAnd, dOr, dNot, dAndV, dOrV, dNotV, dIf, dChain, dTup, dLst, dLstM, dNil, dCons, dCB, dCall, dCallK, dRev, dSlice, oNone, oSome, dIsN, dNeg, dDGet, dDict, dPs, dPop, dPopAt, dAppend, dLc, dRgL, dRgT, gRg1, gRg2, iSeqD, iRng1D, iRng2D, tTrue, rdAdd, rdI, rdI0, rdB0, rdIx, rdMul, cdLen, cdAbs, cdInt, cdMin2, cdMax2, cdTup, cdList, cdListM, cdAll, cdAny, cdIsi, dName, dGTup, dGCons, dGNil, dGSub, startD, wipeD, seqOf, listOf, keepOf, List.map_cons, List.map_nil, List.length_cons, List.length_nil, List.cons_append, List.nil_append, Nat.reduceAdd, Nat.reduceSub, List.replicate_succ, List.replicate_zero, List.replicate, List.set_cons_zero, List.set_cons_succ, List.getElem?_cons_zero, List.getElem?_cons_succ, Int.reduceToNat, Int.reduceNeg, Bool.false_eq_true, if_true, if_false, decide_eq_true_eq, Option.some.injEq, exists_eq_left', exists_eq_left, true_and, and_true, D.key, D.int.injEq, D.bl.injEq, D.tup.injEq, D.ref.injEq, D.lst.injEq, D.arg.injEq]
  refine ⟨sl_ok (by decide), fun p0 n0 => ?_⟩
  have D0' := D0.mset (m := .lst []) (D0.q n0) (D0.l n0)
  refine ⟨q, l, 5, rfl, D0', by decide, by decide, fun i μ1 i0 i1 D1 K1 => ?_⟩
  have K1' : Keep q l μ μ1 := (Keep.rfl'.mset n0).trans K1
  refine ⟨⟨by omega, by omega, by omega, by omega, by omega⟩, ?_⟩
  obtain ⟨n, hn⟩ : ∃ n : Nat, (2 + i - 0).toNat = n := ⟨_, rfl⟩
  have n2 : 2 ≤ n := by omega
  have n6 : n ≤ 6 := by omega
  have en : 2 + i = (n : Int) := by omega
  rw [hn, rng_ints]
  refine ⟨q, l, _, _, rfl, .inl rfl, by simp; omega, ints_ok, D1, fun p1 ys μ2 pm f1 a1 D2 K2 => ?_⟩
  obtain ⟨ms, rfl, pm2⟩ := perm_ints pm
  refine ⟨sl_ok (by decide), fun p3 n3 => ?_⟩
  refine ⟨[.int 0], mset_same, by omega, by omega, by rw [en, Int.toNat_natCast]; exact sl_ok (by simp; omega), fun p4 n4 => ?_⟩
  have n43 : p4 ≠ p3 := fun z => by rw [z, mset_same] at n4; cases n4
  have n4' : μ2 p4 = none := by rw [mset_ne n43] at n4; exact n4
  have ne14 : p1 ≠ p4 := fun z => by rw [z, n4'] at a1; cases a1
  have ne13 : p1 ≠ p3 := fun z => by rw [z, n3] at a1; cases a1
  have er : (List.replicate (2 + i).toNat [D.int 0]).flatten = (List.replicate n (0 : Int)).map D.int := by
    rw [en, Int.toNat_natCast]
    exact flat_rep n
  rw [er]
  have q1 := D1.q f1
  have l1 := D1.l f1
  have D3 : DrawAt (mset (mset μ2 p3 (.lst [.int 0])) p4 (.lst ((List.replicate n (0 : Int)).map D.int))) q l := (D2.mset (D2.q n3) (D2.l n3)).mset (D2.q n4') (D2.l n4')
  have q4 := D2.q n4'
  have l4 := D2.l n4'
  -- what was kept at p1's place before is nothing that the caller knows
  have K3 : ∀ a m, a ≠ q → a ≠ l → μ a = some m → a ≠ p1 ∧ a ≠ p4 ∧ mset (mset μ2 p3 (.lst [.int 0])) p4 (.lst ((List.replicate n (0 : Int)).map D.int)) a = some m := fun a m h1 h2 e => by
    have e1 := K1' a m h1 h2 e
    have e2 := K2 a m h1 h2 e1
    have c1 : a ≠ p1 := fun z => by rw [z, f1] at e1; cases e1
    have c3 : a ≠ p3 := fun z => by rw [z, n3] at e2; cases e2
    have c4 : a ≠ p4 := fun z => by rw [z, n4'] at e2; cases e2
    exact ⟨c1, c4, by rw [mset_ne c4, mset_ne c3]; exact e2⟩
  unfold sWhile
  refine ⟨fun m ρ' μ' => ∃ (o1 o2 : Option D) (ls fs : List Int), m = ls.length ∧ ρ' = [some (.ref q), some (.ref p0), some (.int (2 + i)), some (.ref p1), some (.ref p4), o1, o2] ∧ μ' p1 = some (.lst (ls.map .int)) ∧ μ' p4 = some (.lst (fs.map .int)) ∧ BkInv n fs ls ∧ DrawAt μ' q l ∧
    (∀ a m, a ≠ q → a ≠ l → μ a = some m → a ≠ p1 ∧ a ≠ p4 ∧ μ' a = some m), ⟨_, none, none, ms, List.replicate n 0, rfl, rfl, ?_, mset_same, ⟨by simp, ?_, ?_, ?_⟩, D3, K3⟩, ?_⟩
  · rw [mset_ne ne14, mset_ne ne13]; exact a1
  · refine (pm2.nodup_iff).mpr ?_
    exact nodup_map (f := fun (i : Nat) => (0 : Int) + i) (fun a b (h : 0 + (a : Int) = 0 + (b : Int)) => by omega) List.nodup_range
  · intro x hx
    obtain ⟨j, hj, rfl⟩ := List.mem_map.mp (pm2.mem_iff.mp hx)
    have := List.mem_range.mp hj
    omega
  · intro j hj hnot
    exact absurd (pm2.mem_iff.mpr (List.mem_map.mpr ⟨j, List.mem_range.mpr hj, by omega⟩)) hnot
  rintro m ρ' μ' ⟨o1, o2, ls, fs, rfl, rfl, b1, b4, I, D4, K4⟩
  simp only [sSeq, sAsg, sRet, sRetN, sDrop, sIf, sPar, sDPutD, sNext, sBrk, sCont, sRaise, sAugI, sFor, sFreeze, dVar, dC, dOp, dTest, dAnd, dOr, dNot, dAndV, dOrV, dNotV, dIf, dChain, dTup, dLst, dLstM, dNil, dCons, dCB, dCall, dCallK, dRev, dSlice, oNone, oSome, dIsN, dNeg, dDGet, dDict, dPs, dPop, dPopAt, dAppend, dLc, dRgL, dRgT, gRg1, gRg2, iSeqD, iRng1D, iRng2D, tTrue, rdAdd, rdI, rdI0, rdB0, rdIx, rdMul, cdLen, cdAbs, cdInt, cdMin2, cdMax2, cdTup, cdList, cdListM, cdAll, cdAny, cdIsi, dName, dGTup, dGCons, dGNil, dGSub, startD, wipeD, seqOf, listOf, keepOf, List.map_cons, List.map_nil, List.length_cons, List.length_nil, List.cons_append, List.nil_append, Nat.reduceAdd, Nat.reduceSub, List.replicate_succ, List.replicate_zero, List.replicate, List.set_cons_zero, List.set_cons_succ, List.getElem?_cons_zero, List.getElem?_cons_succ, Int.reduceToNat, Int.reduceNeg, Bool.false_eq_true, if_true, if_false, decide_eq_true_eq, Option.some.injEq, exists_eq_left', exists_eq_left, true_and, and_true, D.key, D.int.injEq, D.bl.injEq, D.tup.injEq, D.ref.injEq, D.lst.injEq, D.arg.injEq]
  refine ⟨sl_ok (by decide), eq_nil (xs := ls.map .int) (by simp only [listOf, b1]) ints_ok ⟨_, rfl, ?_⟩⟩
  by_cases c : ls = []
  · subst c
    rw [if_neg (by simp)]
    refine ⟨fs.map .int, by simp only [b4], fin_self (k fs μ' (I.back n2 (by omega)) (by rw [I.len]; exact n6) D4 (fun a m h1 h2 e => (K4 a m h1 h2 e).2.2))⟩
  · rw [if_pos (by simp [c])]
    obtain ⟨l0, one, rfl⟩ := last_split c
    have honeM : one ∈ l0 ++ [one] := by simp
    have hone := I.sub one honeM
    have gl : ∀ (L : List Int) (x : Int), (List.map D.int (L ++ [x]))[(List.map D.int (L ++ [x])).length - 1]? = some (.int x) := fun L x => by simp
    have dl : ∀ (L : List Int) (x : Int), (List.map D.int (L ++ [x])).dropLast = L.map D.int := fun L x => by simp
    refine ⟨p1, _, .int one, rfl, b1, gl _ _, ?_⟩
    rw [dl]
    have D5 := D4.mset (m := .lst (l0.map .int)) q1 l1
    have ix : ∀ (m : Nat) (x : Int), m = n → 0 ≤ x ∧ x < n → ixN m x = some x.toNat := fun m x e h => by
      unfold ixN
      rw [if_pos h.1, if_pos (by omega)]
    have ndl := I.nd
    rw [List.nodup_append] at ndl
    have nd0 : l0.Nodup := ndl.1
    have oneN : one ∉ l0 := fun h => ndl.2.2 one h one (by simp) rfl
    have mem1 : ∀ x, x ∈ l0 ↔ x ∈ l0 ++ [one] ∧ x ≠ one ∧ x ≠ one := fun x => by
      simp only [List.mem_append, List.mem_singleton]
      constructor
      · intro h
        exact ⟨.inl h, fun z => oneN (z ▸ h), fun z => oneN (z ▸ h)⟩
      · rintro ⟨h | h, h1, _⟩
        · exact h
        · exact absurd h h1
    have K5 : ∀ (μ5 : Mu), Keep q l (mset μ' p1 (.lst (l0.map .int))) μ5 → (∀ a m, a ≠ q → a ≠ l → μ a = some m → a ≠ p1 ∧ a ≠ p4 ∧ μ5 a = some m) := fun μ5 kp a m h1 h2 e => by
      obtain ⟨x1, x2, x3⟩ := K4 a m h1 h2 e
      exact ⟨x1, x2, kp a m h1 h2 (by rw [mset_ne x1]; exact x3)⟩
    refine ⟨sl_ok (by decide), eq_nil (xs := l0.map .int) (by simp only [listOf, mset_same]) ints_ok ⟨_, rfl, ?_⟩⟩
    by_cases c0 : l0 = []
    · rw [if_neg (by simp [c0])]
      have b4' : mset μ' p1 (.lst (l0.map .int)) p4 = some (.lst (fs.map .int)) := by rw [mset_ne ne14.symm]; exact b4
      refine ⟨sl_ok (by decide), _, _, rfl, p4, _, one, one.toNat, rfl, rfl, b4', ix _ _ (by rw [List.length_map, I.len]) hone, _, _, rfl, p4, _, one, (one).toNat, rfl, rfl, mset_same, ix _ _ (by rw [List.length_set, List.length_map, I.len]) (I.sub _ honeM), rfl, ?_⟩
      refine ⟨(l0).length, (by simp), _, _, l0, (fs.set one.toNat one).set (one).toNat one, rfl, rfl, ?_, ?_, I.step honeM honeM nd0 mem1, (DrawAt.mset D5 q4 l4).mset q4 l4, fun a m h1 h2 e => ?_⟩
      · rw [mset_ne ne14, mset_ne ne14]; exact mset_same
      · rw [mset_same, List.map_set, List.map_set]
      · obtain ⟨x1, x2, x3⟩ := (K5 _ Keep.rfl') a m h1 h2 e
        exact ⟨x1, x2, by rw [mset_ne x2, mset_ne x2]; exact x3⟩
    · rw [if_pos (by simp [c0])]
      refine ⟨q, l, 4, rfl, D5, by decide, by decide, fun j μ5 j0 j1 D6 K6 => ?_⟩
      have e1 : μ5 p1 = some (.lst (l0.map .int)) := K6 p1 _ q1 l1 mset_same
      have e4 : μ5 p4 = some (.lst (fs.map .int)) := K6 p4 _ q4 l4 (by rw [mset_ne ne14.symm]; exact b4)
      dsimp only
      by_cases cj : 0 < j
      · rw [if_pos cj]
        obtain ⟨l00, other, rfl⟩ := last_split c0
        refine ⟨p1, _, .int other, rfl, e1, gl _ _, ?_⟩
        rw [dl]
        rw [List.nodup_append] at nd0
        have othN : other ∉ l00 := fun h => nd0.2.2 other h other (by simp) rfl
        have hs3 : ∀ x, x ∈ l00 ↔ x ∈ (l00 ++ [other]) ++ [one] ∧ x ≠ one ∧ x ≠ other := fun x => by
          simp only [List.mem_append, List.mem_singleton]
          constructor
          · intro h
            exact ⟨.inl (.inl h), fun z => oneN (by rw [← z]; simp [h]), fun z => othN (z ▸ h)⟩
          · rintro ⟨(h | h) | h, h1, h2⟩
            · exact h
            · exact absurd h h2
            · exact absurd h h1
        have K7 : ∀ a m, a ≠ q → a ≠ l → μ a = some m → a ≠ p1 ∧ a ≠ p4 ∧ mset μ5 p1 (.lst (l00.map .int)) a = some m := fun a m h1 h2 e => by
          obtain ⟨x1, x2, x3⟩ := K5 _ K6 a m h1 h2 e
          exact ⟨x1, x2, by rw [mset_ne x1]; exact x3⟩
        have e4' : mset μ5 p1 (.lst (l00.map .int)) p4 = some (.lst (fs.map .int)) := by rw [mset_ne ne14.symm]; exact e4
        refine ⟨sl_ok (by decide), _, _, rfl, p4, _, one, one.toNat, rfl, rfl, e4', ix _ _ (by rw [List.length_map, I.len]) hone, _, _, rfl, p4, _, other, (other).toNat, rfl, rfl, mset_same, ix _ _ (by rw [List.length_set, List.length_map, I.len]) (I.sub _ (by simp)), rfl, ?_⟩
        refine ⟨(l00).length, (by simp), _, _, l00, (fs.set one.toNat other).set (other).toNat one, rfl, rfl, ?_, ?_, I.step honeM (by simp) nd0.1 hs3, (DrawAt.mset (D6.mset q1 l1) q4 l4).mset q4 l4, fun a m h1 h2 e => ?_⟩
        · rw [mset_ne ne14, mset_ne ne14]; exact mset_same
        · rw [mset_same, List.map_set, List.map_set]
        · obtain ⟨x1, x2, x3⟩ := K7 a m h1 h2 e
          exact ⟨x1, x2, by rw [mset_ne x2, mset_ne x2]; exact x3⟩
      · rw [if_neg cj]
        refine ⟨sl_ok (by decide), _, _, rfl, p4, _, one, one.toNat, rfl, rfl, e4, ix _ _ (by rw [List.length_map, I.len]) hone, _, _, rfl, p4, _, one, (one).toNat, rfl, rfl, mset_same, ix _ _ (by rw [List.length_set, List.length_map, I.len]) (I.sub _ honeM), rfl, ?_⟩
        refine ⟨(l0).length, (by simp), _, _, l0, (fs.set one.toNat one).set (one).toNat one, rfl, rfl, ?_, ?_, I.step honeM honeM nd0 mem1, (DrawAt.mset D6 q4 l4).mset q4 l4, fun a m h1 h2 e => ?_⟩
        · rw [mset_ne ne14, mset_ne ne14]; exact e1
        · rw [mset_same, List.map_set, List.map_set]
        · obtain ⟨x1, x2, x3⟩ := (K5 _ K6) a m h1 h2 e
          exact ⟨x1, x2, by rw [mset_ne x2, mset_ne x2]; exact x3⟩
theorem pu__law_word (ds : List D) (μ : Mu) (Q : DQ) (QE : XQ) (h : sd__law_word ds μ Q QE) : db__law_word { nx := fun _ μ' => fin Q .non μ', rt := fin Q, xe := finX QE } (startD ["draw", "back_here", "most", "k"] ds) μ := by
  obtain ⟨q, l, bs, most, rfl, b0, b1, m0, m1, D0, k⟩ := h
  unfold db__law_word
  simp only [sSeq, sAsg, sRet, sRetN, sDrop, sIf, sPar, sDPutD, sNext, sBrk, sCont, sRaise, sAugI, sFor, sFreeze, dVar, dC, dOp, dTest, dAnd, dOr, dNot, dAndV, dOrV, dNotV, dIf, dChain, dTup, dLst, dLstM, dNil, dCons, dCB, dCall, dCallK, dRev, dSlice, oNone, oSome, dIsN, dNeg, dDGet, dDict, dPs, dPop, dPopAt, dAppend, dLc, dRgL, dRgT, gRg1, gRg2, iSeqD, iRng1D, iRng2D, tTrue, rdAdd, rdI, rdI0, rdB0, rdIx, rdMul, cdLen, cdAbs, cdInt, cdMin2, cdMax2, cdTup, cdList, cdListM, cdAll, cdAny, cdIsi, dName, dGTup, dGCons, dGNil, dGSub, startD, wipeD, seqOf, listOf, keepOf, List.map_cons, List.map_nil, List.length_cons, List.length_nil, List.cons_append, List.nil_append, Nat.reduceAdd, Nat.reduceSub, List.replicate_succ, List.replicate_zero, List.replicate, List.set_cons_zero, List.set_cons_succ, List.getElem?_cons_zero, List.getElem?_cons_succ, Int.reduceToNat, Int.reduceNeg, Bool.false_eq_true, if_true, if_false, decide_eq_true_eq, Option.some.injEq, exists_eq_left', exists_eq_left, true_and, and_true, D.key, D.int.injEq, D.bl.injEq, D.tup.injEq, D.ref.injEq, D.lst.injEq, D.arg.injEq]
  refine ⟨q, l, most + 1, rfl, D0, by omega, by omega, fun i μ1 i0 i1 D1 K1 => ?_⟩
  refine ⟨_, rfl, by omega, by omega, ?_⟩
  refine lc_draw (T := fun i acc => acc.length = i ∧ ∃ ws : List Int, acc = ws.map .int ∧ Lets bs.length ws) (q := q) (l := l) (by unfold rng; rw [List.length_map, List.length_range]; exact sl_ok (by omega)) D1 ⟨rfl, [], rfl, fun _ h => nomatch h⟩ (fun _ _ _ _ _ => trivial) (fun i acc h => Nat.le_of_eq h.1) (fun j x acc μ' R1 R2 hx ht D2 K2 h1 h2 => ?_) (fun p acc μ' ht n0 n1 D2 K2 => ?_)
  · simp only [sSeq, sAsg, sRet, sRetN, sDrop, sIf, sPar, sDPutD, sNext, sBrk, sCont, sRaise, sAugI, sFor, sFreeze, dVar, dC, dOp, dTest, dAnd, dOr, dNot, dAndV, dOrV, dNotV, dIf, dChain, dTup, dLst, dLstM, dNil, dCons, dCB, dCall, dCallK, dRev, dSlice, oNone, oSome, dIsN, dNeg, dDGet, dDict, dPs, dPop, dPopAt, dAppend, dLc, dRgL, dRgT, gRg1, gRg2, iSeqD, iRng1D, iRng2D, tTrue, rdAdd, rdI, rdI0, rdB0, rdIx, rdMul, cdLen, cdAbs, cdInt, cdMin2, cdMax2, cdTup, cdList, cdListM, cdAll, cdAny, cdIsi, dName, dGTup, dGCons, dGNil, dGSub, startD, wipeD, seqOf, listOf, keepOf, List.map_cons, List.map_nil, List.length_cons, List.length_nil, List.cons_append, List.nil_append, Nat.reduceAdd, Nat.reduceSub, List.replicate_succ, List.replicate_zero, List.replicate, List.set_cons_zero, List.set_cons_succ, List.getElem?_cons_zero, List.getElem?_cons_succ, Int.reduceToNat, Int.reduceNeg, Bool.false_eq_true, if_true, if_false, decide_eq_true_eq, Option.some.injEq, exists_eq_left', exists_eq_left, true_and, and_true, D.key, D.int.injEq, D.bl.injEq, D.tup.injEq, D.ref.injEq, D.lst.injEq, D.arg.injEq]
    refine ⟨q, l, bs.length, rfl, D2, by omega, by omega, fun c μ3 c0 c1 D3 K3 => h1 _ _ ?_ D3 K3⟩
    obtain ⟨h3, ws, rfl, hw⟩ := ht
    refine ⟨by simp at h3 ⊢; exact h3, ws ++ [c], by simp, fun x hx => ?_⟩
    rcases List.mem_append.mp hx with hx | hx
    · exact hw x hx
    · rw [List.mem_singleton.mp hx]; exact ⟨c0, c1⟩
  · obtain ⟨h3, ws, rfl, hw⟩ := ht
    simp only [sSeq, sAsg, sRet, sRetN, sDrop, sIf, sPar, sDPutD, sNext, sBrk, sCont, sRaise, sAugI, sFor, sFreeze, dVar, dC, dOp, dTest, dAnd, dOr, dNot, dAndV, dOrV, dNotV, dIf, dChain, dTup, dLst, dLstM, dNil, dCons, dCB, dCall, dCallK, dRev, dSlice, oNone, oSome, dIsN, dNeg, dDGet, dDict, dPs, dPop, dPopAt, dAppend, dLc, dRgL, dRgT, gRg1, gRg2, iSeqD, iRng1D, iRng2D, tTrue, rdAdd, rdI, rdI0, rdB0, rdIx, rdMul, cdLen, cdAbs, cdInt, cdMin2, cdMax2, cdTup, cdList, cdListM, cdAll, cdAny, cdIsi, dName, dGTup, dGCons, dGNil, dGSub, startD, wipeD, seqOf, listOf, keepOf, List.map_cons, List.map_nil, List.length_cons, List.length_nil, List.cons_append, List.nil_append, Nat.reduceAdd, Nat.reduceSub, List.replicate_succ, List.replicate_zero, List.replicate, List.set_cons_zero, List.set_cons_succ, List.getElem?_cons_zero, List.getElem?_cons_succ, Int.reduceToNat, Int.reduceNeg, Bool.false_eq_true, if_true, if_false, decide_eq_true_eq, Option.some.injEq, exists_eq_left', exists_eq_left, true_and, and_true, D.key, D.int.injEq, D.bl.injEq, D.tup.injEq, D.ref.injEq, D.lst.injEq, D.arg.injEq]
    refine fin_self (k ws μ' ?_ hw D2 (K1.trans K2))
    unfold rng at h3
    rw [List.length_map, List.length_map, List.length_range] at h3
    omega
end DL

/-! The data layer, 8: the order of data, the least and the greatest, sorting. -/
namespace DL
open PySem PySem.Spec PyProof.Rows L2
section
variable {X : Cx}
/-- d < e -/
def rLtP (K : PySem.W.Frag) : R2 := fun x y H Q => ∃ d e, Dp K H x d ∧ Dp K H y e ∧ PySem.W.alike d e = true ∧ d ≠ .none ∧ d.depth ≤ 64 ∧ Q (.bl (PySem.W.dataLt d e)) H
theorem op_ltP (hu : X.A.units + 64 < cLine) : OpR X (compareOp .Lt) (rLtP X.K) := by
  intro pins s σ H x y v u Q I rx ry h
  obtain ⟨d, e, hd, he, al, nn, dp, q⟩ := h
  obtain ⟨as, r1⟩ := Dp.reads I d x v hd rx
  obtain ⟨bs, r2⟩ := Dp.reads I e y u he ry
  have m := Nat.min_le_left d.depth e.depth
  exact PySem.W.rcLt_alike d e X.A s v u as bs r1 r2 al nn (by omega) X.prog X.w _ _ ⟨.bl _, H, I, rfl, q⟩
def rdLt : D2 := fun d e μ Q => ∃ p q, pyM μ d = some p ∧ pyM μ e = some q ∧ PySem.W.alike p q = true ∧ p ≠ .none ∧ p.depth ≤ 64 ∧ Q (.bl (PySem.W.dataLt p q)) μ
theorem od_lt {K : PySem.W.Frag} : OpD K (rLtP K) rdLt := by
  intro B H μ x y d e QD Q g rx ry ⟨p, q, h1, h2, h3, h4, h5, h6⟩ k
  exact ⟨p, q, pyM_dp g rx h1, pyM_dp g ry h2, h3, h4, h5, k.ok _ _ H B μ Ext.rfl' g (.bl _) h6⟩
end
/-- the least, the greatest of a list of ints -/
def cdMin : CD := fun ds μ Q => match ds with
  | [d] => ∃ ns : List Int, (listOf μ d = some (ns.map .int) ∨ d = .arg (ns.map .int)) ∧ 0 < ns.length ∧ ∀ m, m ∈ ns → (∀ y, y ∈ ns → m ≤ y) → Q (.int m) μ
  | _ => False
def cdMax : CD := fun ds μ Q => match ds with
  | [d] => ∃ ns : List Int, (listOf μ d = some (ns.map .int) ∨ d = .arg (ns.map .int)) ∧ 0 < ns.length ∧ ∀ m, m ∈ ns → (∀ y, y ∈ ns → y ≤ m) → Q (.int m) μ
  | _ => False
theorem listArg {K : PySem.W.Frag} {B H : Hp} {μ : Mu} {v : V} {d : D} {ns : List Int} (g : Good K B H μ) (r : Rp K B v d) (h : listOf μ d = some (ns.map .int) ∨ d = .arg (ns.map .int)) : ∃ a, v = .ref a ∧ SqL K H a (ns.map V.int) := by
  rcases h with h | rfl
  · obtain ⟨a, zs, rfl, hs, rl⟩ := listV g r h
    rw [rl.ints] at hs
    exact ⟨a, rfl, .inl hs⟩
  · obtain ⟨a, zs, rfl, hs, rl⟩ := r.arg_inv
    rw [rl.ints] at hs
    exact ⟨a, rfl, ext_l g.ex hs⟩
theorem ca_min {K : PySem.W.Frag} : CaD K (rMin K) cdMin := by
  intro B H μ xs ds QD Q g r q k
  unfold cdMin at q
  split at q
  · obtain ⟨v, rfl, r1⟩ := r.one_inv
    obtain ⟨ns, h1, h2, q⟩ := q
    obtain ⟨a, rfl, hs⟩ := listArg g r1 h1
    exact ⟨_, ns, rfl, hs, h2, fun m m1 m2 => k.ok _ _ H B μ Ext.rfl' g (.int _) (q m m1 m2)⟩
  · exact q.elim
theorem ca_max {K : PySem.W.Frag} : CaD K (rMax K) cdMax := by
  intro B H μ xs ds QD Q g r q k
  unfold cdMax at q
  split at q
  · obtain ⟨v, rfl, r1⟩ := r.one_inv
    obtain ⟨ns, h1, h2, q⟩ := q
    obtain ⟨a, rfl, hs⟩ := listArg g r1 h1
    exact ⟨_, ns, rfl, hs, h2, fun m m1 m2 => k.ok _ _ H B μ Ext.rfl' g (.int _) (q m m1 m2)⟩
  · exact q.elim
/-! ### the order of tuples of ints -/
def lexI : List Int → List Int → Bool
  | [], [] => false
  | [], _ :: _ => true
  | _ :: _, [] => false
  | x :: a, y :: b => if x = y then lexI a b else decide (x < y)
theorem lexI_irr : ∀ a, lexI a a = false
  | [] => rfl
  | x :: a => by rw [lexI, if_pos rfl]; exact lexI_irr a
theorem lexI_tri : ∀ a b, lexI a b = false → lexI b a = false → a = b
  | [], [], _, _ => rfl
  | [], _ :: _, h, _ => by simp [lexI] at h
  | _ :: _, [], _, h => by simp [lexI] at h
  | x :: a, y :: b, h, k => by
    unfold lexI at h k
    by_cases c : x = y
    · subst c
      rw [if_pos rfl] at h k
      rw [lexI_tri a b h k]
    · rw [if_neg c] at h
      rw [if_neg (fun z => c z.symm)] at k
      simp only [decide_eq_false_iff_not] at h k
      exact absurd (by omega) c
theorem lexI_asym : ∀ a b, lexI a b = true → lexI b a = false
  | [], [], h => by simp [lexI] at h
  | [], _ :: _, h => by simp [lexI]
  | _ :: _, [], h => by simp [lexI] at h
  | x :: a, y :: b, h => by
    unfold lexI at h ⊢
    by_cases c : x = y
    · subst c
      rw [if_pos rfl] at h ⊢
      exact lexI_asym a b h
    · rw [if_neg c] at h
      rw [if_neg (fun z => c z.symm)]
      simp only [decide_eq_false_iff_not, decide_eq_true_eq] at h ⊢
      omega
theorem lexI_tr : ∀ a b c, lexI b a = false → lexI c b = false → lexI c a = false
  | [], _, [], _, _ => by simp [lexI]
  | [], [], _ :: _, _, _ => by simp [lexI]
  | [], _ :: _, _ :: _, _, _ => by simp [lexI]
  | _ :: _, [], _, h, _ => by simp [lexI] at h
  | _ :: _, _ :: _, [], _, k => by simp [lexI] at k
  | x :: a, y :: b, z :: c, h, k => by
    unfold lexI at h k ⊢
    by_cases c1 : y = x
    · subst c1
      rw [if_pos rfl] at h
      by_cases c2 : z = y
      · subst c2
        rw [if_pos rfl] at k ⊢
        exact lexI_tr a b c h k
      · rw [if_neg c2] at k ⊢
        exact k
    · rw [if_neg c1] at h
      by_cases c2 : z = y
      · subst c2
        rw [if_neg c1]
        exact h
      · rw [if_neg c2] at k
        simp only [decide_eq_false_iff_not] at h k
        rw [if_neg (by omega)]
        simp only [decide_eq_false_iff_not]
        omega
theorem lex_tag (i : Int) (l m : List (Int ⊕ List Nat)) : PyProof.Rows.lexLt itemOrd (Sum.inl i :: l) (Sum.inl i :: m) = PyProof.Rows.lexLt itemOrd l m := PySem.W.lex_pre [Sum.inl i] l m
theorem lexI_data : ∀ a b : List Int, PyProof.Rows.lexLt itemOrd (PySem.W.keyToksAll (a.map PyData.int)) (PySem.W.keyToksAll (b.map PyData.int)) = lexI a b
  | [], [] => by rw [lexI]; exact lex_irrefl _
  | [], y :: b => by
    rw [lexI, List.map_nil, List.map_cons, PySem.W.toks_all_cons]
    simp only [PySem.W.keyToksAll]
    rw [show ([Sum.inl 0] : List (Int ⊕ List Nat)) = Sum.inl 0 :: [] from rfl, PySem.W.lex_atom (by decide), PySem.W.lex_one]
    rfl
  | x :: a, [] => by
    rw [lexI, List.map_nil, List.map_cons, PySem.W.toks_all_cons]
    simp only [PySem.W.keyToksAll]
    rw [show ([Sum.inl 0] : List (Int ⊕ List Nat)) = Sum.inl 0 :: [] from rfl, PySem.W.lex_atom (by decide), PySem.W.lex_one]
    rfl
  | x :: a, y :: b => by
    rw [lexI, List.map_cons, List.map_cons, PySem.W.toks_all_cons, PySem.W.toks_all_cons]
    simp only [PySem.W.keyToks, List.cons_append, List.nil_append]
    rw [lex_tag]
    by_cases c : x = y
    · subst c
      rw [if_pos rfl]
      exact (PySem.W.lex_pre [Sum.inl x] _ _).trans (lexI_data a b)
    · rw [if_neg c, PySem.W.lex_atom (fun z => c (Sum.inl.inj z)), PySem.W.lex_one]
      rfl
theorem dataLt_ints (a b : List Int) : PySem.W.dataLt (.tuple (a.map PyData.int)) (.tuple (b.map PyData.int)) = lexI a b := by
  rw [PySem.W.dataLt_tuple]
  exact lexI_data a b
/-- (i, u) < (j, v) -/
theorem dataLt_pair (i j : Int) (a b : List Int) : PySem.W.dataLt (.tuple [.int i, .tuple (a.map PyData.int)]) (.tuple [.int j, .tuple (b.map PyData.int)]) = if i = j then lexI a b else decide (i < j) := by
  rw [PySem.W.dataLt_tuple, PySem.W.toks_all_cons (.int i), PySem.W.toks_all_cons (.int j)]
  simp only [PySem.W.keyToks, List.cons_append, List.nil_append]
  rw [lex_tag]
  by_cases c : i = j
  · subst c
    rw [if_pos rfl, lex_tag]
    rw [PySem.W.toks_all_cons, PySem.W.toks_all_cons]
    rw [lex_tag]
    simp only [PySem.W.keyToks, PySem.W.keyToksAll]
    have t := PySem.W.toks_eqv (.tuple (a.map PyData.int)) (.tuple (b.map PyData.int)) (by simp only [PySem.W.alike]; exact alike_ints a b)
    simp only [PySem.W.keyToks] at t
    cases e : PyData.eqv (.tuple (a.map PyData.int)) (.tuple (b.map PyData.int)) with
    | true =>
      rw [t.1 e, lex_irrefl]
      have e' : a = b := by
        simp only [PyData.eqv] at e
        rw [eqv_ints] at e
        simpa using e
      rw [e', lexI_irr]
    | false =>
      rw [t.2 e]
      exact lexI_data a b
  · rw [if_neg c, PySem.W.lex_atom (fun z => c (Sum.inl.inj z)), PySem.W.lex_one]
    rfl
where
  alike_ints : ∀ a b : List Int, PySem.W.alikeAll (a.map PyData.int) (b.map PyData.int) = true
    | [], _ => by rw [List.map_nil, PySem.W.alikeAll]
    | _ :: _, [] => by rw [List.map_nil, List.map_cons, PySem.W.alikeAll]
    | x :: a, y :: b => by rw [List.map_cons, List.map_cons, PySem.W.alikeAll, PySem.W.alike, alike_ints a b]; rfl
end DL

/-! The data layer, 9: sorted(..). -/
namespace DL
open PySem PySem.Spec PyProof.Rows L2
open PySem.W (AllAlike Sortable EachIs)
theorem each_vals {xs : List V} {us : List Value} (r : Vals xs us) : ∀ {ps : List PyData}, xs.length = ps.length → EachIs (fun (v : Value) (b : V × PyData) => RelV b.1 v) us (xs.zip ps) := by
  induction r with
  | nil => intro ps _; exact .nil
  | cons h _ ih =>
    intro ps hl
    cases ps with
    | nil => cases hl
    | cons p ps => exact .cons h (ih (by simpa using hl))
theorem each_reads {X : Cx} {pins : List (Addr × Obj)} {σ : L2.St} {H : Hp} {s : Shared} (I : Inv X pins σ H s) : ∀ {xs : List V} {us : List Value} {ps : List PyData}, Vals xs us → DpAll X.K H xs ps → EachIs (fun (v : Value) (b : V × PyData) => ∃ as, Reads s.heap v b.2 as) us (xs.zip ps)
  | _, _, _, .nil, _ => .nil
  | _, _, _, .cons h r, .cons d ds => .cons (Dp.reads I _ _ _ d h) (each_reads I r ds)
theorem _root_.L2.DpAll.length {K : PySem.W.Frag} {H : Hp} : ∀ {xs : List V} {ps : List PyData}, DpAll K H xs ps → xs.length = ps.length
  | _, _, .nil => rfl
  | _, _, .cons _ r => congrArg (· + 1) r.length
theorem dp_emp {K : PySem.W.Frag} {H : Hp} : ∀ {xs : List V} {ps : List PyData} {i : Nat} {x : V}, DpAll K H xs ps → (∀ p, p ∈ ps → p = .tuple []) → xs[i]? = some x → Dp K H x (.tuple [])
  | _, _, _, _, .nil, _, h => by simp at h
  | _, _, 0, _, .cons d1 d2, hp, h => by
    simp only [List.getElem?_cons_zero, Option.some.injEq] at h
    subst h
    rw [← hp _ (List.mem_cons_self ..)]
    exact d1
  | _, _, i + 1, _, .cons d1 d2, hp, h => dp_emp (i := i) d2 (fun p hm => hp p (List.mem_cons_of_mem _ hm)) (by simpa using h)
theorem each_rel : ∀ {us : List Value} {bs : List (V × PyData)}, EachIs (fun (v : Value) (b : V × PyData) => RelV b.1 v) us bs → Vals (bs.map (·.1)) us
  | _, _, .nil => .nil
  | _, _, .cons h r => .cons h (each_rel r)
def dLeB : V × PyData → V × PyData → Bool := PySem.W.dataLe false (·.2)
theorem dLeB_total : PySem.W.TotalLe dLeB := PySem.W.sortLe_total (listOrd itemOrd) false fun b : V × PyData => PySem.W.keyToks b.2
theorem dLeB_eq (a b : V × PyData) : dLeB a b = !PySem.W.dataLt b.2 a.2 := rfl
/-- a list of alike data, sorted -/
def rSortP (K : PySem.W.Frag) : List V → Hp → VK → Prop := fun vs H Q => ∃ (a : Addr) (xs : List V) (ps : List PyData), vs = [V.ref a] ∧ SqL K H a xs ∧ DpAll K H xs ps ∧ AllAlike ps ∧ (Sortable ps ∨ ∀ p, p ∈ ps → p = .tuple []) ∧ (∀ p, p ∈ ps → p.depth ≤ 64) ∧
  ∀ (zs : List (V × PyData)) (p : Addr), zs.Perm (xs.zip ps) → zs.Pairwise (fun x y => PySem.W.dataLt y.2 x.2 = false) → H p = none → Q (.ref p) (upd H p (.lst (zs.map (·.1))))
section
variable {prog : Program} {w : World} {A : Around} {E : Value → Shared → Prop} {s : Shared}
/-- refs to empty tuples -/
def Emp (h : Heap) (vs : List Value) : Prop := ∀ v, v ∈ vs → ∃ a o n, v = .ref a ∧ h.get? a = some o ∧ o.cls = .type "tuple" ∧ o.data = .seq #[] n
theorem emp_kind {vs : List Value} {Q : SortKind → Shared → Prop} {M : Model} (t : Emp s.heap vs) (h2 : 2 ≤ vs.length) (h : Q oneType' s) : wpAny M A (keyKind' vs.toArray) Q E s := by
  obtain ⟨v₁, v₂, rest, rfl⟩ : ∃ v₁ v₂ rest, vs = v₁ :: v₂ :: rest := by
    match vs, h2 with
    | [], h2 => simp at h2
    | [_], h2 => simp at h2
    | v₁ :: v₂ :: rest, _ => exact ⟨v₁, v₂, rest, rfl⟩
  have ty : ∀ v ∈ v₁ :: v₂ :: rest, PySem.W.Looks M s.heap (typeOf v) (.type "tuple") := fun v hv => by
    obtain ⟨a, o, n, rfl, ho, hc, hd⟩ := t v hv
    rw [← hc]
    exact (PySem.W.Looks.ld ho).andThen .now
  rw [keyKind'_eq, List.mapM_toArray, map_eq_pure_bind]
  refine wpAny_bind (wpAny_bind (PySem.W.kas_mapM (r := none) _ (fun v hv Q' hq => ?_) (wpAny_pure ?_)))
  · rw [PySem.W.kas_first_eq]
    refine wpAny_bind ((ty v hv).here ?_)
    rw [if_neg (by decide)]
    obtain ⟨a, o, n, rfl, ho, hc, hd⟩ := t v hv
    exact wpAny_bind (listItems_at ho hd (wpAny_pure hq))
  · rw [if_neg (by simp), if_neg (by simp)]
    rw [oneTypeOnly'_eq, List.mapM_toArray, map_eq_pure_bind]
    refine wpAny_bind (wpAny_bind (wpAny_bind (PySem.W.kas_mapM (r := .type "tuple") _ (fun v hv Q' hq => (ty v hv).here hq) (wpAny_pure ?_))))
    have hall : ((List.map (fun _ => Value.type "tuple") (v₁ :: v₂ :: rest)).toArray.all fun x => x == Value.type "tuple") = true := by
      simp only [List.all_toArray, List.all_map, List.all_eq_true]
      intro _ _
      rfl
    have h0 : (List.map (fun _ => Value.type "tuple") (v₁ :: v₂ :: rest)).toArray[0]? = some (Value.type "tuple") := by simp
    rw [h0]
    simp only [hall, if_true]
    exact wpAny_pure (wpAny_pure h)
theorem emp_lt {vs : List Value} {x y : Value} {Q : Bool → Shared → Prop} (t : Emp s.heap vs) (hx : x ∈ vs) (hy : y ∈ vs) (hu : A.units < cLine) (q : Q false s) : wpAny (model prog w) A (keyLt' oneType' x y) Q E s := by
  obtain ⟨a, ⟨cls, dd, data, sl⟩, n, rfl, ho, hc, hd⟩ := t x hx
  obtain ⟨b, ⟨cls2, dd2, data2, sl2⟩, n2, rfl, ho2, hc2, hd2⟩ := t y hy
  simp only at hc hd hc2 hd2
  subst hc hd hc2 hd2
  rw [keyLt'_oneType, oneLt'_eq]
  simp only [if_true]
  refine wpAny_bind (wpAny_cRoomFor hu ?_)
  refine wpAny_bind (wpAny_callSpecialIfBound?_slot (T := "tuple") ⟨_, ho, rfl⟩ F.slot_tuple_lt (call_meets F.slot_tuple_lt ⟨_, ho, rfl⟩ F.entry_tuple_lt (F.args_tuple_lt_2 _ _) (Ob.tuple_ltAt a b #[] #[] n n2 dd dd2 sl sl2 (fun _ => true) (fun _ => true)) ⟨ho, ho2, fun j h1 _ => absurd h1 (by simp), fun j h1 _ => absurd h1 (by simp), ?_⟩))
  exact wpAny_truthy_bool q
end
section
variable {X : Cx}
theorem call_sortedD (hu : X.A.units + 100 < cLine) : CallR X (.builtin "sorted") (rSortP X.K) := by
  intro pins s σ H vs us Q I r h
  obtain ⟨a, xs, ps, rfl, hs, hd, al, so, dp, q⟩ := h
  obtain ⟨its, rv, hl, hz⟩ := I.list hs
  obtain rfl := Vals.ref1 r
  have lx := hd.length
  have li := rv.length
  have zl : (xs.zip ps).length = xs.length := by rw [List.length_zip]; omega
  have m2 : (xs.zip ps).map (·.2) = ps := List.map_snd_zip (by omega)
  have m1 : (xs.zip ps).map (·.1) = xs := List.map_fst_zip (by omega)
  have fin : ∀ (zs : List (V × PyData)) (out : List Value), zs.Perm (xs.zip ps) → zs.Pairwise (fun x y => PySem.W.dataLt y.2 x.2 = false) → Vals (zs.map (·.1)) out →
      EP X pins σ Q (.ref (s.heap.objs.size + 1)) { s with heap := sortedAll s.heap its out.toArray } := fun zs out hp hw hv => by
    obtain ⟨ep, he'⟩ := sortedAll_at s.heap its out.toArray
    have hlen : (zs.map (·.1)).length ≤ sizeLine := by
      rw [List.length_map, hp.length_eq, zl]
      exact hz
    exact ⟨.ref _, upd H (s.heap.objs.size + 1) (.lst (zs.map (·.1))), I.laid (t' := s.toks) (fun _ _ => sortedAll_old) (Nat.le_succ _) ⟨hlen, out, ep, hv, he'⟩, rfl, q zs _ hp hw (I.hok.fresh (Nat.le_succ _))⟩
  rcases so with so | so
  · refine PySem.W.sorted_data (bs := xs.zip ps) (enc := (·.2)) hl.isList (each_vals rv lx) (each_reads I rv hd) (by rw [m2]; exact al) (by rw [m2]; exact so) (by rw [zl]; exact hz) (fun b hb => ?_) fun out _ eo => ?_
    · have := dp b.2 (by rw [← m2]; exact List.mem_map_of_mem hb)
      omega
    · refine fin _ out (List.mergeSort_perm _ _) ?_ (each_rel eo)
      refine List.Pairwise.imp ?_ (PySem.W.sort_pairwise dLeB_total (xs.zip ps))
      intro x y hxy
      rw [dLeB_eq] at hxy
      simpa using hxy
  · have t0 : Emp s.heap its := fun v hv => by
      obtain ⟨i, hi⟩ := List.getElem?_of_mem hv
      have hlt : i < its.length := (List.getElem?_eq_some_iff.mp hi).1
      have hx : xs[i]? = some xs[i] := List.getElem?_eq_getElem (by omega)
      obtain ⟨u, e1, r1⟩ := Vals.get rv hx
      rw [hi] at e1
      obtain rfl := Option.some.inj e1
      have dpi := dp_emp hd so hx
      obtain ⟨b, hb, hs2⟩ : ∃ b, xs[i] = V.ref b ∧ SqT X.K H b [] := by
        generalize xs[i] = z at dpi
        cases dpi with
        | tup hs2 ha2 => cases ha2; exact ⟨_, rfl, hs2⟩
      obtain ⟨its2, rv2, ⟨o, ho, hc, n, hd2⟩, _⟩ := I.tuple hs2
      cases rv2
      rw [hb] at r1
      cases r1
      exact ⟨_, o, n, rfl, ho, hc, hd2⟩
    refine SrtO.sorted_ord (ltv := fun _ _ => false) ⟨fun _ _ h => (by cases h), fun _ _ _ _ _ => rfl⟩ hl.isList (by rw [← li]; exact hz) (fun h2 h₁ b hb kk h' k' => ?_) fun out _ ho => ?_
    · have t1 : Emp h' its := fun v hv => by
        obtain ⟨c, o, n, rfl, ho, hc, hd2⟩ := t0 v hv
        obtain ⟨n1, e1⟩ := kk c o ho
        exact ⟨c, o, n, rfl, k' c o n1 e1, hc, hd2⟩
      refine ⟨oneType', fun Q' E' q' => emp_kind t1 h2 q', fun p q' hp hq => ?_⟩
      exact emp_lt (s := { s with heap := h' }) t1 hp hq (by show X.A.units + 2 < _; omega) ⟨rfl, rfl⟩
    · -- what is equal may stand in any order
      obtain ⟨zs, hp, hv⟩ : ∃ zs : List (V × PyData), zs.Perm (xs.zip ps) ∧ Vals (zs.map (·.1)) out := by
        have pr := ho.perm
        have key : ∀ {us out : List Value}, out.Perm us → ∀ {bs : List (V × PyData)}, EachIs (fun (v : Value) (b : V × PyData) => RelV b.1 v) us bs → ∃ zs : List (V × PyData), zs.Perm bs ∧ Vals (zs.map (·.1)) out := by
          intro us out pr
          induction pr with
          | nil => intro bs e; cases e; exact ⟨[], .nil, .nil⟩
          | cons x _ ih =>
            intro bs e
            cases e with
            | cons h1 h2 =>
              obtain ⟨zs, p1, v1⟩ := ih h2
              exact ⟨_ :: zs, .cons _ p1, .cons h1 v1⟩
          | swap x y l =>
            intro bs e
            cases e with
            | cons h1 h2 =>
              cases h2 with
              | cons h3 h4 => exact ⟨_ :: _ :: _, .swap _ _ _, .cons h3 (.cons h1 (each_rel h4))⟩
          | trans _ _ ih1 ih2 =>
            intro bs e
            obtain ⟨zs, p1, v1⟩ := ih2 e
            obtain ⟨ws, p2, v2⟩ := ih1 (bs := zs) (by
              have g : ∀ {us : List Value} {zs : List (V × PyData)}, Vals (zs.map (·.1)) us → EachIs (fun (v : Value) (b : V × PyData) => RelV b.1 v) us zs := by
                intro us zs
                induction zs generalizing us with
                | nil => intro h; cases h; exact .nil
                | cons z zs ih => intro h; cases h with | cons h1 h2 => exact .cons h1 (ih h2)
              exact g v1)
            exact ⟨ws, p2.trans p1, v2⟩
        exact key pr (each_vals rv lx)
      refine fin zs out hp ?_ hv
      refine SrtO.srtd_eq (lt := fun (x y : V × PyData) => PySem.W.dataLt x.2 y.2) fun x hx y hy => ?_
      have e : ∀ z ∈ zs, z.2 = .tuple [] := fun z hz => so _ (by rw [← m2]; exact List.mem_map_of_mem (hp.mem_iff.mp hz))
      rw [e x hx, e y hy]
      exact dataLt_ints [] []
end
/-- sorted(d), d a list of alike data -/
def cdSorted : CD := fun ds μ Q => match ds with
  | [d] => ∃ xs ps, (listOf μ d = some xs ∨ d = .arg xs) ∧ pyL xs = some ps ∧ AllAlike ps ∧ (Sortable ps ∨ ∀ p, p ∈ ps → p = .tuple []) ∧ (∀ p, p ∈ ps → p.depth ≤ 64) ∧
    ∀ zs : List (D × PyData), zs.Perm (xs.zip ps) → zs.Pairwise (fun x y => PySem.W.dataLt y.2 x.2 = false) → Q (.lst (zs.map (·.1))) μ
  | _ => False
theorem listArg' {K : PySem.W.Frag} {B H : Hp} {μ : Mu} {v : V} {d : D} {ds : List D} (g : Good K B H μ) (r : Rp K B v d) (h : listOf μ d = some ds ∨ d = .arg ds) : ∃ a xs, v = .ref a ∧ SqL K H a xs ∧ RpL K B xs ds := by
  rcases h with h | rfl
  · obtain ⟨a, zs, rfl, hs, rl⟩ := listV g r h
    exact ⟨a, zs, rfl, .inl hs, rl⟩
  · obtain ⟨a, zs, rfl, hs, rl⟩ := r.arg_inv
    exact ⟨a, zs, rfl, ext_l g.ex hs, rl⟩
theorem perm_lift {K : PySem.W.Frag} {B : Hp} {xs : List V} {ds : List D} {ps : List PyData} (r : RpL K B xs ds) (hl : xs.length = ps.length) {zs : List (V × PyData)} (p : zs.Perm (xs.zip ps)) :
    ∃ ys : List (D × PyData), ys.Perm (ds.zip ps) ∧ ys.map (·.2) = zs.map (·.2) ∧ RpL K B (zs.map (·.1)) (ys.map (·.1)) := by
  have key : ∀ {zs bs : List (V × PyData)}, zs.Perm bs → ∀ {cs : List (D × PyData)}, bs.map (·.2) = cs.map (·.2) → RpL K B (bs.map (·.1)) (cs.map (·.1)) → ∃ ys : List (D × PyData), ys.Perm cs ∧ ys.map (·.2) = zs.map (·.2) ∧ RpL K B (zs.map (·.1)) (ys.map (·.1)) := by
    intro zs bs pr
    induction pr with
    | nil => intro cs e h; cases cs with | nil => exact ⟨[], .nil, rfl, .nil⟩ | cons c cs => cases e
    | cons x _ ih =>
      intro cs e h
      cases cs with
      | nil => cases e
      | cons c cs =>
        simp only [List.map_cons, List.cons.injEq] at e h
        cases h with
        | cons h1 h2 =>
          obtain ⟨ys, p1, e1, v1⟩ := ih e.2 h2
          exact ⟨c :: ys, .cons _ p1, by simp only [List.map_cons, e1, e.1], .cons h1 v1⟩
    | swap x y l =>
      intro cs e h
      match cs, e, h with
      | [], e, _ => cases e
      | [_], e, _ => simp at e
      | c :: d :: cs, e, h =>
        simp only [List.map_cons, List.cons.injEq] at e h
        cases h with
        | cons h1 h2 =>
          cases h2 with
          | cons h3 h4 => exact ⟨d :: c :: cs, .swap _ _ _, by simp only [List.map_cons, e.1, e.2.1, e.2.2], .cons h3 (.cons h1 h4)⟩
    | trans _ _ ih1 ih2 =>
      intro cs e h
      obtain ⟨ys, p1, e1, v1⟩ := ih2 e h
      obtain ⟨ws, p2, e2, v2⟩ := ih1 e1.symm v1
      exact ⟨ws, p2.trans p1, e2, v2⟩
  have ld := r.length
  refine key p ?_ ?_
  · rw [List.map_snd_zip (by omega), List.map_snd_zip (by omega)]
  · rw [List.map_fst_zip (by omega), List.map_fst_zip (by omega)]
    exact r
theorem ca_sorted {K : PySem.W.Frag} : CaD K (rSortP K) cdSorted := by
  intro B H μ xs ds QD Q g r q k
  unfold cdSorted at q
  split at q
  · obtain ⟨v, rfl, r1⟩ := r.one_inv
    obtain ⟨ys, ps, h1, h2, h3, h4, h5, q⟩ := q
    obtain ⟨a, zs, rfl, hs, rl⟩ := listArg' g r1 h1
    have hd := RpL.dp rl h2
    refine ⟨a, zs, ps, rfl, hs, DpAll.ext g.ex hd, h3, h4, h5, fun ws p hp hw hn => ?_⟩
    obtain ⟨us, p1, e1, v1⟩ := perm_lift rl hd.length hp
    refine k.ok _ _ _ _ μ (Ext.new (g.freeB hn)) (g.still hn) (.lst (Or.inl upd_same) (v1.mono (Ext.new (g.freeB hn)))) (q us p1 ?_)
    have a1 : (us.map (·.2)).Pairwise (fun x y => PySem.W.dataLt y x = false) := by
      rw [e1]
      exact List.pairwise_map.mpr hw
    exact List.pairwise_map.mp a1
  · exact q.elim
end DL

/-! The data layer, 10: min(d, key=f), f a def of the text. -/
namespace DL
open PySem PySem.Spec PyProof.Rows L2
/-- what is walked: a list or a tuple that stands still, its iterator at It -/
structure Wk (X : Cx) (σ : L2.St) (B : Hp) (It l : Addr) (xs : List V) (St : Nat → Shared → Prop) : Prop where
  W : WalksS X.prog X.w X.A.in1 It [It, l] [It] (fun a b => b = a) xs.length (fun i v => ∃ x, xs[i]? = some x ∧ RelV x v) St
  again : ∀ i s s' pins H', St i s → (∀ o, s.heap.get? It = some o → s'.heap.get? It = some o) → Inv X pins σ H' s' → Ext B H' → St i s'
  obj : ∀ i s, St i s → ∃ o, s.heap.get? It = some o ∧ ∀ v, o.data ≠ .cell v
theorem wk_list {X : Cx} {σ : L2.St} {B : Hp} {It l : Addr} {xs : List V} (hh : X.A.handled = none) (ne : l ≠ It) (hs : SqL X.K B l xs) :
    Wk X σ B It l xs (fun i s => s.heap.IsListIter It l i ∧ ∃ its : List Value, Vals xs its ∧ s.heap.IsList l its.toArray) := by
  have WL : ∀ its : List Value, WalksS X.prog X.w X.A.in1 It [It, l] [It] (fun a b => b = a) its.toArray.size (fun i v => its.toArray[i]? = some v) (fun i s => s.heap.IsListIter It l i ∧ s.heap.IsList l its.toArray) := fun its => (Walks.list (A := X.A.in1) hh It l ne its.toArray).toS
  refine ⟨⟨(WL []).sub, fun _ => rfl, fun _ _ _ a b => b.trans a, ?_, ?_, ?_, ?_⟩, ?_, ?_⟩
  · rintro i s h' tk ⟨h1, its, h2, h3⟩ htk hk
    obtain ⟨a, b⟩ := (WL its).frame i s h' tk ⟨h1, h3⟩ htk hk
    exact ⟨a, its, h2, b⟩
  · rintro i s Q E hi ⟨h1, its, h2, h3⟩ hQ
    refine (WL its).item i s Q E (by rw [List.size_toArray, ← h2.length]; exact hi) ⟨h1, h3⟩ fun v s' hv st hm => ?_
    have hv' : its[i]? = some v := by simpa using hv
    obtain ⟨u, e1, e2⟩ := Vals.get h2 (List.getElem?_eq_getElem hi)
    rw [hv'] at e1
    cases e1
    exact hQ v s' ⟨_, List.getElem?_eq_getElem hi, e2⟩ ⟨st.1, its, h2, st.2⟩ hm
  · rintro s Q E ⟨h1, its, h2, h3⟩ hQ
    have hl : its.toArray.size = xs.length := by rw [List.size_toArray, ← h2.length]
    exact (WL its).done s Q E (by rw [hl]; exact ⟨h1, h3⟩) hQ
  · rintro i s Q E ⟨h1, its, h2, h3⟩ hQ
    exact (WL its).self i s Q E ⟨h1, h3⟩ hQ
  · rintro i s s' pins H' ⟨h1, its, h2, h3⟩ hk I e
    obtain ⟨its', r', hl', _⟩ := I.list (ext_l e hs)
    exact ⟨h1.at hk, its', r', hl'.isList⟩
  · rintro i s ⟨⟨o, ho, hc, hd⟩, _⟩
    exact ⟨o, ho, fun v e => by rw [e] at hd; cases hd⟩
theorem wk_tup {X : Cx} {σ : L2.St} {B : Hp} {It l : Addr} {xs : List V} (hh : X.A.handled = none) (ne : l ≠ It) (hs : SqT X.K B l xs) :
    Wk X σ B It l xs (fun i s => s.heap.IsTupleIter It l i ∧ ∃ its : List Value, Vals xs its ∧ s.heap.IsTuple l its.toArray) := by
  have WL : ∀ its : List Value, WalksS X.prog X.w X.A.in1 It [It, l] [It] (fun a b => b = a) its.toArray.size (fun i v => its.toArray[i]? = some v) (fun i s => s.heap.IsTupleIter It l i ∧ s.heap.IsTuple l its.toArray) := fun its => (Walks.tuple (A := X.A.in1) hh It l ne its.toArray).toS
  refine ⟨⟨(WL []).sub, fun _ => rfl, fun _ _ _ a b => b.trans a, ?_, ?_, ?_, ?_⟩, ?_, ?_⟩
  · rintro i s h' tk ⟨h1, its, h2, h3⟩ htk hk
    obtain ⟨a, b⟩ := (WL its).frame i s h' tk ⟨h1, h3⟩ htk hk
    exact ⟨a, its, h2, b⟩
  · rintro i s Q E hi ⟨h1, its, h2, h3⟩ hQ
    refine (WL its).item i s Q E (by rw [List.size_toArray, ← h2.length]; exact hi) ⟨h1, h3⟩ fun v s' hv st hm => ?_
    have hv' : its[i]? = some v := by simpa using hv
    obtain ⟨u, e1, e2⟩ := Vals.get h2 (List.getElem?_eq_getElem hi)
    rw [hv'] at e1
    cases e1
    exact hQ v s' ⟨_, List.getElem?_eq_getElem hi, e2⟩ ⟨st.1, its, h2, st.2⟩ hm
  · rintro s Q E ⟨h1, its, h2, h3⟩ hQ
    have hl : its.toArray.size = xs.length := by rw [List.size_toArray, ← h2.length]
    exact (WL its).done s Q E (by rw [hl]; exact ⟨h1, h3⟩) hQ
  · rintro i s Q E ⟨h1, its, h2, h3⟩ hQ
    exact (WL its).self i s Q E ⟨h1, h3⟩ hQ
  · rintro i s s' pins H' ⟨h1, its, h2, h3⟩ hk I e
    obtain ⟨its', r', hl', _⟩ := I.tuple (ext_t e hs)
    exact ⟨h1.at hk, its', r', hl'⟩
  · rintro i s ⟨⟨o, ho, hc, hd⟩, _⟩
    exact ⟨o, ho, fun v e => by rw [e] at hd; cases hd⟩
/-- the state between two turns -/
structure MJ (X : Cx) (pins : List (Addr × Obj)) (σ : L2.St) (B : Hp) (μ : Mu) (It S : Addr) (B' H' : Hp) (μ' : Mu) (s : Shared) : Prop where
  ex : Ext B B'
  le : ∀ a m, μ a = some m → μ' a = some m
  g : Good X.K B' H' μ'
  I : Inv X pins σ H' s
  hS : H' S = none
  hI : H' It = none
section
variable {X : Cx} {pins : List (Addr × Obj)} {σ : L2.St} {B B' H' : Hp} {μ μ' : Mu} {It S : Addr} {s s' : Shared}
theorem MJ.moved (J : MJ X pins σ B μ It S B' H' μ' s) (fS : ∀ H, H S = none → FpOk X pins H S) (fI : ∀ H, H It = none → FpOk X pins H It) (m : Moved [S, It] (fun a b => b = a) s s') : MJ X pins σ B μ It S B' H' μ' s' := by
  have e : s' = { s with heap := s'.heap, toks := s'.toks } := by
    obtain ⟨hp, g, d, tk, os⟩ := s'
    have h1 : g = s.gens := m.gens
    have h2 : d = s.drawn := m.drawn
    have h3 : os = s.os := m.os
    subst h1 h2 h3
    rfl
  refine ⟨J.ex, J.le, J.g, ?_, J.hS, J.hI⟩
  rw [e]
  refine J.I.turnedL (ch := [S, It]) (fun b o hb q => m.heap b o hb q) fun b hb => ?_
  rcases List.mem_cons.mp hb with rfl | hb
  · exact fS _ J.hS
  · rw [List.mem_singleton.mp hb]
    exact fI _ J.hI
end
section
variable {X : Cx} {k : Nat} {f : Addr} {fd : FuncData} {px : Str} {sd : SpD} {pins : List (Addr × Obj)} {σ : L2.St} {B B' H' : Hp} {μ μ' : Mu} {It S l : Addr} {s : Shared} {xs : List V} {ds : List D} {St : Nat → Shared → Prop} {kd : D → D} {kp : D → PyData}
/-- what the key's def does to an item -/
def KeyFn (sd : SpD) (μ : Mu) (ds : List D) (kd : D → D) : Prop := ∀ x, x ∈ ds → ∀ (μ' : Mu) (Q' : DQ), (∀ a m, μ a = some m → μ' a = some m) → (∀ μ'', (∀ a m, μ' a = some m → μ'' a = some m) → Q' (kd x) μ'') → sd [x] μ' Q' (fun _ _ => False)
theorem key_turn {E : Value → Shared → Prop} (F : FnOk X.prog X.w X.K X.mg X.base (L2.CX X.prog X.w) k f fd [px] (upSp X.K sd)) (hb : L2.Binds X.K fd [px] []) (hr : Room (k + 1) X.A) (turn : KeyFn sd μ ds kd) (wk : Wk X σ B It l xs St)
    (fS : ∀ H, H S = none → FpOk X pins H S) (fI : ∀ H, H It = none → FpOk X pins H It) (J : MJ X pins σ B μ It S B' H' μ' s) {i : Nat} {oS : Obj} {x : D} {vx : V} {v : Value} (st : St i s) (hS : s.heap.get? S = some oS) (nS : ∀ v, oS.data ≠ .cell v) (hx : x ∈ ds) (r : RelV vx v) (rx : Rp X.K B vx x) :
    wpAny (model X.prog X.w) X.A.in1 (call (.ref f) [v]) (fun kx s2 => ∃ B2 H2 μ2 y, MJ X pins σ B μ It S B2 H2 μ2 s2 ∧ Ext B' B2 ∧ St i s2 ∧ s2.heap.get? S = some oS ∧ RelV y kx ∧ Rp X.K B2 y (kd x)) E s := by
  obtain ⟨oI, hI, nI⟩ := wk.obj i s st
  have I1 : Inv X ((S, oS) :: (It, oI) :: pins) σ H' s := J.I.pins_of fun p hp => by
    rcases List.mem_cons.mp hp with rfl | hp
    · obtain ⟨a, b, c, _⟩ := fS _ J.hS
      exact ⟨hS, J.hS, b, c, nS⟩
    · rcases List.mem_cons.mp hp with rfl | hp
      · obtain ⟨a, b, c, _⟩ := fI _ J.hI
        exact ⟨hI, J.hI, b, c, nI⟩
      · exact J.I.pin p (List.mem_append_right _ hp)
  have bd := hb s [v] J.I.kIn rfl
  rw [List.append_nil] at bd
  have sp : upSp X.K sd [vx] H' (fun y H2 => ∃ B2 μ2, Ext B' B2 ∧ (∀ a m, μ' a = some m → μ2 a = some m) ∧ Good X.K B2 H2 μ2 ∧ Rp X.K B2 y (kd x)) (fun _ _ _ => False) :=
    ⟨B', [x], μ', fun d μ2 => d = kd x ∧ ∀ a m, μ' a = some m → μ2 a = some m, fun _ _ => False, J.g, .cons (rx.mono J.ex) .nil, turn x hx μ' _ J.le (fun μ2 hl => ⟨rfl, hl⟩),
      ⟨fun y d H2 B2 μ2 e g r ⟨q1, q2⟩ => ⟨B2, μ2, e, q2, g, q1 ▸ r⟩⟩, ⟨fun _ _ _ _ _ _ _ _ _ q => q.elim⟩⟩
  refine wpAny_call (codeAny_mono (F.run X.A.in1 X.stack s H' ⟨[v], []⟩ [v] [vx] _ _ hr.in1 I1.env0.in1 bd (.cons r .nil) sp) fun r s' hq => ?_)
  cases r with
  | error e =>
    obtain ⟨_, _, _, _, _, _, _, _, _, _, _, _, h⟩ := hq
    exact h.elim
  | ok fl =>
    cases fl with
    | next => exact False.elim hq
    | brk => exact False.elim hq
    | cont => exact False.elim hq
    | ret u =>
      obtain ⟨y, H2, I2, ry, B2, μ2, e2, l2, g2, rp⟩ := I1.after hq
      have pS := I2.pin (S, oS) (List.mem_append_right _ (List.mem_cons_self ..))
      have pI := I2.pin (It, oI) (List.mem_append_right _ (List.mem_cons_of_mem _ (List.mem_cons_self ..)))
      have I3 : Inv X pins σ H2 s' := I2.pins_of fun p hp => I2.pin p (List.mem_append_right _ (List.mem_cons_of_mem _ (List.mem_cons_of_mem _ hp)))
      exact ⟨B2, H2, μ2, y, ⟨J.ex.trans e2, fun a m h => l2 a m (J.le a m h), g2, I3, pS.2.1, pI.2.1⟩, e2, wk.again i s s' pins H2 st (fun o ho => by rw [hI] at ho; cases ho; exact pI.1) I3 ((J.ex.trans e2).trans g2.ex), pS.1, ry, rp⟩
/-- the items' keys, compared -/
def kLt (kp : D → PyData) (ds : List D) (i j : Nat) : Bool := PySem.W.dataLt (kp (ds.getD i .non)) (kp (ds.getD j .non))
structure KeysOk (kd : D → D) (kp : D → PyData) (ds : List D) : Prop where
  py : ∀ x, x ∈ ds → (kd x).py = some (kp x)
  dp : ∀ x, x ∈ ds → (kp x).depth ≤ 64 ∧ kp x ≠ .none
  al : ∀ x, x ∈ ds → ∀ y, y ∈ ds → PySem.W.alike (kp x) (kp y) = true
theorem getD_in {ds : List D} {i : Nat} (h : i < ds.length) : ds.getD i .non ∈ ds := by
  rw [List.getD_eq_getElem?_getD, List.getElem?_eq_getElem h]
  exact List.getElem_mem h
theorem best_le (bt : Nat → Nat → Bool) : ∀ k, argBest bt k ≤ k
  | 0 => Nat.le_refl _
  | k + 1 => by
    have := best_le bt k
    unfold argBest
    split
    · exact Nat.le_refl _
    · omega
theorem key_cmp {E : Value → Shared → Prop} {Q : Value → Shared → Prop} (ok : KeysOk kd kp ds) (hu : X.A.units + 200 < cLine) (I : Inv X pins σ H' s) (g : Good X.K B' H' μ') {x y : D} {vx vy : V} {u v : Value} (hx : x ∈ ds) (hy : y ∈ ds) (rx : Rp X.K B' vx (kd x)) (ry : Rp X.K B' vy (kd y)) (ru : RelV vx u) (rv : RelV vy v)
    (q : Q (.bool (PySem.W.dataLt (kp x) (kp y))) s) : wpAny (model X.prog X.w) X.A.in1 (richCompare .Lt u v) Q E s := by
  obtain ⟨as, r1⟩ := Dp.reads I _ _ _ (Dp.ext g.ex (rx.dp (ok.py x hx))) ru
  obtain ⟨bs, r2⟩ := Dp.reads I _ _ _ (Dp.ext g.ex (ry.dp (ok.py y hy))) rv
  have m := Nat.min_le_left (kp x).depth (kp y).depth
  have d := (ok.dp x hx).1
  exact PySem.W.rcLt_alike (kp x) (kp y) X.A.in1 s u v as bs r1 r2 (ok.al x hx y hy) (ok.dp x hx).2 (by show X.A.units + 1 + _ < _; omega) X.prog X.w _ _ q
theorem upd_moved {fS' : Array Value → Array Value} (hS : S ∈ [S, It]) : Moved [S, It] (fun a b => b = a) s { s with heap := s.heap.update S (Obj.mapSeq fS'), toks := s.toks } :=
  (Moved.refl (G := fun a b => b = a) fun _ => rfl).then_heap (tk := s.toks) (Nat.le_refl _) fun b o hb e => (Heap.get?_update_other _ _ (fun h => hb (by rw [← h]; exact hS))).trans e
theorem min_loop {R : Result → Shared → Prop} (F : FnOk X.prog X.w X.K X.mg X.base (L2.CX X.prog X.w) k f fd [px] (upSp X.K sd)) (hb : L2.Binds X.K fd [px] []) (hr : Room (k + 1) X.A) (turn : KeyFn sd μ ds kd) (ok : KeysOk kd kp ds) (wk : Wk X σ B It l xs St) (rl : RpL X.K B xs ds)
    (fS : ∀ H, H S = none → FpOk X pins H S) (fI : ∀ H, H It = none → FpOk X pins H It) (nSf : S ∉ [It, l]) (kw : List (Str × Value))
    (fin : ∀ v s', (∃ x, xs[argBest (kLt kp ds) (ds.length - 1)]? = some x ∧ RelV x v) → (∃ B' H' μ', MJ X pins σ B μ It S B' H' μ' s') → R (.ok (.ret v)) s') :
    ∀ (n j : Nat) (s : Shared) (vb kb : Value) (c : Nat) (B' H' : Hp) (μ' : Mu) (yb : V), ds.length - (j + 1) = n → j + 1 ≤ ds.length → MJ X pins σ B μ It S B' H' μ' s → St (j + 1) s → (∃ x, xs[argBest (kLt kp ds) j]? = some x ∧ RelV x vb) →
      RelV yb kb → Rp X.K B' yb (kd (ds.getD (argBest (kLt kp ds) j) .non)) → s.heap.get? S = some { cls := .type "list", dict := none, data := .seq #[vb, kb] c, slots := #[] } →
      codeAny (model X.prog X.w) X.A (.builtin "min.loop" ⟨[.ref It, .ref f, .ref S], kw⟩) R s := by
  have W := wk.W
  have hlen := rl.length
  have nS : S ≠ It := fun h => nSf (by rw [h]; exact List.mem_cons_self ..)
  have hSw : S ∉ [It] := fun h => nS (List.mem_singleton.mp h)
  have hsub : ∀ b ∈ [It], b ∈ [S, It] := fun b hb => List.mem_cons_of_mem _ hb
  have hname : (toString "min" ++ toString ".loop" : String) = "min.loop" := by decide
  have hu := hr.un
  intro n
  induction n with
  | zero =>
    intro j s vb kb c B' H' μ' yb hk hj J st hPb ryb rpb hS
    have hin : j + 1 = ds.length := by omega
    refine codeAny_builtin PySem.F.entry_min_loop ?_
    rw [Around.under_plainId PySem.F.plain_min_loop _]
    show wpAny _ X.A.in1 (seqItems? (.ref S) >>= _) _ _ s
    refine wpAny_bind (wpAny_seqItems hS rfl ?_)
    show wpAny _ X.A.in1 (tryCatch (pyNext (.ref It)) _ >>= _) _ _ s
    refine wpAny_bind (wpAny_tryCatch (W.done s _ _ (by rw [hlen, ← hin]; exact st) fun s' hm => ?_))
    have hS' := hm.heap S _ hSw hS
    have J' := J.moved fS fI (hm.mono hsub)
    show wpAny _ X.A.in1 (updateSeq S (fun _ => #[]) >>= _) _ _ _
    refine wpAny_bind ?_
    refine wpAny_updateSeq hS' rfl (wpAny_bind (wpAny_letGo (wpAny_pure ?_)))
    exact fin vb _ (by rw [show ds.length - 1 = j by omega]; exact hPb) ⟨B', H', μ', J'.moved fS fI (upd_moved (List.mem_cons_self ..))⟩
  | succ n ih =>
    intro j s vb kb c B' H' μ' yb hk hj J st hPb ryb rpb hS
    have hlt : j + 1 < ds.length := by omega
    have bl : argBest (kLt kp ds) j < ds.length := Nat.lt_of_le_of_lt (best_le _ j) (by omega)
    refine codeAny_builtin PySem.F.entry_min_loop ?_
    rw [Around.under_plainId PySem.F.plain_min_loop _]
    show wpAny _ X.A.in1 (seqItems? (.ref S) >>= _) _ _ s
    refine wpAny_bind (wpAny_seqItems hS rfl ?_)
    show wpAny _ X.A.in1 (tryCatch (pyNext (.ref It)) _ >>= _) _ _ s
    refine wpAny_bind (wpAny_tryCatch (W.item (j + 1) s _ _ (by rw [hlen]; exact hlt) st fun v s' hP st' hm => ?_))
    have hS' := hm.heap S _ hSw hS
    have J' := J.moved fS fI (hm.mono hsub)
    obtain ⟨vx, hvx, rvx⟩ := hP
    obtain ⟨x, hx, rpx⟩ := rl.get' hvx
    have hxd : ds.getD (j + 1) .non = x := by rw [List.getD_eq_getElem?_getD, hx]; rfl
    show wpAny _ X.A.in1 (tryCatch (holding [v] (call (.ref f) [v])) _ >>= _) _ _ _
    refine wpAny_bind (wpAny_tryCatch (wpAny_holding (wpAny_mono (key_turn (E := fun _ _ => False) F hb hr turn wk fS fI J' st' hS' (fun v e => by cases e) (List.mem_of_getElem? hx) rvx rpx) (fun kx s2 h2 => ?_) fun _ _ e => e.elim)))
    obtain ⟨B2, H2, μ2, y, J2, e2, st2, hS2, ry, rpy⟩ := h2
    show wpAny _ X.A.in1 (tryCatch (holding [v, kx] (richCompare .Lt kx kb >>= _)) _ >>= _) _ _ _
    refine wpAny_bind (wpAny_tryCatch (wpAny_holding (wpAny_bind (key_cmp ok (by omega) J2.I J2.g (List.mem_of_getElem? hx) (getD_in bl) rpy (rpb.mono e2) ry ryb ?_))))
    refine wpAny_bind (wpAny_holding (wpAny_truthy_bool ?_))
    refine wpAny_bind (wpAny_letGo (wpAny_pure ?_))
    have hbt : kLt kp ds (j + 1) (argBest (kLt kp ds) j) = PySem.W.dataLt (kp x) (kp (ds.getD (argBest (kLt kp ds) j) .non)) := by
      unfold kLt
      rw [hxd]
    rw [← hbt]
    cases hb2 : kLt kp ds (j + 1) (argBest (kLt kp ds) j) with
    | true =>
      have eb : argBest (kLt kp ds) (j + 1) = j + 1 := by simp only [argBest, hb2, if_true]
      simp only [if_true]
      refine wpAny_bind ?_
      refine wpAny_updateSeq hS2 rfl (wpAny_bind (wpAny_letGo ?_))
      rw [hname]
      refine wpAny_pure ⟨plainId_quiet PySem.F.plain_min_loop _, ih (j + 1) _ v kx _ B2 H2 μ2 y (by omega) hlt (J2.moved fS fI (upd_moved (List.mem_cons_self ..))) (W.frame _ s2 _ s2.toks st2 (Nat.le_refl _) fun b hbf o e => ?_) (by rw [eb]; exact ⟨vx, hvx, rvx⟩) ry (by rw [eb, hxd]; exact rpy) (Heap.get?_update_self _ hS2 rfl)⟩
      exact (Heap.get?_update_other _ _ (fun h : S = b => nSf (by rw [h]; exact hbf))).trans e
    | false =>
      have eb : argBest (kLt kp ds) (j + 1) = argBest (kLt kp ds) j := by simp only [argBest, hb2, Bool.false_eq_true, if_false]
      simp only [Bool.false_eq_true, if_false]
      refine wpAny_bind (wpAny_letGo ?_)
      rw [hname]
      exact wpAny_pure ⟨plainId_quiet PySem.F.plain_min_loop _, ih (j + 1) _ vb kb c B2 H2 μ2 yb (by omega) hlt J2 st2 (by rw [eb]; exact hPb) ryb (by rw [eb]; exact rpb.mono e2) hS2⟩
theorem min_first {R : Result → Shared → Prop} (F : FnOk X.prog X.w X.K X.mg X.base (L2.CX X.prog X.w) k f fd [px] (upSp X.K sd)) (hb : L2.Binds X.K fd [px] []) (hr : Room (k + 1) X.A) (turn : KeyFn sd μ ds kd) (ok : KeysOk kd kp ds) (wk : Wk X σ B It l xs St) (rl : RpL X.K B xs ds)
    (fS : ∀ H, H S = none → FpOk X pins H S) (fI : ∀ H, H It = none → FpOk X pins H It) (nSf : S ∉ [It, l]) (kw : List (Str × Value)) (n0 : 0 < ds.length) {c : Nat} (J : MJ X pins σ B μ It S B' H' μ' s) (st : St 0 s)
    (hS : s.heap.get? S = some { cls := .type "list", dict := none, data := .seq #[] c, slots := #[] })
    (fin : ∀ v s', (∃ x, xs[argBest (kLt kp ds) (ds.length - 1)]? = some x ∧ RelV x v) → (∃ B' H' μ', MJ X pins σ B μ It S B' H' μ' s') → R (.ok (.ret v)) s') :
    codeAny (model X.prog X.w) X.A (.builtin "min.loop" ⟨[.ref It, .ref f, .ref S], kw⟩) R s := by
  have W := wk.W
  have hlen := rl.length
  have nS : S ≠ It := fun h => nSf (by rw [h]; exact List.mem_cons_self ..)
  have hSw : S ∉ [It] := fun h => nS (List.mem_singleton.mp h)
  have hsub : ∀ b ∈ [It], b ∈ [S, It] := fun b hb => List.mem_cons_of_mem _ hb
  have hname : (toString "min" ++ toString ".loop" : String) = "min.loop" := by decide
  refine codeAny_builtin PySem.F.entry_min_loop ?_
  rw [Around.under_plainId PySem.F.plain_min_loop _]
  show wpAny _ X.A.in1 (seqItems? (.ref S) >>= _) _ _ s
  refine wpAny_bind (wpAny_seqItems hS rfl ?_)
  show wpAny _ X.A.in1 (tryCatch (pyNext (.ref It)) _ >>= _) _ _ s
  refine wpAny_bind (wpAny_tryCatch (W.item 0 s _ _ (by rw [hlen]; exact n0) st fun v s' hP st' hm => ?_))
  have hS' := hm.heap S _ hSw hS
  have J' := J.moved fS fI (hm.mono hsub)
  obtain ⟨vx, hvx, rvx⟩ := hP
  obtain ⟨x, hx, rpx⟩ := rl.get' hvx
  have hxd : ds.getD 0 .non = x := by rw [List.getD_eq_getElem?_getD, hx]; rfl
  show wpAny _ X.A.in1 (tryCatch (holding [v] (call (.ref f) [v])) _ >>= _) _ _ _
  refine wpAny_bind (wpAny_tryCatch (wpAny_holding (wpAny_mono (key_turn (E := fun _ _ => False) F hb hr turn wk fS fI J' st' hS' (fun v e => by cases e) (List.mem_of_getElem? hx) rvx rpx) (fun kx s2 h2 => ?_) fun _ _ e => e.elim)))
  obtain ⟨B2, H2, μ2, y, J2, e2, st2, hS2, ry, rpy⟩ := h2
  show wpAny _ X.A.in1 (updateSeq S (fun _ => #[v, kx]) >>= _) _ _ _
  refine wpAny_bind ?_
  refine wpAny_updateSeq hS2 rfl ?_
  rw [hname]
  refine wpAny_pure ⟨plainId_quiet PySem.F.plain_min_loop _, min_loop F hb hr turn ok wk rl fS fI nSf kw fin _ 0 _ v kx _ B2 H2 μ2 y rfl n0 (J2.moved fS fI (upd_moved (List.mem_cons_self ..))) (W.frame _ s2 _ s2.toks st2 (Nat.le_refl _) fun b hbf o e => ?_) ⟨vx, hvx, rvx⟩ ry (by show Rp X.K B2 y (kd (ds.getD 0 .non)); rw [hxd]; exact rpy) (Heap.get?_update_self _ hS2 rfl)⟩
  exact (Heap.get?_update_other _ _ (fun h : S = b => nSf (by rw [h]; exact hbf))).trans e
theorem min_key {Q : VK} (F : FnOk X.prog X.w X.K X.mg X.base (L2.CX X.prog X.w) k f fd [px] (upSp X.K sd)) (hb : L2.Binds X.K fd [px] []) (hr : Room (k + 1) X.A) (turn : KeyFn sd μ ds kd) (ok : KeysOk kd kp ds) (I : Inv X pins σ H' s) (g : Good X.K B H' μ)
    (hs : SqL X.K B l xs ∨ SqT X.K B l xs) (rl : RpL X.K B xs ds) (n0 : 0 < ds.length) (q : ∀ (x : D) (v : V) (B2 H2 : Hp) (μ2 : Mu), ds[argBest (kLt kp ds) (ds.length - 1)]? = some x → Rp X.K B2 v x → Ext B B2 → Good X.K B2 H2 μ2 → (∀ a m, μ a = some m → μ2 a = some m) → Q v H2) :
    wpAny (model X.prog X.w) X.A (call (.builtin "min") [.ref l] [(Str.ofString "key", .ref f)]) (EP X pins σ Q) X.xe s := by
  have hname : (toString "min" ++ toString ".loop" : String) = "min.loop" := by decide
  have hlt : l < s.heap.objs.size := by
    rcases hs with hs | hs
    · obtain ⟨its, _, ⟨o, _, ho, _⟩, _⟩ := I.list (ext_l g.ex hs)
      exact Heap.lt_size ho
    · obtain ⟨its, _, ⟨o, ho, _⟩, _⟩ := I.tuple (ext_t g.ex hs)
      exact Heap.lt_size ho
  refine PyProof.Rows.kmk_tree PySem.F.kind_min PySem.F.plain_min PySem.F.entry_min (PyProof.Rows.kmk_min_key _ _) ?_
  show wpAny _ X.A.in1 (Builtin.Builtins.bindParams "min" ["key", "default"] 0 ⟨[], [(Str.ofString "key", .ref f)]⟩ >>= _) _ _ s
  refine wpAny_bind (wpAny_of_eq (show Builtin.Builtins.bindParams "min" ["key", "default"] 0 ⟨[], [(Str.ofString "key", .ref f)]⟩ = pure [some (.ref f), none] from rfl) ?_)
  refine wpAny_bind (wpAny_pure ?_)
  have go : ∀ (o : Obj) (St : Nat → Shared → Prop), Wk X σ B s.heap.objs.size l xs St → St 0 { s with heap := s.heap.push o } → ∀ {R : Result → Shared → Prop} (kw : List (Str × Value)),
      (∀ u s', EP X pins σ Q u s' → R (.ok (.ret u)) s') → codeAny (model X.prog X.w) X.A (.builtin "min.loop" ⟨[.ref s.heap.objs.size, .ref f, .ref (s.heap.push o).objs.size], kw⟩) R { s with heap := (s.heap.push o).push { cls := .type "list", data := .seq #[] 0 } } := by
    intro o St wk st0 R kw hR
    have e1 : (s.heap.push o).objs.size = s.heap.objs.size + 1 := Heap.size_push ..
    rw [show (s.heap.push o).objs.size = s.heap.objs.size + 1 from e1]
    have fI : ∀ H, H s.heap.objs.size = none → FpOk X pins H s.heap.objs.size := fun H h => I.fpOk (Nat.le_refl _) h
    have fS : ∀ H, H (s.heap.objs.size + 1) = none → FpOk X pins H (s.heap.objs.size + 1) := fun H h => I.fpOk (Nat.le_succ _) h
    have I2 : Inv X pins σ H' { s with heap := (s.heap.push o).push { cls := .type "list", data := .seq #[] 0 } } := I.kept (t' := s.toks) fun b u e => Heap.get?_push_of_some _ (Heap.get?_push_of_some _ e)
    refine min_first (It := s.heap.objs.size) (S := s.heap.objs.size + 1) F hb hr turn ok wk rl fS fI (fun h => ?_) kw n0 (c := 0) ⟨Ext.rfl', fun _ _ h => h, g, I2, I.hok.fresh (Nat.le_succ _), I.hok.fresh (Nat.le_refl _)⟩ (wk.W.frame 0 { s with heap := s.heap.push o } _ s.toks st0 (Nat.le_refl _) fun b _ u e => Heap.get?_push_of_some _ e) ?_ fun v s' hv hJ => ?_
    · rcases List.mem_cons.mp h with h | h
      · exact absurd h (Nat.succ_ne_self _)
      · exact absurd (List.mem_singleton.mp h) (Nat.ne_of_gt (Nat.lt_succ_of_lt hlt))
    · rw [← e1]
      exact Heap.get?_push_size _ rfl
    · obtain ⟨x, hx, rx⟩ := hv
      obtain ⟨B2, H2, μ2, J⟩ := hJ
      obtain ⟨d, hd, rd⟩ := rl.get' hx
      exact hR v s' ⟨x, H2, J.I, rx, q d x B2 H2 μ2 hd (rd.mono J.ex) J.ex J.g J.le⟩
  rcases hs with hs | hs
  · obtain ⟨its, rv, hl, _⟩ := I.list (ext_l g.ex hs)
    refine wpAny_bind (wpAny_pyIter_list hl.isList ?_)
    refine wpAny_bind (wpAny_newObj_type ?_)
    rw [hname]
    exact wpAny_pure ⟨plainId_quiet PySem.F.plain_min_loop _, go _ _ (wk_list hr.hd (Nat.ne_of_lt hlt) hs) ⟨⟨_, Heap.get?_push_size _ rfl, rfl, rfl⟩, its, rv, hl.isList.push _⟩ _ fun u s' h => h⟩
  · obtain ⟨its, rv, hl, _⟩ := I.tuple (ext_t g.ex hs)
    refine wpAny_bind (wpAny_pyIter_tuple hl ?_)
    refine wpAny_bind (wpAny_newObj_type ?_)
    rw [hname]
    exact wpAny_pure ⟨plainId_quiet PySem.F.plain_min_loop _, go _ _ (wk_tup hr.hd (Nat.ne_of_lt hlt) hs) ⟨⟨_, Heap.get?_push_size _ rfl, rfl, rfl⟩, its, rv, hl.push _⟩ _ fun u s' h => h⟩
end
/-- min(d, key=f) -/
def stillOf : D → Option (List D)
  | .tup ds => some ds
  | .lst ds => some ds
  | .arg ds => some ds
  | _ => none
def dMinK (sd : SpD) (da : DE) : DE := fun ρ μ Q E => da ρ μ (fun d μ1 => ∃ ds kd kp, stillOf d = some ds ∧ 0 < ds.length ∧ KeyFn sd μ1 ds kd ∧ KeysOk kd kp ds ∧
  ∀ x μ2, ds[argBest (kLt kp ds) (ds.length - 1)]? = some x → (∀ a m, μ1 a = some m → μ2 a = some m) → Q x μ2) E
theorem still_R {K : PySem.W.Frag} {B : Hp} {v : V} {d : D} {ds : List D} (r : Rp K B v d) (h : stillOf d = some ds) : ∃ l xs, v = .ref l ∧ (SqL K B l xs ∨ SqT K B l xs) ∧ RpL K B xs ds := by
  cases r with
  | lst h1 h2 => cases h; exact ⟨_, _, rfl, .inl (.inl h1), h2⟩
  | arg h1 h2 => cases h; exact ⟨_, _, rfl, .inl h1, h2⟩
  | tup h1 h2 => cases h; exact ⟨_, _, rfl, .inr h1, h2⟩
  | _ => cases h
section
variable {X : Cx} {W : WX} {e : Expr} {da : DE} {pos : Pos}
theorem re_minK {k : Nat} {st : Stmt} {px : Str} {sd : SpD} {x : Str} {p p2 kpos : Pos} (F : Def X.prog X.w X.K X.mg X.base k x st [px] sd) (hr : Room (k + 1) X.A) (hg : Gl X "min") (hm : X.mg "min" = none) (ha : RE X W e da) (hg2 : Gl X x := by rfl) (hd2 : (x == ("__debug__" : Str)) = false := by decide)
    (he : backTo pos (starEach [e] X.env) = (false, eval e X.env) :: backTo pos (starEach [] X.env) := by rfl) (hpl : (backTo pos (starEach [e] X.env)).any (·.1) = false := by rfl)
    (hse : starEach [e] X.env = (false, eval e X.env) :: starEach [] X.env := by rfl)
    (hall : (backToKw pos (keywordEach [⟨some "key", .Name x p2, kpos⟩] X.env)).all (·.1.isSome) = true := by rfl) (hnone : (backToKw pos (keywordEach [⟨some "key", .Name x p2, kpos⟩] X.env)).any (·.1.isNone) = false := by rfl)
    (hks : (backToKw pos (keywordEach [⟨some "key", .Name x p2, kpos⟩] X.env)).filterMap (·.1) = [Str.ofString "key"] := by rfl) :
    RE X W (.Call (.Name "min" p) [e] [⟨some "key", .Name x p2, kpos⟩] pos) (dMinK sd da) := by
  obtain ⟨f, fd, hf, _, hb, G⟩ := F.ex
  have hc : CallRK X (.builtin "min") [Str.ofString "key"] (fun vs zs H Q => zs = [.ref f] ∧ ∃ B μ l xs ds kd kp, vs = [.ref l] ∧ Good X.K B H μ ∧ (SqL X.K B l xs ∨ SqT X.K B l xs) ∧ RpL X.K B xs ds ∧ 0 < ds.length ∧ KeyFn sd μ ds kd ∧ KeysOk kd kp ds ∧
      ∀ (x : D) (v : V) (B2 H2 : Hp) (μ2 : Mu), ds[argBest (kLt kp ds) (ds.length - 1)]? = some x → Rp X.K B2 v x → Ext B B2 → Good X.K B2 H2 μ2 → (∀ a m, μ a = some m → μ2 a = some m) → Q v H2) := by
    intro pins s σ H vs zs us ws Q I r rz h
    obtain ⟨rfl, B, μ, l, xs, ds, kd, kp, rfl, g, hs, rl, n0, turn, ok, q⟩ := h
    obtain rfl := Vals.ref1 r
    obtain rfl := Vals.ref1 rz
    exact min_key G hb hr turn ok I g hs rl n0 q
  refine ⟨PE.imp (pe_callBK hc hg hm bx_min (pa_cons ha.pe pa_nil hse) (pk_cons (pe_glob (v := .ref f) hg2 hf rfl hd2) pk_nil) (by decide) (by decide) he hpl hall hnone hks) fun σ H Q q => ?_⟩
  obtain ⟨B, ρ, μ, QD, QE, gd, s, q, kk, x⟩ := q
  refine ⟨B, ρ, μ, _, QE, gd, s, q, ⟨fun v d H1 B1 μ1 e1 g1 r1 q1 => ?_⟩, x⟩
  obtain ⟨ds, kd, kp, h1, n0, turn, ok, q1⟩ := q1
  obtain ⟨l, xs, rfl, hs, rl⟩ := still_R r1 h1
  exact ⟨rfl, B1, μ1, l, xs, ds, kd, kp, rfl, g1, hs, rl, n0, turn, ok, fun x v B2 H2 μ2 hx rx e2 g2 l2 => kk.ok v x H2 B2 μ2 (e1.trans e2) g2 rx (q1 x μ2 hx l2)⟩
end
end DL

/-! Plain law: free words. -/
namespace DL
/-- the letter that undoes l -/
def bk (bs : List Int) (l : Int) : Int := bs.getD l.toNat 0
theorem bk_back {bs : List Int} (B : BackI bs) {l : Int} (h0 : 0 ≤ l) (h1 : l < bs.length) : 0 ≤ bk bs l ∧ bk bs l < bs.length ∧ bk bs (bk bs l) = l := by
  have m := B.lets (bk bs l) (getD_mem' (by omega))
  refine ⟨m.1, m.2, ?_⟩
  have := B.inv l.toNat (by omega)
  unfold bk
  rw [this]
  omega
theorem fr_nil {bs : List Int} {l : Int} : frStep bs [] l = [l] := by unfold frStep; rw [if_neg (by simp)]; rfl
theorem fr_snoc {bs st : List Int} {t l : Int} : frStep bs (st ++ [t]) l = if t = bk bs l then st else st ++ [t, l] := by
  unfold frStep bk
  have e1 : (st ++ [t]).length - 1 = st.length := by simp
  have e : (st ++ [t]).getD ((st ++ [t]).length - 1) 0 = t := by
    rw [e1, List.getD_eq_getElem?_getD, List.getElem?_append_right (Nat.le_refl _)]
    simp
  rw [e]
  by_cases c : t = bs.getD l.toNat 0
  · rw [if_pos ⟨by simp, c⟩, if_pos c]
    simp
  · rw [if_neg (fun h => c h.2), if_neg c]
    simp
/-- no letter stands behind the one that it undoes -/
inductive Rdc (bs : List Int) : List Int → Prop
  | nil : Rdc bs []
  | one (x : Int) : Rdc bs [x]
  | snoc {st : List Int} {t l : Int} : Rdc bs (st ++ [t]) → t ≠ bk bs l → Rdc bs (st ++ [t, l])
theorem rdc_snoc {bs st : List Int} {t l : Int} (h : Rdc bs (st ++ [t, l])) : Rdc bs (st ++ [t]) ∧ t ≠ bk bs l := by
  generalize e : st ++ [t, l] = w at h
  cases h with
  | nil => simp at e
  | one x =>
    have := congrArg List.length e
    simp at this
  | @snoc st' t' l' h1 h2 =>
    have e' : (st ++ [t]) ++ [l] = (st' ++ [t']) ++ [l'] := by simpa using e
    obtain ⟨a, b⟩ := List.append_inj' e' rfl
    obtain ⟨c, d⟩ := List.append_inj' a rfl
    cases b
    cases d
    subst c
    exact ⟨h1, h2⟩
theorem rdc_init {bs st : List Int} {t : Int} (h : Rdc bs (st ++ [t])) : Rdc bs st := by
  rcases List.eq_nil_or_concat st with rfl | ⟨s0, x, rfl⟩
  · exact .nil
  · rw [List.concat_eq_append] at h ⊢
    exact (rdc_snoc (by simpa using h)).1
theorem rdc_step {bs st : List Int} (h : Rdc bs st) (l : Int) : Rdc bs (frStep bs st l) := by
  rcases List.eq_nil_or_concat st with rfl | ⟨s0, x, rfl⟩
  · rw [fr_nil]; exact .one _
  · rw [List.concat_eq_append] at h ⊢
    rw [fr_snoc]
    split
    · exact rdc_init h
    · rename_i c
      exact .snoc h c
theorem rdc_fold {bs : List Int} : ∀ (ws : List Int) {st : List Int}, Rdc bs st → Rdc bs (ws.foldl (frStep bs) st)
  | [], _, h => h
  | w :: ws, _, h => rdc_fold ws (rdc_step h w)
theorem rdc_free (bs ws : List Int) : Rdc bs (freeI bs ws) := rdc_fold ws .nil
/-- two steps that undo each other -/
theorem fr_pair {bs st : List Int} (B : BackI bs) (h : Rdc bs st) {x : Int} (h0 : 0 ≤ x) (h1 : x < bs.length) : frStep bs (frStep bs st x) (bk bs x) = st := by
  obtain ⟨b0, b1, b2⟩ := bk_back B h0 h1
  rcases List.eq_nil_or_concat st with rfl | ⟨s0, t, rfl⟩
  · rw [fr_nil]
    have := fr_snoc (bs := bs) (st := []) (t := x) (l := bk bs x)
    rw [List.nil_append] at this
    rw [this, if_pos b2.symm]
  · rw [List.concat_eq_append] at h ⊢
    rw [fr_snoc]
    by_cases c : t = bk bs x
    · rw [if_pos c]
      rcases List.eq_nil_or_concat s0 with rfl | ⟨s1, u, rfl⟩
      · rw [fr_nil, c]; rfl
      · rw [List.concat_eq_append] at h ⊢
        have h' := (rdc_snoc (show Rdc bs (s1 ++ [u, t]) by simpa using h)).2
        rw [fr_snoc, if_neg, c]
        · simp
        · rw [← c]; exact h'
    · rw [if_neg c]
      rw [show s0 ++ [t, x] = (s0 ++ [t]) ++ [x] by simp, fr_snoc, if_pos b2.symm]
theorem free_pair {bs u v : List Int} (B : BackI bs) {x : Int} (h0 : 0 ≤ x) (h1 : x < bs.length) : freeI bs (u ++ [x, bk bs x] ++ v) = freeI bs (u ++ v) := by
  unfold freeI
  rw [List.foldl_append, List.foldl_append, List.foldl_append]
  congr 1
  exact fr_pair B (rdc_free bs u) h0 h1
theorem free_rdc {bs : List Int} : ∀ {ws : List Int}, Rdc bs ws → freeI bs ws = ws := by
  intro ws h
  induction h with
  | nil => rfl
  | one x => exact fr_nil (bs := bs)
  | @snoc st t l h1 h2 ih =>
    unfold freeI at ih ⊢
    rw [show st ++ [t, l] = (st ++ [t]) ++ [l] by simp, List.foldl_append, ih]
    show frStep bs (st ++ [t]) l = _
    rw [fr_snoc, if_neg h2]
    simp
theorem free_free (bs ws : List Int) : freeI bs (freeI bs ws) = freeI bs ws := free_rdc (rdc_free bs ws)
/-- a word none of whose letters undoes the one ahead -/
theorem rdc_of {bs : List Int} (B : BackI bs) : ∀ (ws : List Int), Lets bs.length ws → (∀ k : Nat, k + 1 < ws.length → ws.getD (k + 1) 0 ≠ bk bs (ws.getD k 0)) → Rdc bs ws := by
  intro ws
  induction h : ws.length generalizing ws with
  | zero =>
    intro _ _
    rw [List.length_eq_zero_iff.mp h]
    exact .nil
  | succ n ih =>
    intro hl hk
    rcases List.eq_nil_or_concat ws with rfl | ⟨s0, x, rfl⟩
    · cases h
    · rw [List.concat_eq_append] at *
      rcases List.eq_nil_or_concat s0 with rfl | ⟨s1, t, rfl⟩
      · exact .one x
      · rw [List.concat_eq_append] at *
        have r1 : Rdc bs (s1 ++ [t]) := by
          refine ih (s1 ++ [t]) (by simpa using h) (fun l hm => hl l (by simp at hm ⊢; rcases hm with hm | hm <;> simp [hm])) fun k hk' => ?_
          have hn : (s1 ++ [t]).length = n := by simpa using h
          have := hk k (by omega)
          have g : ∀ j, j < n → ((s1 ++ [t]) ++ [x]).getD j 0 = (s1 ++ [t]).getD j 0 := fun j hj => by
            rw [List.getD_eq_getElem?_getD, List.getD_eq_getElem?_getD, List.getElem?_append_left (by omega)]
          rw [g k (by omega), g (k + 1) (by omega)] at this
          exact this
        rw [show (s1 ++ [t]) ++ [x] = s1 ++ [t, x] by simp] at hl hk ⊢
        refine .snoc r1 fun e => ?_
        have := hk s1.length (by simp at h; omega)
        rw [List.getD_eq_getElem?_getD, List.getD_eq_getElem?_getD, List.getElem?_append_right (by omega), List.getElem?_append_right (by omega)] at this
        simp at this
        apply this
        have lx := hl x (by simp)
        rw [e, (bk_back B lx.1 lx.2).2.2]
theorem undo_append (bs u v : List Int) : undoI bs (u ++ v) = undoI bs v ++ undoI bs u := by
  unfold undoI
  rw [List.reverse_append, List.map_append]
theorem undo_lets {bs ws : List Int} (B : BackI bs) (h : Lets bs.length ws) : Lets bs.length (undoI bs ws) := fun l hl => by
  unfold undoI at hl
  obtain ⟨x, hx, rfl⟩ := List.mem_map.mp hl
  have := h x (List.mem_reverse.mp hx)
  have b := bk_back B this.1 this.2
  exact ⟨b.1, b.2.1⟩
theorem undo_len (bs ws : List Int) : (undoI bs ws).length = ws.length := by unfold undoI; simp
theorem undo_undo {bs ws : List Int} (B : BackI bs) (h : Lets bs.length ws) : undoI bs (undoI bs ws) = ws := by
  unfold undoI
  rw [List.map_reverse, List.map_reverse, List.map_reverse, List.reverse_reverse, List.map_map]
  rw [List.map_congr_left (g := id) fun x hx => ?_, List.map_id]
  have := h x hx
  exact (bk_back B this.1 this.2).2.2
theorem lets_app {n : Nat} {u v : List Int} : Lets n (u ++ v) ↔ Lets n u ∧ Lets n v := by
  constructor
  · intro h
    exact ⟨fun l hl => h l (List.mem_append_left _ hl), fun l hl => h l (List.mem_append_right _ hl)⟩
  · rintro ⟨a, b⟩ l hl
    rcases List.mem_append.mp hl with hl | hl
    · exact a l hl
    · exact b l hl
theorem free_undone {bs : List Int} (B : BackI bs) : ∀ (ws : List Int), Lets bs.length ws → freeI bs (ws ++ undoI bs ws) = [] := by
  intro ws
  induction h : ws.length generalizing ws with
  | zero =>
    intro _
    rw [List.length_eq_zero_iff.mp h]
    rfl
  | succ n ih =>
    intro hl
    rcases List.eq_nil_or_concat ws with rfl | ⟨s0, x, rfl⟩
    · cases h
    · rw [List.concat_eq_append] at *
      obtain ⟨h1, h2⟩ := lets_app.mp hl
      have lx := h2 x (by simp)
      rw [undo_append, show undoI bs [x] = [bk bs x] from rfl, show (s0 ++ [x]) ++ ([bk bs x] ++ undoI bs s0) = s0 ++ [x, bk bs x] ++ undoI bs s0 by simp, free_pair B lx.1 lx.2]
      exact ih s0 (by simpa using h) h1
theorem fr_lets {n : Nat} {bs st : List Int} {l : Int} (h : Lets n st) (h0 : 0 ≤ l ∧ l < n) : Lets n (frStep bs st l) := by
  rcases List.eq_nil_or_concat st with rfl | ⟨s0, x, rfl⟩
  · rw [fr_nil]
    intro m hm
    rw [List.mem_singleton.mp hm]
    exact h0
  · rw [List.concat_eq_append] at *
    obtain ⟨h1, h2⟩ := lets_app.mp h
    rw [fr_snoc]
    split
    · exact h1
    · intro m hm
      rcases List.mem_append.mp hm with hm | hm
      · exact h1 m hm
      · rcases List.mem_cons.mp hm with rfl | hm
        · exact h2 _ (by simp)
        · rw [List.mem_singleton.mp hm]; exact h0
theorem fold_lets {n : Nat} {bs : List Int} : ∀ (ws : List Int) {st : List Int}, Lets n st → Lets n ws → Lets n (ws.foldl (frStep bs) st)
  | [], _, h, _ => h
  | w :: ws, _, h, k => fold_lets ws (fr_lets h (k w (List.mem_cons_self ..))) fun l hl => k l (List.mem_cons_of_mem _ hl)
theorem free_lets {n : Nat} {bs ws : List Int} (h : Lets n ws) : Lets n (freeI bs ws) := fold_lets ws (fun _ h => nomatch h) h
theorem fr_len {bs st : List Int} {l : Int} : (frStep bs st l).length ≤ st.length + 1 := by
  unfold frStep
  split
  · rw [List.length_dropLast]; omega
  · simp
theorem fold_len {bs : List Int} : ∀ (ws : List Int) {st : List Int}, (ws.foldl (frStep bs) st).length ≤ st.length + ws.length
  | [], _ => by simp
  | w :: ws, st => by
    have a := fold_len ws (st := frStep bs st w) (bs := bs)
    have b := fr_len (bs := bs) (st := st) (l := w)
    simp only [List.foldl_cons, List.length_cons] at a ⊢
    omega
theorem free_len (bs ws : List Int) : (freeI bs ws).length ≤ ws.length := by
  have := fold_len (bs := bs) ws (st := [])
  simpa [freeI] using this
theorem undo_fold {bs : List Int} (B : BackI bs) : ∀ (ws st : List Int), Lets bs.length ws → freeI bs (undoI bs (st ++ ws)) = freeI bs (undoI bs (ws.foldl (frStep bs) st))
  | [], st, _ => by rw [List.append_nil]; rfl
  | l :: ws, st, h => by
    have lx := h l (List.mem_cons_self ..)
    have ih := undo_fold B ws (frStep bs st l) fun x hx => h x (List.mem_cons_of_mem _ hx)
    rw [List.foldl_cons, ← ih]
    rcases List.eq_nil_or_concat st with rfl | ⟨s0, t, rfl⟩
    · rw [fr_nil]; rfl
    · rw [List.concat_eq_append]
      rw [fr_snoc]
      by_cases c : t = bk bs l
      · obtain ⟨b0, b1, b2⟩ := bk_back B lx.1 lx.2
        rw [if_pos c, c, show (s0 ++ [bk bs l]) ++ l :: ws = s0 ++ ([bk bs l, l] ++ ws) by simp, undo_append, undo_append, undo_append bs s0 ws, show undoI bs [bk bs l, l] = [bk bs l, bk bs (bk bs l)] from rfl, free_pair B b0 b1]
      · rw [if_neg c]
        simp
theorem rdc_undo {bs : List Int} (B : BackI bs) {ws : List Int} (hl : Lets bs.length ws) (h : Rdc bs ws) : Rdc bs (undoI bs ws) := by
  have key : ∀ (u : List Int), Lets bs.length u → (∀ k : Nat, k + 1 < u.length → u.getD k 0 ≠ bk bs (u.getD (k + 1) 0)) → Rdc bs (undoI bs u) := by
    intro u hu hk
    refine rdc_of B _ (undo_lets B hu) fun k hk' => ?_
    rw [undo_len] at hk'
    have g : ∀ j : Nat, j < u.length → (undoI bs u).getD j 0 = bk bs (u.getD (u.length - 1 - j) 0) := fun j hj => by
      unfold undoI
      rw [List.getD_eq_getElem?_getD, List.getElem?_map, List.getElem?_reverse hj, List.getElem?_eq_getElem (by omega), List.getD_eq_getElem?_getD, List.getElem?_eq_getElem (by omega)]
      rfl
    rw [g _ (by omega), g _ (by omega)]
    have := hk (u.length - 1 - (k + 1)) (by omega)
    rw [show u.length - 1 - (k + 1) + 1 = u.length - 1 - k by omega] at this
    have la := hu _ (getD_mem' (show u.length - 1 - (k + 1) < u.length by omega))
    have lb := hu _ (getD_mem' (show u.length - 1 - k < u.length by omega))
    intro e
    apply this
    rw [(bk_back B lb.1 lb.2).2.2] at e
    rw [← e, (bk_back B la.1 la.2).2.2]
  refine key ws hl ?_
  clear key
  induction h with
  | nil => intro k hk; simp at hk
  | one x => intro k hk; simp at hk
  | @snoc st t l h1 h2 ih =>
    intro k hk
    have hl' := hl
    rw [show st ++ [t, l] = (st ++ [t]) ++ [l] by simp] at hl'
    by_cases c : k + 1 < (st ++ [t]).length
    · have := ih (lets_app.mp hl').1 k c
      rw [show st ++ [t, l] = (st ++ [t]) ++ [l] by simp]
      rw [List.getD_eq_getElem?_getD, List.getD_eq_getElem?_getD] at this ⊢
      rw [List.getElem?_append_left (by omega), List.getElem?_append_left c]
      exact this
    · have e : k = st.length := by simp at hk c; omega
      subst e
      rw [List.getD_eq_getElem?_getD, List.getD_eq_getElem?_getD, List.getElem?_append_right (by omega), List.getElem?_append_right (by omega)]
      simpa using h2
theorem free_undo {bs ws : List Int} (B : BackI bs) (h : Lets bs.length ws) : freeI bs (undoI bs ws) = undoI bs (freeI bs ws) := by
  have := undo_fold B ws [] h
  rw [List.nil_append] at this
  rw [this]
  exact free_rdc (rdc_undo B (free_lets h) (rdc_free bs ws))
end DL

/-! The data layer, 11: what repr shows of data. -/
namespace DL
open PySem PySem.Spec PyProof.Rows L2
/-- it can be shown: k deep, of weight n at most -/
def Shw (k n : Nat) (d : D) : Prop := ∃ p, d.py = some p ∧ p.showable = true ∧ p.hasDict = false ∧ p.leavesShort 12 = true ∧ p.canLay0 = true ∧ p.depth ≤ k ∧ p.weight ≤ n
theorem Shw.mono {k n k' n' : Nat} {d : D} (h : Shw k n d) (a : k ≤ k') (b : n ≤ n') : Shw k' n' d := by
  obtain ⟨p, h1, h2, h3, h4, h5, h6, h7⟩ := h
  exact ⟨p, h1, h2, h3, h4, h5, by omega, by omega⟩
theorem Shw.int {k n : Nat} {i : Int} (h : i.natAbs < 10 ^ 10) (hn : 40 ≤ n := by decide) : Shw k n (.int i) := by
  have hlg : i.natAbs.log2 < 40 := by
    rcases Nat.eq_zero_or_pos i.natAbs with e | e
    · rw [e]; decide
    · exact (Nat.log2_lt (by omega)).mpr (Nat.lt_of_lt_of_le h (by decide))
  refine ⟨.int i, by simp only [D.py], ?_, by simp only [PyData.hasDict], ?_, by simp only [PyData.canLay0], by simp only [PyData.depth]; omega, by simp only [PyData.weight]; split <;> omega⟩
  · simp only [PyData.showable, decide_eq_true_eq]
    omega
  · have hz : (PyData.shown (.int i)).length ≤ 12 := by
      have this := int_text_length_le10 (k := 10) (by decide) h
      simp only [PyData.shown]
      rw [PySem.ofString_length]
      omega
    simp only [PyData.leavesShort, decide_eq_true_eq]
    exact hz
theorem Shw.bl {k n : Nat} {b : Bool} : Shw k n (.bl b) := ⟨.bool b, by simp only [D.py], by simp only [PyData.showable], by simp only [PyData.hasDict], by simp only [PyData.leavesShort], by simp only [PyData.canLay0], by simp only [PyData.depth]; omega, by simp only [PyData.weight]; omega⟩
theorem Shw.non {k n : Nat} : Shw k n .non := ⟨.none, by simp only [D.py], by simp only [PyData.showable], by simp only [PyData.hasDict], by simp only [PyData.leavesShort], by simp only [PyData.canLay0], by simp only [PyData.depth]; omega, by simp only [PyData.weight]; omega⟩
theorem Shw.all {k n : Nat} : ∀ {ds : List D}, (∀ d, d ∈ ds → Shw k n d) → ∃ ps, pyL ds = some ps ∧ PyData.showableAll ps = true ∧ PyData.hasDictAll ps = false ∧ PyData.leavesShortAll 12 ps = true ∧ PyData.canLayAll0 ps = true ∧ PyData.depthAll ps ≤ k ∧ PyData.weightAll ps ≤ ds.length * (n + 1)
  | [], _ => ⟨[], by simp only [pyL], by simp only [PyData.showableAll], by simp only [PyData.hasDictAll], by simp only [PyData.leavesShortAll], by simp only [PyData.canLayAll0], by simp only [PyData.depthAll]; omega, by simp only [PyData.weightAll]; omega⟩
  | d :: ds, h => by
    obtain ⟨p, h1, h2, h3, h4, h5, h6, h7⟩ := h d (List.mem_cons_self ..)
    obtain ⟨ps, g1, g2, g3, g4, g5, g6, g7⟩ := Shw.all (ds := ds) fun x hx => h x (List.mem_cons_of_mem _ hx)
    refine ⟨p :: ps, by simp only [pyL, h1, g1], by simp only [PyData.showableAll, h2, g2, Bool.and_self], by simp only [PyData.hasDictAll, h3, g3, Bool.or_self], by simp only [PyData.leavesShortAll, h4, g4, Bool.and_self], by simp only [PyData.canLayAll0, h5, g5, Bool.and_self], by simp only [PyData.depthAll]; omega, ?_⟩
    simp only [PyData.weightAll, List.length_cons, Nat.succ_mul]
    omega
theorem Shw.tup {k n m : Nat} {ds : List D} (h : ∀ d, d ∈ ds → Shw k n d) (hm : ds.length * (n + 1) ≤ m) : Shw (k + 1) m (.tup ds) := by
  obtain ⟨ps, g1, g2, g3, g4, g5, g6, g7⟩ := Shw.all h
  exact ⟨.tuple ps, by simp only [D.py, g1, Option.map_some], by simp only [PyData.showable, g2], by simp only [PyData.hasDict, g3], by simp only [PyData.leavesShort, g4], by simp only [PyData.canLay0, g5], by simp only [PyData.depth]; omega, by simp only [PyData.weight]; omega⟩
theorem Shw.lst {k n m : Nat} {ds : List D} (h : ∀ d, d ∈ ds → Shw k n d) (hm : ds.length * (n + 1) ≤ m) : Shw (k + 1) m (.lst ds) := by
  obtain ⟨ps, g1, g2, g3, g4, g5, g6, g7⟩ := Shw.all h
  exact ⟨.list ps, by simp only [D.py, g1, Option.map_some], by simp only [PyData.showable, g2], by simp only [PyData.hasDict, g3], by simp only [PyData.leavesShort, g4], by simp only [PyData.canLay0, g5], by simp only [PyData.depth]; omega, by simp only [PyData.weight]; omega⟩
theorem Shw.ints {ns : List Int} (h : ∀ n ∈ ns, n.natAbs < 10 ^ 10) : Shw 1 (ns.length * 41) (tI ns) := by
  refine Shw.tup (k := 0) (n := 40) (fun d hd => ?_) (by rw [List.length_map]; exact Nat.le_refl _)
  obtain ⟨i, hi, rfl⟩ := mem_ints hd
  exact .int (h i hi)
def isSeqD : D → Bool
  | .lst _ => true
  | .tup _ => true
  | _ => false
/-- what repr gives -/
def shD (d : D) : Str := ((d.py).getD .none).shown
theorem repr_ok {k n : Nat} {d : D} {μ : Mu} {Q : DQ} (h : Shw k n d) (hs : isSeqD d = true) (hk : k ≤ 64) (hn : n ≤ 2 ^ 20) (q : Q (.str (shD d)) μ) : cdRepr [d] μ Q := by
  obtain ⟨p, h1, h2, h3, h4, h5, h6, h7⟩ := h
  have e : shD d = p.shown := by unfold shD; rw [h1]; rfl
  rw [e] at q
  refine ⟨p, pyM_py h1, fun a ha => ?_, h2, h3, by omega, PyData.shown_fits (B := 12) (by decide) (by decide) h4 (by omega), q⟩
  rcases ha with ⟨x, rfl⟩ | ⟨x, rfl⟩ | rfl | ⟨x, rfl⟩ <;> cases hs
theorem eq_str {s : Bool} {a b : Str} {μ : Mu} {Q : DQ} (q : Q (.bl (decide (a = b) ^^ s)) μ) : rdEq s (.str a) (.str b) μ Q := .inr ⟨a, b, rfl, rfl, q⟩
/-- the same text twice -/
theorem ne_str {a b : Str} {μ : Mu} {Q : DQ} (e : a = b) (q : Q (.bl false) μ) : rdEq true (.str a) (.str b) μ Q := by
  refine eq_str ?_
  rw [decide_eq_true e]
  exact q
theorem ne_tI {a b : List Int} {μ : Mu} {Q : DQ} (e : a = b) (q : Q (.bl false) μ) : rdEq true (tI a) (tI b) μ Q := by
  refine eq_tI ?_
  rw [decide_eq_true e]
  exact q
end DL

/-! key_of, least_of; the law of free words over data. -/
namespace DL
open PySem PySem.Spec PyProof.Rows L2
def sd_key_of : SpD := fun ds μ Q _ => ∃ xs, ds = [.tup xs] ∧ Q (.tup [.int xs.length, .tup xs]) μ
def pLt (u v : List Int) : Bool := if (u.length : Int) = v.length then lexI u v else decide ((u.length : Int) < v.length)
def wLt (wss : List (List Int)) (i j : Nat) : Bool := pLt (wss.getD i []) (wss.getD j [])
def sd_least_of : SpD := fun ds μ Q _ => ∃ d wss, ds = [d] ∧ stillOf d = some (wss.map tI) ∧ 0 < wss.length ∧ ∀ w μ2, wss[argBest (wLt wss) (wss.length - 1)]? = some w → Le μ μ2 → Q (tI w) μ2
/-- slots: 0 row -/
def db_key_of : DS :=
  (sRet (dTup (dCons (dCB cdLen (dCons (dVar 0) dNil)) (dCons (dVar 0) dNil))))
/-- slots: 0 words -/
def db_least_of : DS :=
  (sRet (dMinK sd_key_of (dVar 0)))
theorem pu_key_of (ds : List D) (μ : Mu) (Q : DQ) (QE : XQ) (h : sd_key_of ds μ Q QE) : db_key_of { nx := fun _ μ' => fin Q .non μ', rt := fin Q, xe := finX QE } (startD ["row"] ds) μ := by
  obtain ⟨xs, rfl, k⟩ := h
  unfold db_key_of
  simp only [sSeq, sAsg, sRet, sRetN, sDrop, sIf, sPar, sDPutD, sNext, sBrk, sCont, sRaise, sAugI, sFor, sFreeze, dVar, dC, dOp, dTest, dAnd, dOr, dNot, dAndV, dOrV, dNotV, dIf, dChain, dTup, dLst, dLstM, dNil, dCons, dCB, dCall, dCallK, dRev, dSlice, oNone, oSome, dIsN, dNeg, dDGet, dDict, dPs, dPop, dPopAt, dAppend, dLc, dRgL, dRgT, gRg1, gRg2, iSeqD, iRng1D, iRng2D, tTrue, rdAdd, rdI, rdI0, rdB0, rdIx, rdMul, cdLen, cdAbs, cdInt, cdMin2, cdMax2, cdTup, cdList, cdListM, cdAll, cdAny, cdIsi, dName, dGTup, dGCons, dGNil, dGSub, startD, wipeD, seqOf, listOf, keepOf, List.map_cons, List.map_nil, List.length_cons, List.length_nil, List.cons_append, List.nil_append, Nat.reduceAdd, Nat.reduceSub, List.replicate_succ, List.replicate_zero, List.replicate, List.set_cons_zero, List.set_cons_succ, List.getElem?_cons_zero, List.getElem?_cons_succ, Int.reduceToNat, Int.reduceNeg, Bool.false_eq_true, if_true, if_false, decide_eq_true_eq, Option.some.injEq, exists_eq_left', exists_eq_left, true_and, and_true, D.key, D.int.injEq, D.bl.injEq, D.tup.injEq, D.ref.injEq, D.lst.injEq, D.arg.injEq]
  exact ⟨sl_ok (by decide), fin_self k⟩
theorem best_congr {f g : Nat → Nat → Bool} : ∀ n, (∀ i j, i ≤ n → j ≤ n → f i j = g i j) → argBest f n = argBest g n
  | 0, _ => rfl
  | n + 1, h => by
    have ih := best_congr n fun i j hi hj => h i j (by omega) (by omega)
    unfold argBest
    rw [ih, h (n + 1) (argBest g n) (Nat.le_refl _) (Nat.le_succ_of_le (best_le _ _))]
def kdW : D → D
  | .tup xs => .tup [.int xs.length, .tup xs]
  | d => d
def wordPy (w : List Int) : PyData := .tuple [.int w.length, .tuple (w.map .int)]
def kpW (d : D) : PyData := ((kdW d).py).getD .none
theorem kpy (w : List Int) : (kdW (tI w)).py = some (wordPy w) := by
  show (D.tup [.int (w.map D.int).length, .tup (w.map D.int)]).py = _
  simp only [D.py, pyL, pyL_ints, Option.map_some, List.length_map]
  rfl
theorem kpW_eq (w : List Int) : kpW (tI w) = wordPy w := by unfold kpW; rw [kpy]; rfl
theorem depth_ints (w : List Int) : PyData.depthAll (w.map PyData.int) = 0 := by
  induction w with
  | nil => simp only [List.map_nil, PyData.depthAll]
  | cons x w ih => simp only [List.map_cons, PyData.depthAll, PyData.depth, ih]; rfl
theorem alike_words (u v : List Int) : PySem.W.alike (wordPy u) (wordPy v) = true := by
  unfold wordPy
  simp only [PySem.W.alike, PySem.W.alikeAll, Bool.true_and, Bool.and_true]
  exact dataLt_pair.alike_ints u v
theorem wordLt (u v : List Int) : PySem.W.dataLt (wordPy u) (wordPy v) = pLt u v := dataLt_pair _ _ u v
theorem keysW (wss : List (List Int)) : KeysOk kdW kpW (wss.map tI) := by
  have m : ∀ x, x ∈ wss.map tI → ∃ w, x = tI w := fun x hx => by
    obtain ⟨w, _, e⟩ := List.mem_map.mp hx
    exact ⟨w, e.symm⟩
  refine ⟨fun x hx => ?_, fun x hx => ?_, fun x hx y hy => ?_⟩
  · obtain ⟨w, rfl⟩ := m x hx
    rw [kpW_eq]
    exact kpy w
  · obtain ⟨w, rfl⟩ := m x hx
    rw [kpW_eq]
    refine ⟨?_, fun h => by cases h⟩
    unfold wordPy
    simp only [PyData.depth, PyData.depthAll, depth_ints]
    omega
  · obtain ⟨w, rfl⟩ := m x hx
    obtain ⟨u, rfl⟩ := m y hy
    rw [kpW_eq, kpW_eq]
    exact alike_words w u
theorem kLtW (wss : List (List Int)) {i j : Nat} (hi : i < wss.length) (hj : j < wss.length) : kLt kpW (wss.map tI) i j = wLt wss i j := by
  unfold kLt wLt
  have g : ∀ i, i < wss.length → (wss.map tI).getD i .non = tI (wss.getD i []) := fun i hi => by
    rw [List.getD_eq_getElem?_getD, List.getElem?_map, List.getElem?_eq_getElem hi, List.getD_eq_getElem?_getD, List.getElem?_eq_getElem hi]
    rfl
  rw [g i hi, g j hj, kpW_eq, kpW_eq]
  exact wordLt _ _
theorem pu_least_of (ds : List D) (μ : Mu) (Q : DQ) (QE : XQ) (h : sd_least_of ds μ Q QE) : db_least_of { nx := fun _ μ' => fin Q .non μ', rt := fin Q, xe := finX QE } (startD ["words"] ds) μ := by
  obtain ⟨d, wss, rfl, hs, n0, k⟩ := h
  unfold db_least_of
  simp only [sSeq, sAsg, sRet, sRetN, sDrop, sIf, sPar, sDPutD, sNext, sBrk, sCont, sRaise, sAugI, sFor, sFreeze, dVar, dC, dOp, dTest, dAnd, dOr, dNot, dAndV, dOrV, dNotV, dIf, dChain, dTup, dLst, dLstM, dNil, dCons, dCB, dCall, dCallK, dRev, dSlice, oNone, oSome, dIsN, dNeg, dDGet, dDict, dPs, dPop, dPopAt, dAppend, dLc, dRgL, dRgT, gRg1, gRg2, iSeqD, iRng1D, iRng2D, tTrue, rdAdd, rdI, rdI0, rdB0, rdIx, rdMul, cdLen, cdAbs, cdInt, cdMin2, cdMax2, cdTup, cdList, cdListM, cdAll, cdAny, cdIsi, dName, dGTup, dGCons, dGNil, dGSub, startD, wipeD, seqOf, listOf, keepOf, List.map_cons, List.map_nil, List.length_cons, List.length_nil, List.cons_append, List.nil_append, Nat.reduceAdd, Nat.reduceSub, List.replicate_succ, List.replicate_zero, List.replicate, List.set_cons_zero, List.set_cons_succ, List.getElem?_cons_zero, List.getElem?_cons_succ, Int.reduceToNat, Int.reduceNeg, Bool.false_eq_true, if_true, if_false, decide_eq_true_eq, Option.some.injEq, exists_eq_left', exists_eq_left, true_and, and_true, D.key, D.int.injEq, D.bl.injEq, D.tup.injEq, D.ref.injEq, D.lst.injEq, D.arg.injEq, dMinK]
  refine ⟨wss.map tI, kdW, kpW, hs, by rw [List.length_map]; exact n0, fun x hx μ' Q' hl hq => ?_, keysW wss, fun x μ2 hx hl => ?_⟩
  · obtain ⟨w, _, rfl⟩ := List.mem_map.mp hx
    exact ⟨w.map .int, rfl, hq μ' fun _ _ h => h⟩
  · rw [List.length_map, best_congr (g := wLt wss) _ fun i j hi hj => kLtW wss (by omega) (by omega), List.getElem?_map] at hx
    cases e : wss[argBest (wLt wss) (wss.length - 1)]? with
    | none => rw [e] at hx; cases hx
    | some w =>
      rw [e] at hx
      cases hx
      exact fin_self (k w μ2 e hl)
def sd_law : SpD := fun ds μ Q _ => ∃ ns : List Int, ds = [.arg (ns.map .int)] ∧ ns.length ≤ 63 ∧ ∀ μ', Q (.bl true) μ'
def db_law_25 : DS :=
  (sSeq (sAsg (dLst (dCons (dVar 4) (dCons (dVar 5) (dCons (dVar 6) (dCons (dVar 13) (dCons (dVar 10) dNil)))))) (dName 12))
    (sSeq (sAsg (dCB cdMin (dCons (dLc false (iSeqD (dVar 12)) (dName 14) tTrue (dCB cdLen (dCons (dVar 14) dNil)) [14]) dNil)) (dName 15))
    (sSeq (sIf (dTest (dOp (rdEq true) (dCB cdRepr (dCons (dCall sd_least_of (dCons (dCB cdList (dCons (dVar 12) dNil)) dNil)) dNil)) (dCB cdRepr (dCons (dOp rdIx (dCB cdSorted (dCons (dLc false (iSeqD (dVar 12)) (dName 14) (dTest (dOp (rdEq false) (dCB cdLen (dCons (dVar 14) dNil)) (dVar 15))) (dVar 14) [14]) dNil)) (dC (.int 0))) dNil)))) (sRet (dC (.bl false))) sNext)
    (sIf (dTest (dOp (rdEq true) (dCallK sd_least_of [0] (dCons (dCB cdTup (dCons (dSlice (dVar 12) oNone (oSome (dC (.int 2)))) dNil)) dNil)) (dIf (dTest (dOp rdLt (dTup (dCons (dCB cdLen (dCons (dVar 5) dNil)) (dCons (dVar 5) dNil))) (dTup (dCons (dCB cdLen (dCons (dVar 4) dNil)) (dCons (dVar 4) dNil))))) (dVar 5) (dVar 4)))) (sRet (dC (.bl false))) sNext))))
def db_law_23 : DS :=
  (sSeq (sIf (dTest (dOp (rdEq true) (dCB cdRepr (dCons (dCall sd_free (dCons (dVar 3) (dCons (dCall sd_undone (dCons (dVar 3) (dCons (dVar 4) dNil))) dNil))) dNil)) (dCB cdRepr (dCons (dCall sd_undone (dCons (dVar 3) (dCons (dCall sd_free (dCons (dVar 3) (dCons (dVar 4) dNil))) dNil))) dNil)))) (sRet (dC (.bl false))) sNext)
    db_law_25)
def db_law_21 : DS :=
  (sSeq (sIf (dTest (dOp (rdEq true) (dCB cdRepr (dCons (dLst (dCons (dCall sd_free (dCons (dVar 3) (dCons (dOp rdAdd (dVar 4) (dVar 13)) dNil))) (dCons (dCall sd_free (dCons (dVar 3) (dCons (dCall sd_free (dCons (dVar 3) (dCons (dVar 6) dNil))) dNil))) dNil))) dNil)) (dCB cdRepr (dCons (dLst (dCons (dTup dNil) (dCons (dVar 10) dNil))) dNil)))) (sRet (dC (.bl false))) sNext)
    db_law_23)
def db_law_19 : DS :=
  (sSeq (sIf (dOr (dTest (dOp (rdEq true) (dCB cdRepr (dCons (dCall sd_undone (dCons (dVar 3) (dCons (dVar 4) dNil))) dNil)) (dCB cdRepr (dCons (dVar 13) dNil)))) (dTest (dOp (rdEq true) (dCallK sd_undone [1, 0] (dCons (dVar 13) (dCons (dVar 3) dNil))) (dVar 4)))) (sRet (dC (.bl false))) sNext)
    db_law_21)
def db_law_16 : DS :=
  (sSeq (sIf (dOr (dTest (dOp (rdEq true) (dCB cdRepr (dCons (dCall sd_free (dCons (dVar 3) (dCons (dVar 6) dNil))) dNil)) (dCB cdRepr (dCons (dVar 10) dNil)))) (dTest (dOp (rdEq true) (dCB cdRepr (dCons (dCallK sd_free [1, 0] (dCons (dVar 4) (dCons (dVar 3) dNil))) dNil)) (dCB cdRepr (dCons (dVar 10) dNil))))) (sRet (dC (.bl false))) sNext)
    (sSeq (sAsg (dCB cdTup (dCons (dLc false (iSeqD (dRev (dVar 4))) (dName 9) tTrue (dOp rdIx (dVar 3) (dVar 9)) [9]) dNil)) (dName 13))
    db_law_19))
def db_law_9 : DS :=
  (sSeq (sAsg (dVar 6) (dName 10))
    (sSeq (sWhile (dTest (dC (.bl true))) (sSeq (sAsg (dLc false (iRng1D (dOp (rdI0 fun i j => i - j) (dCB cdLen (dCons (dVar 10) dNil)) (dC (.int 1)))) (dName 11) (dTest (dOp (rdEq false) (dOp rdIx (dVar 10) (dOp rdAdd (dVar 11) (dC (.int 1)))) (dOp rdIx (dVar 3) (dOp rdIx (dVar 10) (dVar 11))))) (dVar 11) [11]) (dName 12))
    (sSeq (sIf (dTest (dOp (rdEq false) (dVar 12) (dLst dNil))) sBrk sNext)
    (sSeq (sAsg (dCall sd__law_pick (dCons (dVar 1) (dCons (dVar 12) dNil))) (dName 8))
    (sAsg (dOp rdAdd (dSlice (dVar 10) oNone (oSome (dVar 8))) (dSlice (dVar 10) (oSome (dOp rdAdd (dVar 8) (dC (.int 2)))) oNone)) (dName 10))))))
    db_law_16))
def db_law_5 : DS :=
  (sSeq (sAsg (dVar 4) (dName 6))
    (sSeq (sFor (iRng1D (dCall sd__law_take (dCons (dVar 1) (dCons (dC (.int 5)) dNil)))) (dName 7) (sSeq (sPar 8 9 (dCons (dCall sd__law_take (dCons (dVar 1) (dCons (dOp rdAdd (dCB cdLen (dCons (dVar 6) dNil)) (dC (.int 1))) dNil))) (dCons (dCall sd__law_take (dCons (dVar 1) (dCons (dCB cdLen (dCons (dVar 3) dNil)) dNil))) dNil)))
    (sAsg (dOp rdAdd (dOp rdAdd (dSlice (dVar 6) oNone (oSome (dVar 8))) (dTup (dCons (dVar 9) (dCons (dOp rdIx (dVar 3) (dVar 9)) dNil)))) (dSlice (dVar 6) (oSome (dVar 8)) oNone)) (dName 6))))
    db_law_9))
/-- slots: 0 script, 1 draw, 2 turn, 3 back_here, 4 word_here, 5 other, 6 mixed, 7 lap, 8 spot, 9 letter, 10 left_here, 11 k, 12 some, 13 due, 14 one, 15 shortest -/
def db_law : DS :=
  (sSeq (sAsg (dCall sd__law_begun (dCons (dVar 0) dNil)) (dName 1))
    (sSeq (sFor (iRng1D (dOp rdAdd (dC (.int 2)) (dCB cdMin2 (dCons (dCB cdLen (dCons (dVar 0) dNil)) (dCons (dC (.int 6)) dNil))))) (dName 2) (sSeq (sAsg (dCall sd__law_back (dCons (dVar 1) dNil)) (dName 3))
    (sSeq (sPar 4 5 (dCons (dCall sd__law_word (dCons (dVar 1) (dCons (dVar 3) (dCons (dIf (dTest (dOp (rdEq false) (dVar 2) (dC (.int 0)))) (dC (.int 90)) (dC (.int 14))) dNil)))) (dCons (dCall sd__law_word (dCons (dVar 1) (dCons (dVar 3) (dCons (dC (.int 6)) dNil)))) dNil)))
    db_law_5)))
    (sRet (dC (.bl true)))))
theorem pLt_irr (u : List Int) : pLt u u = false := by unfold pLt; rw [if_pos rfl]; exact lexI_irr u
theorem pLt_asym {u v : List Int} (h : pLt u v = true) : pLt v u = false := by
  unfold pLt at *
  by_cases c : (u.length : Int) = v.length
  · rw [if_pos c] at h
    rw [if_pos c.symm]
    exact lexI_asym u v h
  · rw [if_neg c] at h
    rw [if_neg (fun z => c z.symm)]
    simp only [decide_eq_true_eq, decide_eq_false_iff_not] at h ⊢
    omega
theorem pLt_tr {u v w : List Int} (h : pLt v u = false) (k : pLt w v = false) : pLt w u = false := by
  unfold pLt at *
  by_cases c1 : (v.length : Int) = u.length
  · rw [if_pos c1] at h
    by_cases c2 : (w.length : Int) = v.length
    · rw [if_pos c2] at k
      rw [if_pos (c2.trans c1)]
      exact lexI_tr u v w h k
    · rw [if_neg c2] at k
      rw [if_neg (by omega)]
      simp only [decide_eq_false_iff_not] at k ⊢
      omega
  · rw [if_neg c1] at h
    by_cases c2 : (w.length : Int) = v.length
    · rw [if_neg (by omega)]
      simp only [decide_eq_false_iff_not] at h ⊢
      omega
    · rw [if_neg c2] at k
      simp only [decide_eq_false_iff_not] at h k
      rw [if_neg (by omega)]
      simp only [decide_eq_false_iff_not]
      omega
theorem best_min {bt : Nat → Nat → Bool} (irr : ∀ i, bt i i = false) (asym : ∀ i j, bt i j = true → bt j i = false) (tr : ∀ i j k, bt j i = false → bt k j = false → bt k i = false) : ∀ n j, j ≤ n → bt j (argBest bt n) = false
  | 0, j, h => by
    obtain rfl : j = 0 := by omega
    exact irr 0
  | n + 1, j, h => by
    have ih := best_min irr asym tr n
    cases e : bt (n + 1) (argBest bt n) with
    | true =>
      have eb : argBest bt (n + 1) = n + 1 := by simp only [argBest, e, if_true]
      rw [eb]
      by_cases c : j = n + 1
      · rw [c]; exact irr _
      · exact tr _ _ _ (asym _ _ e) (ih j (by omega))
    | false =>
      have eb : argBest bt (n + 1) = argBest bt n := by simp only [argBest, e, Bool.false_eq_true, if_false]
      rw [eb]
      by_cases c : j = n + 1
      · rw [c]; exact e
      · exact ih j (by omega)
theorem wLt_min (wss : List (List Int)) {w u : List Int} (hw : wss[argBest (wLt wss) (wss.length - 1)]? = some w) (hu : u ∈ wss) : pLt u w = false := by
  obtain ⟨j, hj⟩ := List.getElem?_of_mem hu
  have lj := (List.getElem?_eq_some_iff.mp hj).1
  have := best_min (bt := wLt wss) (fun i => pLt_irr _) (fun i j => pLt_asym) (fun i j k => pLt_tr) (wss.length - 1) j (by omega)
  unfold wLt at this
  rw [List.getD_eq_getElem?_getD, List.getD_eq_getElem?_getD, hj] at this
  have e : wss[argBest (fun i j => pLt (wss.getD i []) (wss.getD j [])) (wss.length - 1)]? = some w := hw
  rw [e] at this
  exact this
theorem perm_map_inv {α β : Type} {f : α → β} : ∀ {zs bs : List β}, zs.Perm bs → ∀ {l : List α}, bs = l.map f → ∃ us : List α, us.Perm l ∧ zs = us.map f := by
  intro zs bs pr
  induction pr with
  | nil => intro l e; cases l with | nil => exact ⟨[], .nil, rfl⟩ | cons c l => cases e
  | cons x _ ih =>
    intro l e
    cases l with
    | nil => cases e
    | cons c l =>
      simp only [List.map_cons, List.cons.injEq] at e
      obtain ⟨us, p, q⟩ := ih e.2
      exact ⟨c :: us, .cons _ p, by rw [List.map_cons, ← q, e.1]⟩
  | swap x y l' =>
    intro l e
    match l, e with
    | [], e => cases e
    | [_], e => simp at e
    | c :: d :: l, e =>
      simp only [List.map_cons, List.cons.injEq] at e
      exact ⟨d :: c :: l, .swap _ _ _, by simp only [List.map_cons, e.1, e.2.1, e.2.2]⟩
  | trans _ _ ih1 ih2 =>
    intro l e
    obtain ⟨us, p, q⟩ := ih2 e
    obtain ⟨vs, p2, q2⟩ := ih1 q
    exact ⟨vs, p2.trans p, q2⟩
theorem DrawAt.le {q l : Addr} {μ μ' : Mu} (h : DrawAt μ q l) (k : Le μ μ') : DrawAt μ' q l := by
  obtain ⟨ls, r, cs, t, a, b, c⟩ := h
  exact ⟨ls, r, cs, t, k _ _ a, k _ _ b, c⟩
def wordT (w : List Int) : PyData := .tuple (w.map .int)
theorem wordT_py (w : List Int) : (tI w).py = some (wordT w) := by simp only [D.py, pyL_ints, Option.map_some]; rfl
theorem pyL_words : ∀ wss : List (List Int), pyL (wss.map tI) = some (wss.map wordT)
  | [] => by simp only [List.map_nil, pyL]
  | w :: wss => by simp only [List.map_cons, pyL, wordT_py, pyL_words wss]
/-- sorted(ws)[0], the words of one length m, is what no word is below -/
theorem sorted_words {μ : Mu} {Q : DQ} {fl : List (List Int)} {m : Nat} (hm : ∀ w, w ∈ fl → w.length = m) (h0 : fl ≠ []) (q : ∀ (u : List Int) (us : List (List Int)), u ∈ fl → (∀ w, w ∈ fl → lexI w u = false) → Q (.lst (tI u :: us.map tI)) μ) : cdSorted [.lst (fl.map tI)] μ Q := by
  refine ⟨fl.map tI, fl.map wordT, .inl rfl, pyL_words fl, ?_, ?_, fun p hp => ?_, fun zs hp hw => ?_⟩
  · intro d hd d' hd'
    obtain ⟨w, _, rfl⟩ := List.mem_map.mp hd
    obtain ⟨w', _, rfl⟩ := List.mem_map.mp hd'
    unfold wordT
    simp only [PySem.W.alike]
    exact dataLt_pair.alike_ints w w'
  · rcases Nat.eq_zero_or_pos m with e | e
    · right
      intro p hp
      obtain ⟨w, hw, rfl⟩ := List.mem_map.mp hp
      rw [List.length_eq_zero_iff.mp ((hm w hw).trans e)]
      rfl
    · left
      left
      intro p hp
      obtain ⟨w, hw, rfl⟩ := List.mem_map.mp hp
      have := hm w hw
      cases w with
      | nil => simp at this; omega
      | cons x w => exact ⟨_, _, rfl⟩
  · obtain ⟨w, hw, rfl⟩ := List.mem_map.mp hp
    unfold wordT
    simp only [PyData.depth, depth_ints]
    omega
  · have ez : (fl.map tI).zip (fl.map wordT) = fl.map fun w => (tI w, wordT w) := by rw [List.zip_map']
    rw [ez] at hp
    obtain ⟨us, pu, rfl⟩ := perm_map_inv hp rfl
    rw [List.map_map]
    cases us with
    | nil => exact absurd (List.nil_perm.mp pu) h0
    | cons u us =>
      have hw' := List.pairwise_map.mp hw
      refine q u us (pu.mem_iff.mp (List.mem_cons_self ..)) fun w hwm => ?_
      rcases List.mem_cons.mp (pu.mem_iff.mpr hwm) with rfl | h
      · exact lexI_irr _
      · have := (List.pairwise_cons.mp hw').1 w h
        rw [← dataLt_ints]
        exact this
theorem atI_zero {α : Type} {x : α} {xs : List α} : atI (x :: xs) 0 = some x := by
  unfold atI ixN
  rw [if_pos (by decide), if_pos (by simp)]
  rfl
/-- what a turn of the law leaves: the script, the draws; whatever else -/
def NX (DD : DEnds) (a : D) (q l : Addr) : Prop := ∀ (o2 o3 o4 o5 o6 o7 o8 o9 o10 o11 o12 o13 o14 o15 : Option D) (μ' : Mu), DrawAt μ' q l → DD.nx [some a, some (.ref q), o2, o3, o4, o5, o6, o7, o8, o9, o10, o11, o12, o13, o14, o15] μ'
def Wd (n : Nat) (ws : List Int) : Prop := Lets n ws ∧ ws.length ≤ 200
theorem Wd.shw {n : Nat} {ws : List Int} (h : Wd n ws) (hn : n ≤ 6) : Shw 1 8200 (tI ws) := (Shw.ints fun i hi => by have := h.1 i hi; omega).mono (Nat.le_refl _) (by have := h.2; omega)
theorem t_25 {DD : DEnds} {a : D} {q l : Addr} {o2 o7 o8 o9 o11 o12 o14 o15 : Option D} {μ : Mu} {n : Nat} {bs ws os ms ls due : List Int} (hn : NX DD a q l) (D1 : DrawAt μ q l) (n6 : n ≤ 6) (w1 : Wd n ws) (w2 : Wd n os) (w3 : Wd n ms) (w4 : Wd n ls) (w5 : Wd n due) :
    db_law_25 DD [some a, some (.ref q), o2, some (tI bs), some (tI ws), some (tI os), some (tI ms), o7, o8, o9, some (tI ls), o11, o12, some (tI due), o14, o15] μ := by
  unfold db_law_25
  simp only [sSeq, sAsg, sRet, sRetN, sDrop, sIf, sPar, sDPutD, sNext, sBrk, sCont, sRaise, sAugI, sFor, sFreeze, dVar, dC, dOp, dTest, dAnd, dOr, dNot, dAndV, dOrV, dNotV, dIf, dChain, dTup, dLst, dLstM, dNil, dCons, dCB, dCall, dCallK, dRev, dSlice, oNone, oSome, dIsN, dNeg, dDGet, dDict, dPs, dPop, dPopAt, dAppend, dLc, dRgL, dRgT, gRg1, gRg2, iSeqD, iRng1D, iRng2D, tTrue, rdAdd, rdI, rdI0, rdB0, rdIx, rdMul, cdLen, cdAbs, cdInt, cdMin2, cdMax2, cdTup, cdList, cdListM, cdAll, cdAny, cdIsi, dName, dGTup, dGCons, dGNil, dGSub, startD, wipeD, seqOf, listOf, keepOf, List.map_cons, List.map_nil, List.length_cons, List.length_nil, List.cons_append, List.nil_append, Nat.reduceAdd, Nat.reduceSub, List.replicate_succ, List.replicate_zero, List.replicate, List.set_cons_zero, List.set_cons_succ, List.getElem?_cons_zero, List.getElem?_cons_succ, Int.reduceToNat, Int.reduceNeg, Bool.false_eq_true, if_true, if_false, decide_eq_true_eq, Option.some.injEq, exists_eq_left', exists_eq_left, true_and, and_true, D.key, D.int.injEq, D.bl.injEq, D.tup.injEq, D.ref.injEq, D.lst.injEq, D.arg.injEq, dMinK]
  have hsome : ([tI ws, tI os, tI ms, tI due, tI ls] : List D) = [ws, os, ms, due, ls].map tI := rfl
  obtain ⟨wss, hwss⟩ : ∃ wss, wss = [ws, os, ms, due, ls] := ⟨_, rfl⟩
  have hW : ∀ w, w ∈ wss → Wd n w := by
    rw [hwss]
    intro w hw
    simp only [List.mem_cons, List.not_mem_nil, or_false] at hw
    rcases hw with rfl | rfl | rfl | rfl | rfl <;> assumption
  have h5 : wss.length = 5 := by rw [hwss]; rfl
  have hz : (wss.map tI).length ≤ sizeLine := sl_ok (by rw [List.length_map, h5]; decide)
  rw [hsome, ← hwss]
  refine ⟨sl_ok (by decide), lc_map (fun d => match d with | .tup xs => .int xs.length | d => d) hz (fun _ _ _ => trivial) (fun i x μ' R hx hl h => ?_) (fun _ _ => ?_)⟩
  · obtain ⟨w, _, rfl⟩ := List.mem_map.mp (List.mem_of_getElem? hx)
    simp only [sSeq, sAsg, sRet, sRetN, sDrop, sIf, sPar, sDPutD, sNext, sBrk, sCont, sRaise, sAugI, sFor, sFreeze, dVar, dC, dOp, dTest, dAnd, dOr, dNot, dAndV, dOrV, dNotV, dIf, dChain, dTup, dLst, dLstM, dNil, dCons, dCB, dCall, dCallK, dRev, dSlice, oNone, oSome, dIsN, dNeg, dDGet, dDict, dPs, dPop, dPopAt, dAppend, dLc, dRgL, dRgT, gRg1, gRg2, iSeqD, iRng1D, iRng2D, tTrue, rdAdd, rdI, rdI0, rdB0, rdIx, rdMul, cdLen, cdAbs, cdInt, cdMin2, cdMax2, cdTup, cdList, cdListM, cdAll, cdAny, cdIsi, dName, dGTup, dGCons, dGNil, dGSub, startD, wipeD, seqOf, listOf, keepOf, List.map_cons, List.map_nil, List.length_cons, List.length_nil, List.cons_append, List.nil_append, Nat.reduceAdd, Nat.reduceSub, List.replicate_succ, List.replicate_zero, List.replicate, List.set_cons_zero, List.set_cons_succ, List.getElem?_cons_zero, List.getElem?_cons_succ, Int.reduceToNat, Int.reduceNeg, Bool.false_eq_true, if_true, if_false, decide_eq_true_eq, Option.some.injEq, exists_eq_left', exists_eq_left, true_and, and_true, D.key, D.int.injEq, D.bl.injEq, D.tup.injEq, D.ref.injEq, D.lst.injEq, D.arg.injEq]
    exact h
  have em : (wss.map tI).map (fun d => match d with | .tup xs => D.int xs.length | d => d) = (wss.map fun w => (w.length : Int)).map D.int := by
    rw [List.map_map, List.map_map]
    refine List.map_congr_left fun w _ => ?_
    show D.int ((w.map D.int).length) = _
    rw [List.length_map]
    rfl
  simp only [sSeq, sAsg, sRet, sRetN, sDrop, sIf, sPar, sDPutD, sNext, sBrk, sCont, sRaise, sAugI, sFor, sFreeze, dVar, dC, dOp, dTest, dAnd, dOr, dNot, dAndV, dOrV, dNotV, dIf, dChain, dTup, dLst, dLstM, dNil, dCons, dCB, dCall, dCallK, dRev, dSlice, oNone, oSome, dIsN, dNeg, dDGet, dDict, dPs, dPop, dPopAt, dAppend, dLc, dRgL, dRgT, gRg1, gRg2, iSeqD, iRng1D, iRng2D, tTrue, rdAdd, rdI, rdI0, rdB0, rdIx, rdMul, cdLen, cdAbs, cdInt, cdMin2, cdMax2, cdTup, cdList, cdListM, cdAll, cdAny, cdIsi, dName, dGTup, dGCons, dGNil, dGSub, startD, wipeD, seqOf, listOf, keepOf, List.map_cons, List.map_nil, List.length_cons, List.length_nil, List.cons_append, List.nil_append, Nat.reduceAdd, Nat.reduceSub, List.replicate_succ, List.replicate_zero, List.replicate, List.set_cons_zero, List.set_cons_succ, List.getElem?_cons_zero, List.getElem?_cons_succ, Int.reduceToNat, Int.reduceNeg, Bool.false_eq_true, if_true, if_false, decide_eq_true_eq, Option.some.injEq, exists_eq_left', exists_eq_left, true_and, and_true, D.key, D.int.injEq, D.bl.injEq, D.tup.injEq, D.ref.injEq, D.lst.injEq, D.arg.injEq, em]
  refine ⟨wss.map fun w => (w.length : Int), .inl rfl, by rw [List.length_map, h5]; decide, fun m hm hmin => ?_⟩
  obtain ⟨wm, hwm, rfl⟩ := List.mem_map.mp hm
  refine ⟨_, wss, rfl, rfl, by rw [h5]; decide, fun w μ2 hw hl => ?_⟩
  have D2 := D1.le hl
  have hwin : w ∈ wss := List.mem_of_getElem? hw
  have hmn : ∀ u, u ∈ wss → pLt u w = false := fun u hu => wLt_min wss hw hu
  refine repr_ok ((hW w hwin).shw n6) rfl (by decide) (by decide) ?_
  refine lc_pure (fun d => match d with | .tup xs => if (xs.length : Int) = wm.length then some (.tup xs) else none | _ => none) hz (fun _ _ _ => trivial) (fun i x μ' R1 R2 hx hl h1 h2 => ?_) (fun _ _ => ?_)
  · obtain ⟨u, _, rfl⟩ := List.mem_map.mp (List.mem_of_getElem? hx)
    simp only [sSeq, sAsg, sRet, sRetN, sDrop, sIf, sPar, sDPutD, sNext, sBrk, sCont, sRaise, sAugI, sFor, sFreeze, dVar, dC, dOp, dTest, dAnd, dOr, dNot, dAndV, dOrV, dNotV, dIf, dChain, dTup, dLst, dLstM, dNil, dCons, dCB, dCall, dCallK, dRev, dSlice, oNone, oSome, dIsN, dNeg, dDGet, dDict, dPs, dPop, dPopAt, dAppend, dLc, dRgL, dRgT, gRg1, gRg2, iSeqD, iRng1D, iRng2D, tTrue, rdAdd, rdI, rdI0, rdB0, rdIx, rdMul, cdLen, cdAbs, cdInt, cdMin2, cdMax2, cdTup, cdList, cdListM, cdAll, cdAny, cdIsi, dName, dGTup, dGCons, dGNil, dGSub, startD, wipeD, seqOf, listOf, keepOf, List.map_cons, List.map_nil, List.length_cons, List.length_nil, List.cons_append, List.nil_append, Nat.reduceAdd, Nat.reduceSub, List.replicate_succ, List.replicate_zero, List.replicate, List.set_cons_zero, List.set_cons_succ, List.getElem?_cons_zero, List.getElem?_cons_succ, Int.reduceToNat, Int.reduceNeg, Bool.false_eq_true, if_true, if_false, decide_eq_true_eq, Option.some.injEq, exists_eq_left', exists_eq_left, true_and, and_true, D.key, D.int.injEq, D.bl.injEq, D.tup.injEq, D.ref.injEq, D.lst.injEq, D.arg.injEq]
    refine eq_int ?_
    rw [Bool.xor_false]
    refine ⟨_, rfl, ?_⟩
    by_cases c : ((u.map D.int).length : Int) = wm.length
    · rw [if_pos (decide_eq_true c)]
      exact h1 _ (by show (if _ then _ else _) = _; rw [if_pos c])
    · rw [if_neg (by simpa using c)]
      exact h2 (by show (if _ then _ else _) = _; rw [if_neg c])
  have ef : (wss.map tI).filterMap (fun d => match d with | .tup xs => if (xs.length : Int) = wm.length then some (D.tup xs) else none | _ => none) = (wss.filter fun u => decide (u.length = wm.length)).map tI := by
    rw [List.filterMap_map]
    clear hW h5 hz hwss hm hmin hwm hw hwin hmn em
    induction wss with
    | nil => rfl
    | cons u us ih =>
      rw [List.filterMap_cons, List.filter_cons]
      by_cases c : u.length = wm.length
      · have e1 : ((fun d => match d with | .tup xs => if (xs.length : Int) = wm.length then some (D.tup xs) else none | _ => none) ∘ tI) u = some (tI u) := by
          show (if ((u.map D.int).length : Int) = wm.length then some (tI u) else none) = _
          rw [List.length_map, if_pos (by omega)]
        rw [e1, decide_eq_true c, if_pos rfl, List.map_cons, ← ih]
      · have e1 : ((fun d => match d with | .tup xs => if (xs.length : Int) = wm.length then some (D.tup xs) else none | _ => none) ∘ tI) u = none := by
          show (if ((u.map D.int).length : Int) = wm.length then some (tI u) else none) = _
          rw [List.length_map, if_neg (by omega)]
        rw [e1, decide_eq_false c, if_neg (by decide), ← ih]
  simp only [sSeq, sAsg, sRet, sRetN, sDrop, sIf, sPar, sDPutD, sNext, sBrk, sCont, sRaise, sAugI, sFor, sFreeze, dVar, dC, dOp, dTest, dAnd, dOr, dNot, dAndV, dOrV, dNotV, dIf, dChain, dTup, dLst, dLstM, dNil, dCons, dCB, dCall, dCallK, dRev, dSlice, oNone, oSome, dIsN, dNeg, dDGet, dDict, dPs, dPop, dPopAt, dAppend, dLc, dRgL, dRgT, gRg1, gRg2, iSeqD, iRng1D, iRng2D, tTrue, rdAdd, rdI, rdI0, rdB0, rdIx, rdMul, cdLen, cdAbs, cdInt, cdMin2, cdMax2, cdTup, cdList, cdListM, cdAll, cdAny, cdIsi, dName, dGTup, dGCons, dGNil, dGSub, startD, wipeD, seqOf, listOf, keepOf, List.map_cons, List.map_nil, List.length_cons, List.length_nil, List.cons_append, List.nil_append, Nat.reduceAdd, Nat.reduceSub, List.replicate_succ, List.replicate_zero, List.replicate, List.set_cons_zero, List.set_cons_succ, List.getElem?_cons_zero, List.getElem?_cons_succ, Int.reduceToNat, Int.reduceNeg, Bool.false_eq_true, if_true, if_false, decide_eq_true_eq, Option.some.injEq, exists_eq_left', exists_eq_left, true_and, and_true, D.key, D.int.injEq, D.bl.injEq, D.tup.injEq, D.ref.injEq, D.lst.injEq, D.arg.injEq, ef]
  refine sorted_words (m := wm.length) (fun u hu => by simpa using (List.mem_filter.mp hu).2) (List.ne_nil_of_mem (List.mem_filter.mpr ⟨hwm, by simp⟩)) fun u us hu hmin2 => ?_
  obtain ⟨hu1, hu2⟩ := List.mem_filter.mp hu
  have hu3 : u.length = wm.length := by simpa using hu2
  refine ⟨_, rfl, tI u, atI_zero, repr_ok ((hW u hu1).shw n6) rfl (by decide) (by decide) (ne_str ?_ ⟨false, rfl, ?_⟩)⟩
  · -- the two least words are one
    have p1 := hmn u hu1
    have m1 : (wm.length : Int) ≤ w.length := hmin _ (List.mem_map.mpr ⟨w, hwin, rfl⟩)
    have lw : w.length = wm.length := by
      unfold pLt at p1
      by_cases c : (u.length : Int) = w.length
      · omega
      · rw [if_neg c] at p1
        simp only [decide_eq_false_iff_not] at p1
        omega
    unfold pLt at p1
    rw [if_pos (by omega)] at p1
    rw [lexI_tri w u (hmin2 w (List.mem_filter.mpr ⟨hwin, by simp [lw]⟩)) p1]
  rw [if_neg (by decide)]
  refine ⟨[D.tup (cutD (wss.map tI) none (some 2))], rfl, _, [ws, os], rfl, by rw [hwss]; rfl, Nat.zero_lt_succ _, fun w' μ3 hw' hl3 => ?_⟩
  have D3 := D2.le hl3
  refine ⟨sl_ok (by decide), sl_ok (by decide), wordPy os, wordPy ws, pyM_py (kpy os), pyM_py (kpy ws), alike_words os ws, (fun h => by cases h), ?_, ?_⟩
  · unfold wordPy
    simp only [PyData.depth, PyData.depthAll, depth_ints]
    omega
  rw [wordLt]
  have e10 : argBest (wLt [ws, os]) ([ws, os].length - 1) = if pLt os ws = true then 1 else 0 := rfl
  rw [e10] at hw'
  refine ⟨_, rfl, ?_⟩
  cases c : pLt os ws with
  | true =>
    rw [c, if_pos rfl] at hw'
    rw [if_pos rfl]
    cases hw'
    refine ne_tI rfl ⟨false, rfl, ?_⟩
    rw [if_neg (by decide)]
    exact hn _ _ _ _ _ _ _ _ _ _ _ _ _ _ _ D3
  | false =>
    rw [c, if_neg (by decide)] at hw'
    rw [if_neg (by decide)]
    cases hw'
    refine ne_tI rfl ⟨false, rfl, ?_⟩
    rw [if_neg (by decide)]
    exact hn _ _ _ _ _ _ _ _ _ _ _ _ _ _ _ D3
theorem tI_inj {u v : List Int} (h : tI u = tI v) : u = v := by
  have e := D.tup.inj h
  induction u generalizing v with
  | nil => cases v with | nil => rfl | cons y v => cases e
  | cons x u ih =>
    cases v with
    | nil => cases e
    | cons y v =>
      simp only [List.map_cons, List.cons.injEq, D.int.injEq] at e
      rw [e.1, ih (congrArg D.tup e.2) e.2]
theorem tyA_tI {μ : Mu} (w : List Int) : TyA μ (tI w) := by
  refine ⟨⟨_, rfl⟩, fun xs e x hx => ?_⟩
  cases e
  obtain ⟨i, _, rfl⟩ := mem_ints hx
  exact ⟨_, rfl⟩
theorem isWd_len {bs w : List Int} (h : Wd bs.length w) : isWd (lenD (tI bs)) (tI w) = true := by
  have el : lenD (tI bs) = ((bs.length : Nat) : Int) := by show ((bs.map D.int).length : Int) = _; rw [List.length_map]
  rw [el]
  exact isWd_tI h.1 h.2
theorem call_free {bs w : List Int} {μ : Mu} {Q : DQ} {E : XQ} (B : BackI bs) (h : Wd bs.length w) (q : Q (tI (freeI bs w)) μ) : sd_free [tI bs, tI w] μ Q E := by
  refine ⟨_, _, rfl, tyA_tI bs, fun _ => ⟨tyA_tI w, fun xs e => ?_, fun bs' ws' e1 e2 _ _ => ?_, fun e => ?_⟩, fun e => ?_⟩
  · cases e
    rw [List.length_map]
    have := h.2
    omega
  · rw [← tI_inj e1, ← tI_inj e2]
    exact q
  · rw [isWd_len h] at e
    cases e
  · rw [isBackD_tI, backI_of B] at e
    cases e
theorem call_undone {bs w : List Int} {μ : Mu} {Q : DQ} {E : XQ} (B : BackI bs) (h : Wd bs.length w) (q : Q (tI (undoI bs w)) μ) : sd_undone [tI bs, tI w] μ Q E := by
  refine ⟨_, _, rfl, tyA_tI bs, fun _ => ⟨tyA_tI w, fun xs e => ?_, fun bs' ws' e1 e2 _ _ => ?_, fun e => ?_⟩, fun e => ?_⟩
  · cases e
    rw [List.length_map]
    have := h.2
    omega
  · rw [← tI_inj e1, ← tI_inj e2]
    exact q
  · rw [isWd_len h] at e
    cases e
  · rw [isBackD_tI, backI_of B] at e
    cases e
theorem Wd.free {bs w : List Int} (h : Wd bs.length w) : Wd bs.length (freeI bs w) := ⟨free_lets h.1, Nat.le_trans (free_len bs w) h.2⟩
theorem Wd.undo {bs w : List Int} (B : BackI bs) (h : Wd bs.length w) : Wd bs.length (undoI bs w) := ⟨undo_lets B h.1, by rw [undo_len]; exact h.2⟩
theorem ne_repr {k n k' n' : Nat} {d e : D} {μ : Mu} {Q : DQ} (h1 : Shw k n d) (h2 : Shw k' n' e) (he : d = e) (q : Q (.bl false) μ) : rdEq true (.str (shD d)) (.str (shD e)) μ Q := ne_str (by rw [he]) q
section
variable {DD : DEnds} {a : D} {q l : Addr} {o2 o7 o8 o9 o10 o11 o12 o13 o14 o15 : Option D} {μ : Mu} {bs ws os ms ls due : List Int}
theorem t_23 (hn : NX DD a q l) (D1 : DrawAt μ q l) (B : BackI bs) (n6 : bs.length ≤ 6) (w1 : Wd bs.length ws) (w2 : Wd bs.length os) (w3 : Wd bs.length ms) (w4 : Wd bs.length ls) (w5 : Wd bs.length due) :
    db_law_23 DD [some a, some (.ref q), o2, some (tI bs), some (tI ws), some (tI os), some (tI ms), o7, o8, o9, some (tI ls), o11, o12, some (tI due), o14, o15] μ := by
  unfold db_law_23
  simp only [sSeq, sAsg, sRet, sRetN, sDrop, sIf, sPar, sDPutD, sNext, sBrk, sCont, sRaise, sAugI, sFor, sFreeze, dVar, dC, dOp, dTest, dAnd, dOr, dNot, dAndV, dOrV, dNotV, dIf, dChain, dTup, dLst, dLstM, dNil, dCons, dCB, dCall, dCallK, dRev, dSlice, oNone, oSome, dIsN, dNeg, dDGet, dDict, dPs, dPop, dPopAt, dAppend, dLc, dRgL, dRgT, gRg1, gRg2, iSeqD, iRng1D, iRng2D, tTrue, rdAdd, rdI, rdI0, rdB0, rdIx, rdMul, cdLen, cdAbs, cdInt, cdMin2, cdMax2, cdTup, cdList, cdListM, cdAll, cdAny, cdIsi, dName, dGTup, dGCons, dGNil, dGSub, startD, wipeD, seqOf, listOf, keepOf, List.map_cons, List.map_nil, List.length_cons, List.length_nil, List.cons_append, List.nil_append, Nat.reduceAdd, Nat.reduceSub, List.replicate_succ, List.replicate_zero, List.replicate, List.set_cons_zero, List.set_cons_succ, List.getElem?_cons_zero, List.getElem?_cons_succ, Int.reduceToNat, Int.reduceNeg, Bool.false_eq_true, if_true, if_false, decide_eq_true_eq, Option.some.injEq, exists_eq_left', exists_eq_left, true_and, and_true, D.key, D.int.injEq, D.bl.injEq, D.tup.injEq, D.ref.injEq, D.lst.injEq, D.arg.injEq]
  refine call_undone B w1 (call_free B (w1.undo B) (repr_ok (((w1.undo B).free).shw n6) rfl (by decide) (by decide) (call_free B w1 (call_undone B w1.free (repr_ok ((w1.free.undo B).shw n6) rfl (by decide) (by decide) ?_)))))
  refine ne_str (by rw [free_undo B w1.1]) ⟨false, rfl, ?_⟩
  rw [if_neg (by decide)]
  exact t_25 hn D1 n6 w1 w2 w3 w4 w5
theorem t_21 (hn : NX DD a q l) (D1 : DrawAt μ q l) (B : BackI bs) (n6 : bs.length ≤ 6) (w1 : Wd bs.length ws) (w2 : Wd bs.length os) (w3 : Wd bs.length ms) (w4 : Wd bs.length ls) (e1 : ls = freeI bs ms) (l90 : ws.length ≤ 90) :
    db_law_21 DD [some a, some (.ref q), o2, some (tI bs), some (tI ws), some (tI os), some (tI ms), o7, o8, o9, some (tI ls), o11, o12, some (tI (undoI bs ws)), o14, o15] μ := by
  unfold db_law_21
  simp only [sSeq, sAsg, sRet, sRetN, sDrop, sIf, sPar, sDPutD, sNext, sBrk, sCont, sRaise, sAugI, sFor, sFreeze, dVar, dC, dOp, dTest, dAnd, dOr, dNot, dAndV, dOrV, dNotV, dIf, dChain, dTup, dLst, dLstM, dNil, dCons, dCB, dCall, dCallK, dRev, dSlice, oNone, oSome, dIsN, dNeg, dDGet, dDict, dPs, dPop, dPopAt, dAppend, dLc, dRgL, dRgT, gRg1, gRg2, iSeqD, iRng1D, iRng2D, tTrue, rdAdd, rdI, rdI0, rdB0, rdIx, rdMul, cdLen, cdAbs, cdInt, cdMin2, cdMax2, cdTup, cdList, cdListM, cdAll, cdAny, cdIsi, dName, dGTup, dGCons, dGNil, dGSub, startD, wipeD, seqOf, listOf, keepOf, List.map_cons, List.map_nil, List.length_cons, List.length_nil, List.cons_append, List.nil_append, Nat.reduceAdd, Nat.reduceSub, List.replicate_succ, List.replicate_zero, List.replicate, List.set_cons_zero, List.set_cons_succ, List.getElem?_cons_zero, List.getElem?_cons_succ, Int.reduceToNat, Int.reduceNeg, Bool.false_eq_true, if_true, if_false, decide_eq_true_eq, Option.some.injEq, exists_eq_left', exists_eq_left, true_and, and_true, D.key, D.int.injEq, D.bl.injEq, D.tup.injEq, D.ref.injEq, D.lst.injEq, D.arg.injEq, ← List.map_append]
  have wd : Wd bs.length (ws ++ undoI bs ws) := ⟨lets_app.mpr ⟨w1.1, undo_lets B w1.1⟩, by rw [List.length_append, undo_len]; omega⟩
  have s2 : ∀ u v : List Int, Wd bs.length u → Wd bs.length v → Shw 2 20000 (.lst [tI u, tI v]) := fun u v hu hv => Shw.lst (k := 1) (n := 8200) (fun d hd => by
    simp only [List.mem_cons, List.not_mem_nil, or_false] at hd
    rcases hd with rfl | rfl
    · exact hu.shw n6
    · exact hv.shw n6) (by simp)
  refine ⟨sl_ok (by rw [List.length_map, List.length_map, undo_len]; omega), call_free B wd (call_free B w3 (call_free B w3.free ⟨sl_ok (by decide), repr_ok (s2 _ _ wd.free w3.free.free) rfl (by decide) (by decide) ⟨sl_ok (by decide), sl_ok (by decide), ?_⟩⟩))⟩
  refine repr_ok (s2 [] ls ⟨(fun _ h => nomatch h), Nat.zero_le _⟩ w4) rfl (by decide) (by decide) (ne_str ?_ ⟨false, rfl, ?_⟩)
  · rw [free_undone B ws w1.1, free_free, e1]
    rfl
  rw [if_neg (by decide)]
  exact t_23 hn D1 B n6 w1 w2 w3 w4 (w1.undo B)
theorem t_19 (hn : NX DD a q l) (D1 : DrawAt μ q l) (B : BackI bs) (n6 : bs.length ≤ 6) (w1 : Wd bs.length ws) (w2 : Wd bs.length os) (w3 : Wd bs.length ms) (w4 : Wd bs.length ls) (e1 : ls = freeI bs ms) (l90 : ws.length ≤ 90) :
    db_law_19 DD [some a, some (.ref q), o2, some (tI bs), some (tI ws), some (tI os), some (tI ms), o7, o8, o9, some (tI ls), o11, o12, some (tI (undoI bs ws)), o14, o15] μ := by
  unfold db_law_19
  simp only [sSeq, sAsg, sRet, sRetN, sDrop, sIf, sPar, sDPutD, sNext, sBrk, sCont, sRaise, sAugI, sFor, sFreeze, dVar, dC, dOp, dTest, dAnd, dOr, dNot, dAndV, dOrV, dNotV, dIf, dChain, dTup, dLst, dLstM, dNil, dCons, dCB, dCall, dCallK, dRev, dSlice, oNone, oSome, dIsN, dNeg, dDGet, dDict, dPs, dPop, dPopAt, dAppend, dLc, dRgL, dRgT, gRg1, gRg2, iSeqD, iRng1D, iRng2D, tTrue, rdAdd, rdI, rdI0, rdB0, rdIx, rdMul, cdLen, cdAbs, cdInt, cdMin2, cdMax2, cdTup, cdList, cdListM, cdAll, cdAny, cdIsi, dName, dGTup, dGCons, dGNil, dGSub, startD, wipeD, seqOf, listOf, keepOf, List.map_cons, List.map_nil, List.length_cons, List.length_nil, List.cons_append, List.nil_append, Nat.reduceAdd, Nat.reduceSub, List.replicate_succ, List.replicate_zero, List.replicate, List.set_cons_zero, List.set_cons_succ, List.getElem?_cons_zero, List.getElem?_cons_succ, Int.reduceToNat, Int.reduceNeg, Bool.false_eq_true, if_true, if_false, decide_eq_true_eq, Option.some.injEq, exists_eq_left', exists_eq_left, true_and, and_true, D.key, D.int.injEq, D.bl.injEq, D.tup.injEq, D.ref.injEq, D.lst.injEq, D.arg.injEq]
  refine call_undone B w1 (repr_ok ((w1.undo B).shw n6) rfl (by decide) (by decide) (repr_ok ((w1.undo B).shw n6) rfl (by decide) (by decide) (ne_str rfl ⟨false, rfl, ?_⟩)))
  rw [if_neg (by decide)]
  refine ⟨[tI bs, tI (undoI bs ws)], rfl, call_undone B (w1.undo B) (ne_tI (undo_undo B w1.1) ⟨false, rfl, ?_⟩)⟩
  rw [if_neg (by decide)]
  exact t_21 hn D1 B n6 w1 w2 w3 w4 e1 l90
theorem t_16 (hn : NX DD a q l) (D1 : DrawAt μ q l) (B : BackI bs) (n6 : bs.length ≤ 6) (w1 : Wd bs.length ws) (w2 : Wd bs.length os) (w3 : Wd bs.length ms) (w4 : Wd bs.length ls) (e1 : ls = freeI bs ms) (e2 : ls = freeI bs ws) (l90 : ws.length ≤ 90) :
    db_law_16 DD [some a, some (.ref q), o2, some (tI bs), some (tI ws), some (tI os), some (tI ms), o7, o8, o9, some (tI ls), o11, o12, o13, o14, o15] μ := by
  unfold db_law_16
  simp only [sSeq, sAsg, sRet, sRetN, sDrop, sIf, sPar, sDPutD, sNext, sBrk, sCont, sRaise, sAugI, sFor, sFreeze, dVar, dC, dOp, dTest, dAnd, dOr, dNot, dAndV, dOrV, dNotV, dIf, dChain, dTup, dLst, dLstM, dNil, dCons, dCB, dCall, dCallK, dRev, dSlice, oNone, oSome, dIsN, dNeg, dDGet, dDict, dPs, dPop, dPopAt, dAppend, dLc, dRgL, dRgT, gRg1, gRg2, iSeqD, iRng1D, iRng2D, tTrue, rdAdd, rdI, rdI0, rdB0, rdIx, rdMul, cdLen, cdAbs, cdInt, cdMin2, cdMax2, cdTup, cdList, cdListM, cdAll, cdAny, cdIsi, dName, dGTup, dGCons, dGNil, dGSub, startD, wipeD, seqOf, listOf, keepOf, List.map_cons, List.map_nil, List.length_cons, List.length_nil, List.cons_append, List.nil_append, Nat.reduceAdd, Nat.reduceSub, List.replicate_succ, List.replicate_zero, List.replicate, List.set_cons_zero, List.set_cons_succ, List.getElem?_cons_zero, List.getElem?_cons_succ, Int.reduceToNat, Int.reduceNeg, Bool.false_eq_true, if_true, if_false, decide_eq_true_eq, Option.some.injEq, exists_eq_left', exists_eq_left, true_and, and_true, D.key, D.int.injEq, D.bl.injEq, D.tup.injEq, D.ref.injEq, D.lst.injEq, D.arg.injEq, ← List.map_reverse]
  refine call_free B w3 (repr_ok (w3.free.shw n6) rfl (by decide) (by decide) (repr_ok (w4.shw n6) rfl (by decide) (by decide) (ne_str (by rw [e1]) ⟨false, rfl, ?_⟩)))
  rw [if_neg (by decide)]
  refine ⟨[tI bs, tI ws], rfl, call_free B w1 (repr_ok (w1.free.shw n6) rfl (by decide) (by decide) (repr_ok (w4.shw n6) rfl (by decide) (by decide) (ne_str (by rw [e2]) ⟨false, rfl, ?_⟩)))⟩
  rw [if_neg (by decide)]
  refine lc_map (fun d => match d with | .int l => .int (bs.getD l.toNat 0) | d => d) (sl_ok (by rw [List.length_map, List.length_reverse]; omega)) (fun _ _ _ => trivial) (fun i x μ' R hx hl h => ?_) (fun _ _ => ?_)
  · have hm := List.mem_of_getElem? hx
    obtain ⟨n, hn, rfl⟩ := mem_ints hm
    have := w1.1 n (List.mem_reverse.mp hn)
    simp only [sSeq, sAsg, sRet, sRetN, sDrop, sIf, sPar, sDPutD, sNext, sBrk, sCont, sRaise, sAugI, sFor, sFreeze, dVar, dC, dOp, dTest, dAnd, dOr, dNot, dAndV, dOrV, dNotV, dIf, dChain, dTup, dLst, dLstM, dNil, dCons, dCB, dCall, dCallK, dRev, dSlice, oNone, oSome, dIsN, dNeg, dDGet, dDict, dPs, dPop, dPopAt, dAppend, dLc, dRgL, dRgT, gRg1, gRg2, iSeqD, iRng1D, iRng2D, tTrue, rdAdd, rdI, rdI0, rdB0, rdIx, rdMul, cdLen, cdAbs, cdInt, cdMin2, cdMax2, cdTup, cdList, cdListM, cdAll, cdAny, cdIsi, dName, dGTup, dGCons, dGNil, dGSub, startD, wipeD, seqOf, listOf, keepOf, List.map_cons, List.map_nil, List.length_cons, List.length_nil, List.cons_append, List.nil_append, Nat.reduceAdd, Nat.reduceSub, List.replicate_succ, List.replicate_zero, List.replicate, List.set_cons_zero, List.set_cons_succ, List.getElem?_cons_zero, List.getElem?_cons_succ, Int.reduceToNat, Int.reduceNeg, Bool.false_eq_true, if_true, if_false, decide_eq_true_eq, Option.some.injEq, exists_eq_left', exists_eq_left, true_and, and_true, D.key, D.int.injEq, D.bl.injEq, D.tup.injEq, D.ref.injEq, D.lst.injEq, D.arg.injEq]
    exact ⟨_, atI_ints this.1 this.2, h⟩
  have em : (ws.reverse.map D.int).map (fun d => match d with | .int l => .int (bs.getD l.toNat 0) | d => d) = (undoI bs ws).map D.int := m_int' (fun l => bs.getD l.toNat 0) ws.reverse
  simp only [sSeq, sAsg, sRet, sRetN, sDrop, sIf, sPar, sDPutD, sNext, sBrk, sCont, sRaise, sAugI, sFor, sFreeze, dVar, dC, dOp, dTest, dAnd, dOr, dNot, dAndV, dOrV, dNotV, dIf, dChain, dTup, dLst, dLstM, dNil, dCons, dCB, dCall, dCallK, dRev, dSlice, oNone, oSome, dIsN, dNeg, dDGet, dDict, dPs, dPop, dPopAt, dAppend, dLc, dRgL, dRgT, gRg1, gRg2, iSeqD, iRng1D, iRng2D, tTrue, rdAdd, rdI, rdI0, rdB0, rdIx, rdMul, cdLen, cdAbs, cdInt, cdMin2, cdMax2, cdTup, cdList, cdListM, cdAll, cdAny, cdIsi, dName, dGTup, dGCons, dGNil, dGSub, startD, wipeD, seqOf, listOf, keepOf, List.map_cons, List.map_nil, List.length_cons, List.length_nil, List.cons_append, List.nil_append, Nat.reduceAdd, Nat.reduceSub, List.replicate_succ, List.replicate_zero, List.replicate, List.set_cons_zero, List.set_cons_succ, List.getElem?_cons_zero, List.getElem?_cons_succ, Int.reduceToNat, Int.reduceNeg, Bool.false_eq_true, if_true, if_false, decide_eq_true_eq, Option.some.injEq, exists_eq_left', exists_eq_left, true_and, and_true, D.key, D.int.injEq, D.bl.injEq, D.tup.injEq, D.ref.injEq, D.lst.injEq, D.arg.injEq, em]
  exact t_19 hn D1 B n6 w1 w2 w3 w4 e1 l90
theorem sIx_at {n d : Nat} {k : Int} (h0 : 0 ≤ k) (h1 : k ≤ n) : HT.sIx n d (some k) = k.toNat := by
  show (if k < 0 then (k + (n : Int)).toNat else min k.toNat n) = _
  rw [if_neg (by omega)]
  omega
theorem cut_take {α : Type} {xs : List α} {k : Int} (h0 : 0 ≤ k) (h1 : k ≤ xs.length) : cutD xs none (some k) = xs.take k.toNat := by
  unfold cutD
  rw [sIx_at h0 h1, HT.sIx_none, List.drop_zero, Nat.sub_zero]
theorem cut_drop {α : Type} {xs : List α} {k : Int} (h0 : 0 ≤ k) (h1 : k ≤ xs.length) : cutD xs (some k) none = xs.drop k.toNat := by
  unfold cutD
  rw [sIx_at h0 h1, HT.sIx_none]
  exact List.take_of_length_le (by rw [List.length_drop]; exact Nat.le_refl _)
theorem filt_rng (p : Nat → Prop) [DecidablePred p] : ∀ l : List Nat, (l.map fun i => D.int ((0 : Int) + (i : Nat))).filterMap (fun d => match d with | .int k => if p k.toNat then some (D.int k) else none | _ => none) = ((l.filter fun k => decide (p k)).map fun k : Nat => (k : Int)).map D.int
  | [] => rfl
  | i :: l => by
    rw [List.map_cons, List.filterMap_cons, List.filter_cons]
    have e : ((0 : Int) + (i : Nat)).toNat = i := by omega
    have e2 : ((0 : Int) + (i : Nat)) = (i : Int) := by omega
    by_cases c : p i
    · simp only [e, if_pos c, decide_eq_true c, if_true, List.map_cons, ← filt_rng p l]
      rw [e2]
    · simp only [e, if_neg c, decide_eq_false c, Bool.false_eq_true, if_false, ← filt_rng p l]
/-- the places whose letter undoes the one ahead -/
theorem t_9 (hn : NX DD a q l) (D1 : DrawAt μ q l) (B : BackI bs) (n6 : bs.length ≤ 6) (w1 : Wd bs.length ws) (w2 : Wd bs.length os) (w3 : Wd bs.length ms) (e2 : freeI bs ms = freeI bs ws) (l90 : ws.length ≤ 90) :
    db_law_9 DD [some a, some (.ref q), o2, some (tI bs), some (tI ws), some (tI os), some (tI ms), o7, o8, o9, o10, o11, o12, o13, o14, o15] μ := by
  unfold db_law_9
  simp only [sSeq, sAsg, sRet, sRetN, sDrop, sIf, sPar, sDPutD, sNext, sBrk, sCont, sRaise, sAugI, sFor, sFreeze, dVar, dC, dOp, dTest, dAnd, dOr, dNot, dAndV, dOrV, dNotV, dIf, dChain, dTup, dLst, dLstM, dNil, dCons, dCB, dCall, dCallK, dRev, dSlice, oNone, oSome, dIsN, dNeg, dDGet, dDict, dPs, dPop, dPopAt, dAppend, dLc, dRgL, dRgT, gRg1, gRg2, iSeqD, iRng1D, iRng2D, tTrue, rdAdd, rdI, rdI0, rdB0, rdIx, rdMul, cdLen, cdAbs, cdInt, cdMin2, cdMax2, cdTup, cdList, cdListM, cdAll, cdAny, cdIsi, dName, dGTup, dGCons, dGNil, dGSub, startD, wipeD, seqOf, listOf, keepOf, List.map_cons, List.map_nil, List.length_cons, List.length_nil, List.cons_append, List.nil_append, Nat.reduceAdd, Nat.reduceSub, List.replicate_succ, List.replicate_zero, List.replicate, List.set_cons_zero, List.set_cons_succ, List.getElem?_cons_zero, List.getElem?_cons_succ, Int.reduceToNat, Int.reduceNeg, Bool.false_eq_true, if_true, if_false, decide_eq_true_eq, Option.some.injEq, exists_eq_left', exists_eq_left, true_and, and_true, D.key, D.int.injEq, D.bl.injEq, D.tup.injEq, D.ref.injEq, D.lst.injEq, D.arg.injEq]
  unfold sWhile
  refine ⟨fun m ρ' μ' => ∃ (p8 p11 p12 : Option D) (ls : List Int), m = ls.length ∧ ρ' = [some a, some (.ref q), o2, some (tI bs), some (tI ws), some (tI os), some (tI ms), o7, p8, o9, some (tI ls), p11, p12, o13, o14, o15] ∧ DrawAt μ' q l ∧ Wd bs.length ls ∧ freeI bs ls = freeI bs ms, ⟨_, o8, o11, o12, ms, rfl, rfl, D1, w3, rfl⟩, ?_⟩
  rintro m ρ' μ' ⟨p8, p11, p12, ls, rfl, rfl, D2, w4, e4⟩
  simp only [sSeq, sAsg, sRet, sRetN, sDrop, sIf, sPar, sDPutD, sNext, sBrk, sCont, sRaise, sAugI, sFor, sFreeze, dVar, dC, dOp, dTest, dAnd, dOr, dNot, dAndV, dOrV, dNotV, dIf, dChain, dTup, dLst, dLstM, dNil, dCons, dCB, dCall, dCallK, dRev, dSlice, oNone, oSome, dIsN, dNeg, dDGet, dDict, dPs, dPop, dPopAt, dAppend, dLc, dRgL, dRgT, gRg1, gRg2, iSeqD, iRng1D, iRng2D, tTrue, rdAdd, rdI, rdI0, rdB0, rdIx, rdMul, cdLen, cdAbs, cdInt, cdMin2, cdMax2, cdTup, cdList, cdListM, cdAll, cdAny, cdIsi, dName, dGTup, dGCons, dGNil, dGSub, startD, wipeD, seqOf, listOf, keepOf, List.map_cons, List.map_nil, List.length_cons, List.length_nil, List.cons_append, List.nil_append, Nat.reduceAdd, Nat.reduceSub, List.replicate_succ, List.replicate_zero, List.replicate, List.set_cons_zero, List.set_cons_succ, List.getElem?_cons_zero, List.getElem?_cons_succ, Int.reduceToNat, Int.reduceNeg, Bool.false_eq_true, if_true, if_false, decide_eq_true_eq, Option.some.injEq, exists_eq_left', exists_eq_left, true_and, and_true, D.key, D.int.injEq, D.bl.injEq, D.tup.injEq, D.ref.injEq, D.lst.injEq, D.arg.injEq]
  have hz : (ls.map D.int).length ≤ 200 := by rw [List.length_map]; exact w4.2
  have L0 : (ls.map D.int).length = ls.length := List.length_map _
  refine ⟨by omega, by omega, ?_⟩
  obtain ⟨n, hn1⟩ : ∃ n : Nat, (((ls.map D.int).length : Int) - 1).toNat = n := ⟨_, rfl⟩
  rw [hn1]
  refine lc_pure (fun d => match d with | .int k => if ls.getD (k.toNat + 1) 0 = bk bs (ls.getD k.toNat 0) then some (.int k) else none | _ => none) (sl_ok (by unfold rng; rw [List.length_map, List.length_range]; omega)) (fun _ _ _ => trivial) (fun i x μ2 R1 R2 hx hl h1 h2 => ?_) (fun _ _ => ?_)
  · obtain ⟨hi, rfl⟩ := rng_get hx
    simp only [sSeq, sAsg, sRet, sRetN, sDrop, sIf, sPar, sDPutD, sNext, sBrk, sCont, sRaise, sAugI, sFor, sFreeze, dVar, dC, dOp, dTest, dAnd, dOr, dNot, dAndV, dOrV, dNotV, dIf, dChain, dTup, dLst, dLstM, dNil, dCons, dCB, dCall, dCallK, dRev, dSlice, oNone, oSome, dIsN, dNeg, dDGet, dDict, dPs, dPop, dPopAt, dAppend, dLc, dRgL, dRgT, gRg1, gRg2, iSeqD, iRng1D, iRng2D, tTrue, rdAdd, rdI, rdI0, rdB0, rdIx, rdMul, cdLen, cdAbs, cdInt, cdMin2, cdMax2, cdTup, cdList, cdListM, cdAll, cdAny, cdIsi, dName, dGTup, dGCons, dGNil, dGSub, startD, wipeD, seqOf, listOf, keepOf, List.map_cons, List.map_nil, List.length_cons, List.length_nil, List.cons_append, List.nil_append, Nat.reduceAdd, Nat.reduceSub, List.replicate_succ, List.replicate_zero, List.replicate, List.set_cons_zero, List.set_cons_succ, List.getElem?_cons_zero, List.getElem?_cons_succ, Int.reduceToNat, Int.reduceNeg, Bool.false_eq_true, if_true, if_false, decide_eq_true_eq, Option.some.injEq, exists_eq_left', exists_eq_left, true_and, and_true, D.key, D.int.injEq, D.bl.injEq, D.tup.injEq, D.ref.injEq, D.lst.injEq, D.arg.injEq]
    have hk1 : i + 1 < ls.length := by omega
    refine ⟨_, atI_ints (by omega) (by omega), _, atI_ints (by omega) (by omega), ?_⟩
    rw [show ((0 : Int) + (i : Nat) + 1).toNat = i + 1 by omega, show ((0 : Int) + (i : Nat)).toNat = i by omega] at *
    have lx := w4.1 _ (getD_mem' (ns := ls) (i := i) (by omega))
    refine ⟨_, atI_ints lx.1 lx.2, eq_int ⟨_, rfl, ?_⟩⟩
    rw [Bool.xor_false]
    have hg : ((0 : Int) + (i : Nat)).toNat = i := by omega
    by_cases c : ls.getD (i + 1) 0 = bk bs (ls.getD i 0)
    · rw [if_pos (show decide (ls.getD (i + 1) 0 = bs.getD (ls.getD i 0).toNat 0) = true from decide_eq_true c)]
      exact h1 _ (by show (if _ then _ else _) = _; rw [hg, if_pos c])
    · rw [if_neg (by simpa [bk] using c)]
      exact h2 (by show (if _ then _ else _) = _; rw [hg, if_neg c])
  obtain ⟨fl, hfl⟩ : ∃ fl, fl = (List.range n).filter fun k => decide (ls.getD (k + 1) 0 = bk bs (ls.getD k 0)) := ⟨_, rfl⟩
  have ef : (rng 0 n).filterMap (fun d => match d with | .int k => if ls.getD (k.toNat + 1) 0 = bk bs (ls.getD k.toNat 0) then some (D.int k) else none | _ => none) = (fl.map fun k : Nat => (k : Int)).map D.int := by
    rw [hfl]
    exact filt_rng (fun k => ls.getD (k + 1) 0 = bk bs (ls.getD k 0)) (List.range n)
  simp only [sSeq, sAsg, sRet, sRetN, sDrop, sIf, sPar, sDPutD, sNext, sBrk, sCont, sRaise, sAugI, sFor, sFreeze, dVar, dC, dOp, dTest, dAnd, dOr, dNot, dAndV, dOrV, dNotV, dIf, dChain, dTup, dLst, dLstM, dNil, dCons, dCB, dCall, dCallK, dRev, dSlice, oNone, oSome, dIsN, dNeg, dDGet, dDict, dPs, dPop, dPopAt, dAppend, dLc, dRgL, dRgT, gRg1, gRg2, iSeqD, iRng1D, iRng2D, tTrue, rdAdd, rdI, rdI0, rdB0, rdIx, rdMul, cdLen, cdAbs, cdInt, cdMin2, cdMax2, cdTup, cdList, cdListM, cdAll, cdAny, cdIsi, dName, dGTup, dGCons, dGNil, dGSub, startD, wipeD, seqOf, listOf, keepOf, List.map_cons, List.map_nil, List.length_cons, List.length_nil, List.cons_append, List.nil_append, Nat.reduceAdd, Nat.reduceSub, List.replicate_succ, List.replicate_zero, List.replicate, List.set_cons_zero, List.set_cons_succ, List.getElem?_cons_zero, List.getElem?_cons_succ, Int.reduceToNat, Int.reduceNeg, Bool.false_eq_true, if_true, if_false, decide_eq_true_eq, Option.some.injEq, exists_eq_left', exists_eq_left, true_and, and_true, D.key, D.int.injEq, D.bl.injEq, D.tup.injEq, D.ref.injEq, D.lst.injEq, D.arg.injEq, ef]
  refine ⟨sl_ok (by decide), eq_nil (xs := (fl.map fun k : Nat => (k : Int)).map D.int) rfl ints_ok ⟨_, rfl, ?_⟩⟩
  rw [Bool.xor_false]
  by_cases c : fl = []
  · rw [if_pos (by rw [c]; rfl)]
    have r : Rdc bs ls := rdc_of B ls w4.1 fun k hk e => by
      have : k ∈ fl := by
        rw [hfl]
        exact List.mem_filter.mpr ⟨List.mem_range.mpr (by omega), by simpa using e⟩
      rw [c] at this
      cases this
    have e1 : ls = freeI bs ms := (free_rdc r).symm.trans e4
    exact t_16 hn D2 B n6 w1 w2 w3 w4 e1 (e1.trans e2) l90
  · rw [if_neg (by simpa using c)]
    refine ⟨q, l, _, (fl.map fun k : Nat => (k : Int)).map D.int, rfl, .inl rfl, ?_, ?_, D2, fun i x μ3 hx D3 _ => ?_⟩
    · rw [List.length_map, List.length_map]
      exact List.length_pos_iff.mpr c
    · rw [List.length_map, List.length_map, hfl]
      have := List.length_filter_le (fun k => decide (ls.getD (k + 1) 0 = bk bs (ls.getD k 0))) (List.range n)
      rw [List.length_range] at this
      omega
    obtain ⟨m, hm, rfl⟩ := ints_get' hx
    obtain ⟨k, hk, rfl⟩ := List.mem_map.mp (List.mem_of_getElem? hm)
    rw [hfl] at hk
    obtain ⟨hk1, hk2⟩ := List.mem_filter.mp hk
    have hk3 : k + 1 < ls.length := by have := List.mem_range.mp hk1; omega
    have hk4 : ls.getD (k + 1) 0 = bk bs (ls.getD k 0) := by simpa using hk2
    have lx := w4.1 _ (getD_mem' (ns := ls) (i := k) (by omega))
    have es : ls = ls.take k ++ [ls.getD k 0, bk bs (ls.getD k 0)] ++ ls.drop (k + 2) := by
      rw [← hk4, List.getD_eq_getElem?_getD, List.getD_eq_getElem?_getD, List.getElem?_eq_getElem (by omega), List.getElem?_eq_getElem hk3]
      simp only [Option.getD_some]
      conv => lhs; rw [← List.take_append_drop k ls, List.drop_eq_getElem_cons (show k < ls.length by omega), List.drop_eq_getElem_cons hk3]
      simp
    have wn : Wd bs.length (ls.take k ++ ls.drop (k + 2)) := by
      refine ⟨lets_app.mpr ⟨fun y hy => w4.1 y (List.mem_of_mem_take hy), fun y hy => w4.1 y (List.mem_of_mem_drop hy)⟩, ?_⟩
      rw [List.length_append, List.length_take, List.length_drop]
      have := w4.2
      omega
    refine ⟨k, rfl, ?_⟩
    show (cutD (ls.map D.int) none (some (k : Int))).length + (cutD (ls.map D.int) (some ((k : Int) + 2)) none).length ≤ sizeLine ∧ _
    rw [cut_take (by omega) (by omega), cut_drop (by omega) (by omega), show ((k : Int)).toNat = k by omega, show ((k : Int) + 2).toNat = k + 2 by omega, ← List.map_take, ← List.map_drop, ← List.map_append]
    refine ⟨sl_ok (by rw [List.length_map, List.length_map, List.length_take, List.length_drop]; omega), (ls.take k ++ ls.drop (k + 2)).length, ?_, _, _, _, ls.take k ++ ls.drop (k + 2), rfl, rfl, D3, wn, ?_⟩
    · rw [List.length_append, List.length_take, List.length_drop]
      omega
    · rw [← e4]
      conv => rhs; rw [es]
      exact (free_pair B lx.1 lx.2).symm
/-- the word with pairs put in -/
theorem t_5 (hn : NX DD a q l) (D1 : DrawAt μ q l) (B : BackI bs) (n6 : bs.length ≤ 6) (w1 : Wd bs.length ws) (w2 : Wd bs.length os) (l90 : ws.length ≤ 90) :
    db_law_5 DD [some a, some (.ref q), o2, some (tI bs), some (tI ws), some (tI os), o6, o7, o8, o9, o10, o11, o12, o13, o14, o15] μ := by
  unfold db_law_5
  simp only [sSeq, sAsg, sRet, sRetN, sDrop, sIf, sPar, sDPutD, sNext, sBrk, sCont, sRaise, sAugI, sFor, sFreeze, dVar, dC, dOp, dTest, dAnd, dOr, dNot, dAndV, dOrV, dNotV, dIf, dChain, dTup, dLst, dLstM, dNil, dCons, dCB, dCall, dCallK, dRev, dSlice, oNone, oSome, dIsN, dNeg, dDGet, dDict, dPs, dPop, dPopAt, dAppend, dLc, dRgL, dRgT, gRg1, gRg2, iSeqD, iRng1D, iRng2D, tTrue, rdAdd, rdI, rdI0, rdB0, rdIx, rdMul, cdLen, cdAbs, cdInt, cdMin2, cdMax2, cdTup, cdList, cdListM, cdAll, cdAny, cdIsi, dName, dGTup, dGCons, dGNil, dGSub, startD, wipeD, seqOf, listOf, keepOf, List.map_cons, List.map_nil, List.length_cons, List.length_nil, List.cons_append, List.nil_append, Nat.reduceAdd, Nat.reduceSub, List.replicate_succ, List.replicate_zero, List.replicate, List.set_cons_zero, List.set_cons_succ, List.getElem?_cons_zero, List.getElem?_cons_succ, Int.reduceToNat, Int.reduceNeg, Bool.false_eq_true, if_true, if_false, decide_eq_true_eq, Option.some.injEq, exists_eq_left', exists_eq_left, true_and, and_true, D.key, D.int.injEq, D.bl.injEq, D.tup.injEq, D.ref.injEq, D.lst.injEq, D.arg.injEq]
  refine ⟨q, l, 5, rfl, D1, by decide, by decide, fun t μ1 t0 t1 D2 _ => ⟨t, rfl, by omega, by omega, ?_⟩⟩
  obtain ⟨n, hn1⟩ : ∃ n : Nat, t.toNat = n := ⟨_, rfl⟩
  have n4 : n ≤ 4 := by omega
  rw [hn1]
  have lr : (rng 0 n).length = n := by unfold rng; rw [List.length_map, List.length_range]
  refine ⟨fun i ρ' μ' => ∃ (p7 p8 p9 : Option D) (ms : List Int), ρ' = [some a, some (.ref q), o2, some (tI bs), some (tI ws), some (tI os), some (tI ms), p7, p8, p9, o10, o11, o12, o13, o14, o15] ∧ DrawAt μ' q l ∧ Lets bs.length ms ∧ ms.length = ws.length + 2 * i ∧ freeI bs ms = freeI bs ws, ⟨o7, o8, o9, ws, rfl, D2, w1.1, by omega, rfl⟩, fun _ _ _ _ _ => trivial, ?_, ?_⟩
  · rintro i d ρ' μ' hd ⟨p7, p8, p9, ms, rfl, D3, hm, hl, he⟩
    obtain ⟨hi, rfl⟩ := rng_get hd
    simp only [sSeq, sAsg, sRet, sRetN, sDrop, sIf, sPar, sDPutD, sNext, sBrk, sCont, sRaise, sAugI, sFor, sFreeze, dVar, dC, dOp, dTest, dAnd, dOr, dNot, dAndV, dOrV, dNotV, dIf, dChain, dTup, dLst, dLstM, dNil, dCons, dCB, dCall, dCallK, dRev, dSlice, oNone, oSome, dIsN, dNeg, dDGet, dDict, dPs, dPop, dPopAt, dAppend, dLc, dRgL, dRgT, gRg1, gRg2, iSeqD, iRng1D, iRng2D, tTrue, rdAdd, rdI, rdI0, rdB0, rdIx, rdMul, cdLen, cdAbs, cdInt, cdMin2, cdMax2, cdTup, cdList, cdListM, cdAll, cdAny, cdIsi, dName, dGTup, dGCons, dGNil, dGSub, startD, wipeD, seqOf, listOf, keepOf, List.map_cons, List.map_nil, List.length_cons, List.length_nil, List.cons_append, List.nil_append, Nat.reduceAdd, Nat.reduceSub, List.replicate_succ, List.replicate_zero, List.replicate, List.set_cons_zero, List.set_cons_succ, List.getElem?_cons_zero, List.getElem?_cons_succ, Int.reduceToNat, Int.reduceNeg, Bool.false_eq_true, if_true, if_false, decide_eq_true_eq, Option.some.injEq, exists_eq_left', exists_eq_left, true_and, and_true, D.key, D.int.injEq, D.bl.injEq, D.tup.injEq, D.ref.injEq, D.lst.injEq, D.arg.injEq]
    refine ⟨q, l, _, rfl, D3, by rw [List.length_map]; omega, by rw [List.length_map]; omega, fun sp μ4 s0 s1 D4 _ => ⟨q, l, _, rfl, D4, by rw [List.length_map]; have := B.two; omega, by rw [List.length_map]; omega, fun lt μ5 x0 x1 D5 _ => ?_⟩⟩
    rw [List.length_map] at s1 x1
    obtain ⟨b0, b1, b2⟩ := bk_back B x0 x1
    refine ⟨sp, rfl, _, atI_ints x0 x1, sl_ok (by decide), ?_⟩
    rw [cut_take s0 (by rw [List.length_map]; omega), ← List.map_take]
    refine ⟨sl_ok (by rw [List.length_map, List.length_take]; show _ + 2 ≤ _; omega), sp, rfl, ?_⟩
    rw [cut_drop s0 (by rw [List.length_map]; omega), ← List.map_drop]
    refine ⟨sl_ok (by rw [List.length_append, List.length_map, List.length_map, List.length_take, List.length_drop]; show _ + 2 + _ ≤ _; omega), some (.int (0 + (i : Nat))), some (.int sp), some (.int lt), ms.take sp.toNat ++ [lt, bk bs lt] ++ ms.drop sp.toNat, ?_, D5, ?_, ?_, ?_⟩
    · have e : (ms.take sp.toNat).map D.int ++ [D.int lt, D.int (bs.getD lt.toNat 0)] ++ (ms.drop sp.toNat).map D.int = (ms.take sp.toNat ++ [lt, bk bs lt] ++ ms.drop sp.toNat).map D.int := by
        rw [List.map_append, List.map_append]
        rfl
      rw [e]
    · refine lets_app.mpr ⟨lets_app.mpr ⟨fun y hy => hm y (List.mem_of_mem_take hy), fun y hy => ?_⟩, fun y hy => hm y (List.mem_of_mem_drop hy)⟩
      simp only [List.mem_cons, List.not_mem_nil, or_false] at hy
      rcases hy with rfl | rfl
      · exact ⟨x0, x1⟩
      · exact ⟨b0, b1⟩
    · rw [List.length_append, List.length_append, List.length_take, List.length_drop]
      show _ + 2 + _ = _
      omega
    · rw [free_pair B x0 x1, List.take_append_drop]
      exact he
  · rintro ρ' μ' ⟨p7, p8, p9, ms, rfl, D3, hm, hl, he⟩
    rw [lr] at hl
    exact t_9 hn D3 B n6 w1 w2 ⟨hm, by omega⟩ he l90
end
theorem pu_law (ds : List D) (μ : Mu) (Q : DQ) (QE : XQ) (h : sd_law ds μ Q QE) : db_law { nx := fun _ μ' => fin Q .non μ', rt := fin Q, xe := finX QE } (startD ["script", "draw", "turn", "back_here", "word_here", "other", "mixed", "lap", "spot", "letter", "left_here", "k", "some", "due", "one", "shortest"] ds) μ := by
  obtain ⟨ns, rfl, hn, k⟩ := h
  unfold db_law
  simp only [sSeq, sAsg, sRet, sRetN, sDrop, sIf, sPar, sDPutD, sNext, sBrk, sCont, sRaise, sAugI, sFor, sFreeze, dVar, dC, dOp, dTest, dAnd, dOr, dNot, dAndV, dOrV, dNotV, dIf, dChain, dTup, dLst, dLstM, dNil, dCons, dCB, dCall, dCallK, dRev, dSlice, oNone, oSome, dIsN, dNeg, dDGet, dDict, dPs, dPop, dPopAt, dAppend, dLc, dRgL, dRgT, gRg1, gRg2, iSeqD, iRng1D, iRng2D, tTrue, rdAdd, rdI, rdI0, rdB0, rdIx, rdMul, cdLen, cdAbs, cdInt, cdMin2, cdMax2, cdTup, cdList, cdListM, cdAll, cdAny, cdIsi, dName, dGTup, dGCons, dGNil, dGSub, startD, wipeD, seqOf, listOf, keepOf, List.map_cons, List.map_nil, List.length_cons, List.length_nil, List.cons_append, List.nil_append, Nat.reduceAdd, Nat.reduceSub, List.replicate_succ, List.replicate_zero, List.replicate, List.set_cons_zero, List.set_cons_succ, List.getElem?_cons_zero, List.getElem?_cons_succ, Int.reduceToNat, Int.reduceNeg, Bool.false_eq_true, if_true, if_false, decide_eq_true_eq, Option.some.injEq, exists_eq_left', exists_eq_left, true_and, and_true, D.key, D.int.injEq, D.bl.injEq, D.tup.injEq, D.ref.injEq, D.lst.injEq, D.arg.injEq]
  refine ⟨ns, rfl, hn, fun q l μ1 h1 h2 D1 L1 => ?_⟩
  refine ⟨by split <;> omega, by split <;> omega, ?_⟩
  refine ⟨fun i ρ' μ' => ∃ o2 o3 o4 o5 o6 o7 o8 o9 o10 o11 o12 o13 o14 o15, ρ' = [some (.arg (ns.map .int)), some (.ref q), o2, o3, o4, o5, o6, o7, o8, o9, o10, o11, o12, o13, o14, o15] ∧ DrawAt μ' q l, ⟨_, _, _, _, _, _, _, _, _, _, _, _, _, _, rfl, D1⟩, fun _ _ _ _ _ => trivial, ?_, fun ρ' μ' _ => fin_self (k μ')⟩
  rintro i d ρ' μ' hd ⟨o2, o3, o4, o5, o6, o7, o8, o9, o10, o11, o12, o13, o14, o15, rfl, D2⟩
  obtain ⟨_, rfl⟩ := rng_get hd
  clear hd
  simp only [sSeq, sAsg, sRet, sRetN, sDrop, sIf, sPar, sDPutD, sNext, sBrk, sCont, sRaise, sAugI, sFor, sFreeze, dVar, dC, dOp, dTest, dAnd, dOr, dNot, dAndV, dOrV, dNotV, dIf, dChain, dTup, dLst, dLstM, dNil, dCons, dCB, dCall, dCallK, dRev, dSlice, oNone, oSome, dIsN, dNeg, dDGet, dDict, dPs, dPop, dPopAt, dAppend, dLc, dRgL, dRgT, gRg1, gRg2, iSeqD, iRng1D, iRng2D, tTrue, rdAdd, rdI, rdI0, rdB0, rdIx, rdMul, cdLen, cdAbs, cdInt, cdMin2, cdMax2, cdTup, cdList, cdListM, cdAll, cdAny, cdIsi, dName, dGTup, dGCons, dGNil, dGSub, startD, wipeD, seqOf, listOf, keepOf, List.map_cons, List.map_nil, List.length_cons, List.length_nil, List.cons_append, List.nil_append, Nat.reduceAdd, Nat.reduceSub, List.replicate_succ, List.replicate_zero, List.replicate, List.set_cons_zero, List.set_cons_succ, List.getElem?_cons_zero, List.getElem?_cons_succ, Int.reduceToNat, Int.reduceNeg, Bool.false_eq_true, if_true, if_false, decide_eq_true_eq, Option.some.injEq, exists_eq_left', exists_eq_left, true_and, and_true, D.key, D.int.injEq, D.bl.injEq, D.tup.injEq, D.ref.injEq, D.lst.injEq, D.arg.injEq]
  refine ⟨q, l, rfl, D2, fun bs μ2 B hbs D3 _ => eq_int ⟨_, rfl, ?_⟩⟩
  have bl : (bs.map D.int).length = bs.length := List.length_map _
  have b2 := B.two
  have fin : ∀ (DD : DEnds), NX DD (.arg (ns.map .int)) q l → ∀ (most : Int), 0 ≤ most → most ≤ 90 → sd__law_word [.ref q, tI bs, .int most] μ2 (fun d_2 μ1 => sd__law_word [.ref q, tI bs, .int 6] μ1 (fun d_3 μ1 => db_law_5 DD [some (.arg (ns.map .int)), some (.ref q), some (.int (0 + (i : Nat))), some (tI bs), some d_2, some d_3, o6, o7, o8, o9, o10, o11, o12, o13, o14, o15] μ1) DD.xe) DD.xe := fun DD nx most m0 m1 => by
    refine ⟨q, l, bs.map .int, most, rfl, by omega, by omega, m0, by omega, D3, fun ws μ3 hw1 hw2 D4 _ => ⟨q, l, bs.map .int, 6, rfl, by omega, by omega, by decide, by decide, D4, fun os μ4 ho1 ho2 D5 _ => ?_⟩⟩
    rw [bl] at hw2 ho2
    exact t_5 nx D5 B hbs ⟨hw2, by omega⟩ ⟨ho2, by omega⟩ (by omega)
  split
  · refine fin _ ?_ 90 (by decide) (by decide)
    exact fun _ _ _ _ _ _ _ _ _ _ _ _ _ _ _ D => ⟨_, _, _, _, _, _, _, _, _, _, _, _, _, _, rfl, D⟩
  · refine fin _ ?_ 14 (by decide) (by decide)
    exact fun _ _ _ _ _ _ _ _ _ _ _ _ _ _ _ D => ⟨_, _, _, _, _, _, _, _, _, _, _, _, _, _, rfl, D⟩
end DL

namespace K02
open PySem PySem.Spec PyProof.Rows L2 DL
/-! ### the text (printed by gen.py) -/
def top (i : Nat) : Stmt := PySem.Challenge.pw_gatewords_k02_whole_free_words.main.body.getD i (.Pass ⟨0, 0, 0, 0⟩)
/-- what the top leaves of the names that are read -/
structure Txt (K : PySem.W.Frag) (mg : Str → Option Value) : Prop where
  b_abs : mg "abs" = none
  b_all : mg "all" = none
  b_bool : mg "bool" = none
  b_int : mg "int" = none
  b_isinstance : mg "isinstance" = none
  b_len : mg "len" = none
  b_list : mg "list" = none
  b_min : mg "min" = none
  b_range : mg "range" = none
  b_repr : mg "repr" = none
  b_sorted : mg "sorted" = none
  b_tuple : mg "tuple" = none
  c_LEAST_LETTERS : ∃ t, mg "LEAST_LETTERS" = some (.int 2 t)
  c_LONGEST_WORD : ∃ t, mg "LONGEST_WORD" = some (.int 200 t)
  c_MOST_LETTERS : ∃ t, mg "MOST_LETTERS" = some (.int 12 t)
  e_BadBack : ExcC K mg "BadBack"
  e_BadWord : ExcC K mg "BadWord"
abbrev s_is_number : Stmt := top 5
theorem sc_is_number : FnScope ["thing"] ["thing"] (defScope s_is_number) := ⟨rfl, rfl, rfl, by decide +kernel, rfl, by decide +kernel, by decide +kernel⟩
abbrev s_is_between : Stmt := top 6
theorem sc_is_between : FnScope ["thing", "low", "high"] ["thing", "low", "high"] (defScope s_is_between) := ⟨rfl, rfl, rfl, by decide +kernel, rfl, by decide +kernel, by decide +kernel⟩
abbrev s_is_back : Stmt := top 11
theorem sc_is_back : FnScope ["thing", "item", "k"] ["thing"] (defScope s_is_back) := ⟨rfl, rfl, rfl, by decide +kernel, rfl, by decide +kernel, by decide +kernel⟩
abbrev s_need_back : Stmt := top 12
theorem sc_need_back : FnScope ["back"] ["back"] (defScope s_need_back) := ⟨rfl, rfl, rfl, by decide +kernel, rfl, by decide +kernel, by decide +kernel⟩
abbrev s_is_letters : Stmt := top 13
theorem sc_is_letters : FnScope ["back", "thing", "item"] ["back", "thing"] (defScope s_is_letters) := ⟨rfl, rfl, rfl, by decide +kernel, rfl, by decide +kernel, by decide +kernel⟩
abbrev s_is_word : Stmt := top 14
theorem sc_is_word : FnScope ["back", "thing"] ["back", "thing"] (defScope s_is_word) := ⟨rfl, rfl, rfl, by decide +kernel, rfl, by decide +kernel, by decide +kernel⟩
abbrev s_need_word : Stmt := top 15
theorem sc_need_word : FnScope ["back", "thing"] ["back", "thing"] (defScope s_need_word) := ⟨rfl, rfl, rfl, by decide +kernel, rfl, by decide +kernel, by decide +kernel⟩
abbrev s_free_of : Stmt := top 16
theorem sc_free_of : FnScope ["back", "word", "found", "letter"] ["back", "word"] (defScope s_free_of) := ⟨rfl, rfl, rfl, by decide +kernel, rfl, by decide +kernel, by decide +kernel⟩
abbrev s_free : Stmt := top 17
theorem sc_free : FnScope ["back", "word"] ["back", "word"] (defScope s_free) := ⟨rfl, rfl, rfl, by decide +kernel, rfl, by decide +kernel, by decide +kernel⟩
abbrev s_undone_of : Stmt := top 18
theorem sc_undone_of : FnScope ["back", "word", "letter"] ["back", "word"] (defScope s_undone_of) := ⟨rfl, rfl, rfl, by decide +kernel, rfl, by decide +kernel, by decide +kernel⟩
abbrev s_undone : Stmt := top 19
theorem sc_undone : FnScope ["back", "word"] ["back", "word"] (defScope s_undone) := ⟨rfl, rfl, rfl, by decide +kernel, rfl, by decide +kernel, by decide +kernel⟩
abbrev s_key_of : Stmt := top 20
theorem sc_key_of : FnScope ["row"] ["row"] (defScope s_key_of) := ⟨rfl, rfl, rfl, by decide +kernel, rfl, by decide +kernel, by decide +kernel⟩
abbrev s_least_of : Stmt := top 21
theorem sc_least_of : FnScope ["words"] ["words"] (defScope s_least_of) := ⟨rfl, rfl, rfl, by decide +kernel, rfl, by decide +kernel, by decide +kernel⟩
abbrev s__law_begun : Stmt := top 23
theorem sc__law_begun : FnScope ["script", "grain", "large"] ["script"] (defScope s__law_begun) := ⟨rfl, rfl, rfl, by decide +kernel, rfl, by decide +kernel, by decide +kernel⟩
abbrev s__law_mixed : Stmt := top 24
theorem sc__law_mixed : FnScope ["draw", "turn", "found", "great", "blend", "grain"] ["draw"] (defScope s__law_mixed) := ⟨rfl, rfl, rfl, by decide +kernel, rfl, by decide +kernel, by decide +kernel⟩
abbrev s__law_take : Stmt := top 25
theorem sc__law_take : FnScope ["draw", "amount", "found"] ["draw", "amount"] (defScope s__law_take) := ⟨rfl, rfl, rfl, by decide +kernel, rfl, by decide +kernel, by decide +kernel⟩
abbrev s__law_pick : Stmt := top 26
theorem sc__law_pick : FnScope ["draw", "some"] ["draw", "some"] (defScope s__law_pick) := ⟨rfl, rfl, rfl, by decide +kernel, rfl, by decide +kernel, by decide +kernel⟩
abbrev s__law_shuffled : Stmt := top 27
theorem sc__law_shuffled : FnScope ["draw", "some", "left", "found"] ["draw", "some"] (defScope s__law_shuffled) := ⟨rfl, rfl, rfl, by decide +kernel, rfl, by decide +kernel, by decide +kernel⟩
abbrev s__law_back : Stmt := top 28
theorem sc__law_back : FnScope ["draw", "line", "many", "left_here", "found", "one", "other"] ["draw"] (defScope s__law_back) := ⟨rfl, rfl, rfl, by decide +kernel, rfl, by decide +kernel, by decide +kernel⟩
abbrev s__law_word : Stmt := top 29
theorem sc__law_word : FnScope ["draw", "back_here", "most", "k"] ["draw", "back_here", "most"] (defScope s__law_word) := ⟨rfl, rfl, rfl, by decide +kernel, rfl, by decide +kernel, by decide +kernel⟩
abbrev s_law : Stmt := top 30
theorem sc_law : FnScope ["script", "draw", "turn", "back_here", "word_here", "other", "mixed", "lap", "spot", "letter", "left_here", "k", "some", "due", "one", "shortest"] ["script"] (defScope s_law) := ⟨rfl, rfl, rfl, by decide +kernel, rfl, by decide +kernel, by decide +kernel⟩
section
variable {P : Program} {w : World} {K : PySem.W.Frag} {mg : Str → Option Value} {base : Heap}
theorem rd_is_number (T : Txt K mg)  {f : Addr} {cdv : Value} {A : Around} {outer : List Env} {s : Shared} {H : Hp} {E : XK} (hr : Room 0 (A.deeper (envOfC "is_number" (defScope s_is_number) s.heap.objs.size f cdv))) :
    RSs (cxOf (L2.CX P w) P w K mg base ["thing"] "is_number" (defScope s_is_number) f cdv A outer s H E) (fun cls d _ H => E cls d H) (defBody s_is_number) db_is_number :=
  (rss_one (rs_ret (re_and (re_cb call_isi ca_isi (by rfl) T.b_isinstance bx_isinstance (ra_cons (rv 0) (ra_cons (re_bltn (v := .ty "int") (by rfl) T.b_int bx_int rfl (fun _ => .ty _)) ra_nil))) (re_one (re_not (re_cb call_isi ca_isi (by rfl) T.b_isinstance bx_isinstance (ra_cons (rv 0) (ra_cons (re_bltn (v := .ty "bool") (by rfl) T.b_bool bx_bool rfl (fun _ => .ty _)) ra_nil))))))))
theorem rd_is_between (T : Txt K mg) (D_is_number : Def P w K mg base 1 "is_number" s_is_number ["thing"] sd_is_number) {f : Addr} {cdv : Value} {A : Around} {outer : List Env} {s : Shared} {H : Hp} {E : XK} (hr : Room 1 (A.deeper (envOfC "is_between" (defScope s_is_between) s.heap.objs.size f cdv))) :
    RSs (cxOf (L2.CX P w) P w K mg base ["thing", "low", "high"] "is_between" (defScope s_is_between) f cdv A outer s H E) (fun cls d _ H => E cls d H) (defBody s_is_between) db_is_between :=
  (rss_one (rs_ret (re_and (rcall D_is_number (hr.mono (by decide)) (takes_of rfl rfl rfl rfl) (ra_cons (rv 0) ra_nil)) (re_one (re_chain op_le op_le (od_B0 (f := fun i j => decide (i ≤ j))) (od_B0 (f := fun i j => decide (i ≤ j))) (rv 1) (rv 0) (rv 2))))))
theorem rd_is_back (T : Txt K mg) (D_is_between : Def P w K mg base 2 "is_between" s_is_between ["thing", "low", "high"] sd_is_between) {f : Addr} {cdv : Value} {A : Around} {outer : List Env} {s : Shared} {H : Hp} {E : XK} (hr : Room 2 (A.deeper (envOfC "is_back" (defScope s_is_back) s.heap.objs.size f cdv))) :
    RSs (cxOf (L2.CX P w) P w K mg base ["thing", "item", "k"] "is_back" (defScope s_is_back) f cdv A outer s H E) (fun cls d _ H => E cls d H) (defBody s_is_back) db_is_back :=
  (rss_cons (rs_if (RW.rt (rw_or (rt_not (rt_val (re_cb call_isi ca_isi (by rfl) T.b_isinstance bx_isinstance (ra_cons (rv 0) (ra_cons (re_bltn (v := .ty "tuple") (by rfl) T.b_tuple bx_tuple rfl (fun _ => .ty _)) ra_nil))))) (rw_or1 (rt_not (rt_chain op_le op_le (od_B0 (f := fun i j => decide (i ≤ j))) (od_B0 (f := fun i j => decide (i ≤ j))) (re_globI (by rfl) T.c_LEAST_LETTERS) (re_cb call_len ca_len (by rfl) T.b_len bx_len (ra_cons (rv 0) ra_nil)) (re_globI (by rfl) T.c_MOST_LETTERS)))))) (rss_one (rs_ret re_bl)) rss_nil)
    (rss_cons (rs_if (rt_not (rt_val (re_cb (cr_all rfl) ca_all (by rfl) T.b_all bx_all (ra_cons (re_lc false (own := [("item", 1)]) rfl sc_is_back.nd (ri_seq (rv 0)) (blkOk_by (N := ["thing", "item", "k"]) (sc := defScope s_is_back) (by decide +kernel)) (by decide) (fun _ _ _ _ _ => (rg_name (i := 1) sc_is_back.nd rfl (Or.inl rfl))) (fun _ _ _ _ _ => rts_nil) (fun _ _ _ _ _ => (rcall D_is_between (hr.mono (by decide)) takes0 (ra_cons (rv 1) (ra_cons re_int (ra_cons (re_op op_sub (od_I0 (f := fun i j => i - j)) (re_cb call_len ca_len (by rfl) T.b_len bx_len (ra_cons (rv 0) ra_nil)) re_int) ra_nil)))))) ra_nil)))) (rss_one (rs_ret re_bl)) rss_nil)
    (rss_one (rs_ret (re_cb (cr_all rfl) ca_all (by rfl) T.b_all bx_all (ra_cons (re_lc false (own := [("k", 2)]) rfl sc_is_back.nd (ri_range1 (by rfl) T.b_range (re_cb call_len ca_len (by rfl) T.b_len bx_len (ra_cons (rv 0) ra_nil))) (blkOk_by (N := ["thing", "item", "k"]) (sc := defScope s_is_back) (by decide +kernel)) (by decide) (fun _ _ _ _ _ => (rg_name (i := 2) sc_is_back.nd rfl (Or.inl rfl))) (fun _ _ _ _ _ => rts_nil) (fun _ _ _ _ _ => (re_cmp (op_eqX hr.units) od_eq (re_ix ix_seq od_ix (rv 0) (re_ix ix_seq od_ix (rv 0) (rv 2) (fun _ _ => rfl)) (fun _ _ => rfl)) (rv 2) (nomark _)))) ra_nil))))))
theorem rd_need_back (T : Txt K mg) (D_is_back : Def P w K mg base 3 "is_back" s_is_back ["thing"] sd_is_back) {f : Addr} {cdv : Value} {A : Around} {outer : List Env} {s : Shared} {H : Hp} {E : XK} (hr : Room 3 (A.deeper (envOfC "need_back" (defScope s_need_back) s.heap.objs.size f cdv))) :
    RSs (cxOf (L2.CX P w) P w K mg base ["back"] "need_back" (defScope s_need_back) f cdv A outer s H E) (fun cls d _ H => E cls d H) (defBody s_need_back) db_need_back :=
  (rss_one (rs_if (rt_not (rt_val (rcall D_is_back (hr.mono (by decide)) (takes_of rfl rfl rfl rfl) (ra_cons (rv 0) ra_nil)))) (rss_one (rs_raise T.e_BadBack rfl (takes_of rfl rfl rfl rfl))) rss_nil))
theorem rd_is_letters (T : Txt K mg) (D_is_between : Def P w K mg base 2 "is_between" s_is_between ["thing", "low", "high"] sd_is_between) {f : Addr} {cdv : Value} {A : Around} {outer : List Env} {s : Shared} {H : Hp} {E : XK} (hr : Room 2 (A.deeper (envOfC "is_letters" (defScope s_is_letters) s.heap.objs.size f cdv))) :
    RSs (cxOf (L2.CX P w) P w K mg base ["back", "thing", "item"] "is_letters" (defScope s_is_letters) f cdv A outer s H E) (fun cls d _ H => E cls d H) (defBody s_is_letters) db_is_letters :=
  (rss_one (rs_ret (re_and (re_cb call_isi ca_isi (by rfl) T.b_isinstance bx_isinstance (ra_cons (rv 1) (ra_cons (re_bltn (v := .ty "tuple") (by rfl) T.b_tuple bx_tuple rfl (fun _ => .ty _)) ra_nil))) (re_one (re_cb (cr_all rfl) ca_all (by rfl) T.b_all bx_all (ra_cons (re_lc false (own := [("item", 2)]) rfl sc_is_letters.nd (ri_seq (rv 1)) (blkOk_by (N := ["back", "thing", "item"]) (sc := defScope s_is_letters) (by decide +kernel)) (by decide) (fun _ _ _ _ _ => (rg_name (i := 2) sc_is_letters.nd rfl (Or.inl rfl))) (fun _ _ _ _ _ => rts_nil) (fun _ _ _ _ _ => (rcall D_is_between (hr.mono (by decide)) takes0 (ra_cons (rv 2) (ra_cons re_int (ra_cons (re_op op_sub (od_I0 (f := fun i j => i - j)) (re_cb call_len ca_len (by rfl) T.b_len bx_len (ra_cons (rv 0) ra_nil)) re_int) ra_nil)))))) ra_nil))))))
theorem rd_is_word (T : Txt K mg) (D_is_letters : Def P w K mg base 3 "is_letters" s_is_letters ["back", "thing"] sd_is_letters) (D_need_back : Def P w K mg base 4 "need_back" s_need_back ["back"] sd_need_back) {f : Addr} {cdv : Value} {A : Around} {outer : List Env} {s : Shared} {H : Hp} {E : XK} (hr : Room 4 (A.deeper (envOfC "is_word" (defScope s_is_word) s.heap.objs.size f cdv))) :
    RSs (cxOf (L2.CX P w) P w K mg base ["back", "thing"] "is_word" (defScope s_is_word) f cdv A outer s H E) (fun cls d _ H => E cls d H) (defBody s_is_word) db_is_word :=
  (rss_cons (rs_expr (rcall D_need_back (hr.mono (by decide)) (takes_of rfl rfl rfl rfl) (ra_cons (rv 0) ra_nil)))
    (rss_one (rs_ret (re_and (rcall D_is_letters (hr.mono (by decide)) (takes_of rfl rfl rfl rfl) (ra_cons (rv 0) (ra_cons (rv 1) ra_nil))) (re_one (re_cmp op_le (od_B0 (f := fun i j => decide (i ≤ j))) (re_cb call_len ca_len (by rfl) T.b_len bx_len (ra_cons (rv 1) ra_nil)) (re_globI (by rfl) T.c_LONGEST_WORD) (nomark _)))))))
theorem rd_need_word (T : Txt K mg) (D_is_word : Def P w K mg base 5 "is_word" s_is_word ["back", "thing"] sd_is_word) {f : Addr} {cdv : Value} {A : Around} {outer : List Env} {s : Shared} {H : Hp} {E : XK} (hr : Room 5 (A.deeper (envOfC "need_word" (defScope s_need_word) s.heap.objs.size f cdv))) :
    RSs (cxOf (L2.CX P w) P w K mg base ["back", "thing"] "need_word" (defScope s_need_word) f cdv A outer s H E) (fun cls d _ H => E cls d H) (defBody s_need_word) db_need_word :=
  (rss_one (rs_if (rt_not (rt_val (rcall D_is_word (hr.mono (by decide)) (takes_of rfl rfl rfl rfl) (ra_cons (rv 0) (ra_cons (rv 1) ra_nil))))) (rss_one (rs_raise T.e_BadWord rfl (takes_of rfl rfl rfl rfl))) rss_nil))
theorem rd_free_of (T : Txt K mg)  {f : Addr} {cdv : Value} {A : Around} {outer : List Env} {s : Shared} {H : Hp} {E : XK} (hr : Room 0 (A.deeper (envOfC "free_of" (defScope s_free_of) s.heap.objs.size f cdv))) :
    RSs (cxOf (L2.CX P w) P w K mg base ["back", "word", "found", "letter"] "free_of" (defScope s_free_of) f cdv A outer s H E) (fun cls d _ H => E cls d H) (defBody s_free_of) db_free_of :=
  (rss_cons (rs_set (i := 2) sc_free_of.nd rfl (Or.inl rfl) (re_lstM ra_nil))
    (rss_cons (rs_for (passes_of rfl) rfl (ri_seq (rv 1)) (rg_name (i := 3) sc_free_of.nd rfl (Or.inl rfl)) (rss_one (rs_if (RW.rt (rw_and (rt_cmp (op_neX hr.units) od_ne (rv 2) (re_lst ra_nil) (nomark _)) (rw_and1 (rt_cmp (op_eqX hr.units) od_eq (re_ix ix_seq od_ix (rv 2) (re_neg re_int) (fun _ _ => rfl)) (re_ix ix_seq od_ix (rv 0) (rv 3) (fun _ _ => rfl)) (nomark _))))) (rss_one (rs_expr (re_pop (rv 2)))) (rss_one (rs_expr (re_append (rv 2) (rv 3)))))))
    (rss_one (rs_ret (re_ct call_tuple_of ca_tup (by rfl) T.b_tuple bx_tuple (ra_cons (rv 2) ra_nil))))))
theorem rd_free (T : Txt K mg) (D_free_of : Def P w K mg base 1 "free_of" s_free_of ["back", "word"] sd_free_of) (D_need_word : Def P w K mg base 6 "need_word" s_need_word ["back", "thing"] sd_need_word) {f : Addr} {cdv : Value} {A : Around} {outer : List Env} {s : Shared} {H : Hp} {E : XK} (hr : Room 6 (A.deeper (envOfC "free" (defScope s_free) s.heap.objs.size f cdv))) :
    RSs (cxOf (L2.CX P w) P w K mg base ["back", "word"] "free" (defScope s_free) f cdv A outer s H E) (fun cls d _ H => E cls d H) (defBody s_free) db_free :=
  (rss_cons (rs_expr (rcall D_need_word (hr.mono (by decide)) (takes_of rfl rfl rfl rfl) (ra_cons (rv 0) (ra_cons (rv 1) ra_nil))))
    (rss_one (rs_ret (rcall D_free_of (hr.mono (by decide)) (takes_of rfl rfl rfl rfl) (ra_cons (rv 0) (ra_cons (rv 1) ra_nil))))))
theorem rd_undone_of (T : Txt K mg)  {f : Addr} {cdv : Value} {A : Around} {outer : List Env} {s : Shared} {H : Hp} {E : XK} (hr : Room 0 (A.deeper (envOfC "undone_of" (defScope s_undone_of) s.heap.objs.size f cdv))) :
    RSs (cxOf (L2.CX P w) P w K mg base ["back", "word", "letter"] "undone_of" (defScope s_undone_of) f cdv A outer s H E) (fun cls d _ H => E cls d H) (defBody s_undone_of) db_undone_of :=
  (rss_one (rs_ret (re_ct call_tuple_of ca_tup (by rfl) T.b_tuple bx_tuple (ra_cons (re_lc false (own := [("letter", 2)]) rfl sc_undone_of.nd (ri_seq (re_rev (rv 1))) (blkOk_by (N := ["back", "word", "letter"]) (sc := defScope s_undone_of) (by decide +kernel)) (by decide) (fun _ _ _ _ _ => (rg_name (i := 2) sc_undone_of.nd rfl (Or.inl rfl))) (fun _ _ _ _ _ => rts_nil) (fun _ _ _ _ _ => (re_ix ix_seq od_ix (rv 0) (rv 2) (fun _ _ => rfl)))) ra_nil))))
theorem rd_undone (T : Txt K mg) (D_need_word : Def P w K mg base 6 "need_word" s_need_word ["back", "thing"] sd_need_word) (D_undone_of : Def P w K mg base 1 "undone_of" s_undone_of ["back", "word"] sd_undone_of) {f : Addr} {cdv : Value} {A : Around} {outer : List Env} {s : Shared} {H : Hp} {E : XK} (hr : Room 6 (A.deeper (envOfC "undone" (defScope s_undone) s.heap.objs.size f cdv))) :
    RSs (cxOf (L2.CX P w) P w K mg base ["back", "word"] "undone" (defScope s_undone) f cdv A outer s H E) (fun cls d _ H => E cls d H) (defBody s_undone) db_undone :=
  (rss_cons (rs_expr (rcall D_need_word (hr.mono (by decide)) (takes_of rfl rfl rfl rfl) (ra_cons (rv 0) (ra_cons (rv 1) ra_nil))))
    (rss_one (rs_ret (rcall D_undone_of (hr.mono (by decide)) (takes_of rfl rfl rfl rfl) (ra_cons (rv 0) (ra_cons (rv 1) ra_nil))))))
theorem rd_key_of (T : Txt K mg)  {f : Addr} {cdv : Value} {A : Around} {outer : List Env} {s : Shared} {H : Hp} {E : XK} (hr : Room 0 (A.deeper (envOfC "key_of" (defScope s_key_of) s.heap.objs.size f cdv))) :
    RSs (cxOf (L2.CX P w) P w K mg base ["row"] "key_of" (defScope s_key_of) f cdv A outer s H E) (fun cls d _ H => E cls d H) (defBody s_key_of) db_key_of :=
  (rss_one (rs_ret (re_tup (ra_cons (re_cb call_len ca_len (by rfl) T.b_len bx_len (ra_cons (rv 0) ra_nil)) (ra_cons (rv 0) ra_nil)))))
theorem rd_least_of (T : Txt K mg) (D_key_of : Def P w K mg base 1 "key_of" s_key_of ["row"] sd_key_of) {f : Addr} {cdv : Value} {A : Around} {outer : List Env} {s : Shared} {H : Hp} {E : XK} (hr : Room 2 (A.deeper (envOfC "least_of" (defScope s_least_of) s.heap.objs.size f cdv))) :
    RSs (cxOf (L2.CX P w) P w K mg base ["words"] "least_of" (defScope s_least_of) f cdv A outer s H E) (fun cls d _ H => E cls d H) (defBody s_least_of) db_least_of :=
  (rss_one (rs_ret (re_minK D_key_of (hr.mono (by decide)) (by rfl) T.b_min (rv 0))))
theorem rd__law_begun (T : Txt K mg)  {f : Addr} {cdv : Value} {A : Around} {outer : List Env} {s : Shared} {H : Hp} {E : XK} (hr : Room 0 (A.deeper (envOfC "_law_begun" (defScope s__law_begun) s.heap.objs.size f cdv))) :
    RSs (cxOf (L2.CX P w) P w K mg base ["script", "grain", "large"] "_law_begun" (defScope s__law_begun) f cdv A outer s H E) (fun cls d _ H => E cls d H) (defBody s__law_begun) db__law_begun :=
  (rss_cons (rs_setLc true (i := 2) (own := [("grain", 1)]) rfl sc__law_begun.nd rfl rfl (sw_true rfl rfl rfl (by decide +kernel)) (ri_seq (rv 0)) (blkOk_by (N := ["script", "grain", "large"]) (sc := defScope s__law_begun) (by decide +kernel)) (by decide) (fun _ _ _ _ _ => (rg_name (i := 1) sc__law_begun.nd rfl (Or.inl rfl))) (fun _ _ _ _ _ => (rts_one (rt_cmp op_ge (od_B0 (f := fun i j => decide (j ≤ i))) (re_cb call_abs ca_abs (by rfl) T.b_abs bx_abs (ra_cons (rv 1) ra_nil)) (re_op op_pow (od_I (C := CPow) (f := fun i j => i ^ j.toNat)) re_int re_int) (nomark _)))) (fun _ _ _ _ _ => (re_op op_sub (od_I0 (f := fun i j => i - j)) (re_cb call_abs ca_abs (by rfl) T.b_abs bx_abs (ra_cons (rv 1) ra_nil)) (re_op op_pow (od_I (C := CPow) (f := fun i j => i ^ j.toNat)) re_int re_int))))
    (rss_one (rs_ret (re_dict (rps_str (rv 2) (rps_str re_int (rps_str (re_lc false (own := [("grain", 1)]) rfl sc__law_begun.nd (ri_seq (rv 0)) (blkOk_by (N := ["script", "grain", "large"]) (sc := defScope s__law_begun) (by decide +kernel)) (by decide) (fun _ _ _ _ _ => (rg_name (i := 1) sc__law_begun.nd rfl (Or.inl rfl))) (fun _ _ _ _ _ => rts_nil) (fun _ _ _ _ _ => (re_cb call_abs ca_abs (by rfl) T.b_abs bx_abs (ra_cons (rv 1) ra_nil)))) (rps_str re_int rps_nil)))) rfl rfl (by intro h; cases h) (by decide) (by decide) (by decide +kernel)))))
theorem rd__law_mixed (T : Txt K mg)  {f : Addr} {cdv : Value} {A : Around} {outer : List Env} {s : Shared} {H : Hp} {E : XK} (hr : Room 0 (A.deeper (envOfC "_law_mixed" (defScope s__law_mixed) s.heap.objs.size f cdv))) :
    RSs (cxOf (L2.CX P w) P w K mg base ["draw", "turn", "found", "great", "blend", "grain"] "_law_mixed" (defScope s__law_mixed) f cdv A outer s H E) (fun cls d _ H => E cls d H) (defBody s__law_mixed) db__law_mixed :=
  (rss_cons (rs_dput hr (rv 0) re_str (re_op op_addAll od_add (re_dget hr (rv 0) re_str (fun _ _ => rfl)) re_int))
    (rss_cons (rs_par (i := 1) (j := 2) rfl sc__law_mixed.nd rfl rfl (by decide) rfl rfl (ra_cons (re_ct call_int1 ca_int (by rfl) T.b_int bx_int (ra_cons (re_dget hr (rv 0) re_str (fun _ _ => rfl)) ra_nil)) (ra_cons re_int ra_nil)))
    (rss_cons (rs_for (passes_of rfl) rfl (ri_seq (re_lst (ra_cons re_int (ra_cons re_int (ra_cons re_int ra_nil))))) (rg_name (i := 3) sc__law_mixed.nd rfl (Or.inl rfl)) (rss_cons (rs_set (i := 4) sc__law_mixed.nd rfl (Or.inl rfl) (re_op op_mod (od_I (C := fun _ j => 0 < j) (f := fun i j => i % j)) (re_op op_addAll od_add (re_op op_mulAll (od_mul (z := false)) (rv 1) re_int) (re_op op_fdivW (od_I (C := CDivW) (f := fun i j => i / j)) (rv 3) re_int)) (rv 3)))
    (rss_cons (rs_for (passes_of rfl) rfl (ri_seq (re_dget hr (rv 0) re_str (fun _ _ => rfl))) (rg_name (i := 5) sc__law_mixed.nd rfl (Or.inl rfl)) (rss_one (rs_set (i := 4) sc__law_mixed.nd rfl (Or.inl rfl) (re_op op_mod (od_I (C := fun _ j => 0 < j) (f := fun i j => i % j)) (re_op op_addAll od_add (re_op op_mulAll (od_mul (z := false)) (rv 4) re_int) (re_ct call_int1 ca_int (by rfl) T.b_int bx_int (ra_cons (rv 5) ra_nil))) (rv 3)))))
    (rss_one (rs_set (i := 2) sc__law_mixed.nd rfl (Or.inl rfl) (re_op op_addAll od_add (re_op op_mulAll (od_mul (z := false)) (rv 2) re_int) (re_op op_mod (od_I (C := fun _ j => 0 < j) (f := fun i j => i % j)) (re_op op_pow (od_I (C := CPow) (f := fun i j => i ^ j.toNat)) (rv 4) re_int) (rv 3))))))))
    (rss_one (rs_ret (rv 2))))))
theorem rd__law_take (T : Txt K mg) (D__law_mixed : Def P w K mg base 1 "_law_mixed" s__law_mixed ["draw"] sd__law_mixed) {f : Addr} {cdv : Value} {A : Around} {outer : List Env} {s : Shared} {H : Hp} {E : XK} (hr : Room 1 (A.deeper (envOfC "_law_take" (defScope s__law_take) s.heap.objs.size f cdv))) :
    RSs (cxOf (L2.CX P w) P w K mg base ["draw", "amount", "found"] "_law_take" (defScope s__law_take) f cdv A outer s H E) (fun cls d _ H => E cls d H) (defBody s__law_take) db__law_take :=
  (rss_cons (rs_if (rt_cmp (op_eqX hr.units) od_eq (re_dget hr (rv 0) re_str (fun _ _ => rfl)) re_int (nomark _)) (rss_one (rs_dput hr (rv 0) re_str (re_if (rt_cmp (op_neX hr.units) od_ne (re_dget hr (rv 0) re_str (fun _ _ => rfl)) (re_lst ra_nil) (nomark _)) (re_popAt (re_dget hr (rv 0) re_str (fun _ _ => rfl)) re_int) (rcall D__law_mixed (hr.mono (by decide)) (takes_of rfl rfl rfl rfl) (ra_cons (rv 0) ra_nil))))) rss_nil)
    (rss_cons (rs_set (i := 2) sc__law_take.nd rfl (Or.inl rfl) (re_op op_mod (od_I (C := fun _ j => 0 < j) (f := fun i j => i % j)) (re_ct call_int1 ca_int (by rfl) T.b_int bx_int (ra_cons (re_dget hr (rv 0) re_str (fun _ _ => rfl)) ra_nil)) (rv 1)))
    (rss_cons (rs_dput hr (rv 0) re_str (re_op op_fdivW (od_I (C := CDivW) (f := fun i j => i / j)) (re_ct call_int1 ca_int (by rfl) T.b_int bx_int (ra_cons (re_dget hr (rv 0) re_str (fun _ _ => rfl)) ra_nil)) (rv 1)))
    (rss_one (rs_ret (rv 2))))))
theorem rd__law_pick (T : Txt K mg) (D__law_take : Def P w K mg base 2 "_law_take" s__law_take ["draw", "amount"] sd__law_take) {f : Addr} {cdv : Value} {A : Around} {outer : List Env} {s : Shared} {H : Hp} {E : XK} (hr : Room 2 (A.deeper (envOfC "_law_pick" (defScope s__law_pick) s.heap.objs.size f cdv))) :
    RSs (cxOf (L2.CX P w) P w K mg base ["draw", "some"] "_law_pick" (defScope s__law_pick) f cdv A outer s H E) (fun cls d _ H => E cls d H) (defBody s__law_pick) db__law_pick :=
  (rss_one (rs_ret (re_ix ix_seq od_ix (rv 1) (rcall D__law_take (hr.mono (by decide)) (takes_of rfl rfl rfl rfl) (ra_cons (rv 0) (ra_cons (re_cb call_len ca_len (by rfl) T.b_len bx_len (ra_cons (rv 1) ra_nil)) ra_nil))) (fun _ _ => rfl))))
theorem rd__law_shuffled (T : Txt K mg) (D__law_take : Def P w K mg base 2 "_law_take" s__law_take ["draw", "amount"] sd__law_take) {f : Addr} {cdv : Value} {A : Around} {outer : List Env} {s : Shared} {H : Hp} {E : XK} (hr : Room 2 (A.deeper (envOfC "_law_shuffled" (defScope s__law_shuffled) s.heap.objs.size f cdv))) :
    RSs (cxOf (L2.CX P w) P w K mg base ["draw", "some", "left", "found"] "_law_shuffled" (defScope s__law_shuffled) f cdv A outer s H E) (fun cls d _ H => E cls d H) (defBody s__law_shuffled) db__law_shuffled :=
  (rss_cons (rs_par (i := 2) (j := 3) rfl sc__law_shuffled.nd rfl rfl (by decide) rfl rfl (ra_cons (re_ct call_list_of ca_listM (by rfl) T.b_list bx_list (ra_cons (rv 1) ra_nil)) (ra_cons (re_lstM ra_nil) ra_nil)))
    (rss_cons (rs_while (passes_of rfl) (rt_cmp (op_neX hr.units) od_ne (rv 2) (re_lst ra_nil) (nomark _)) (rss_one (rs_expr (re_append (rv 3) (re_popAt (rv 2) (rcall D__law_take (hr.mono (by decide)) (takes_of rfl rfl rfl rfl) (ra_cons (rv 0) (ra_cons (re_cb call_len ca_len (by rfl) T.b_len bx_len (ra_cons (rv 2) ra_nil)) ra_nil))))))))
    (rss_one (rs_ret (rv 3)))))
theorem rd__law_back (T : Txt K mg) (D__law_shuffled : Def P w K mg base 3 "_law_shuffled" s__law_shuffled ["draw", "some"] sd__law_shuffled) (D__law_take : Def P w K mg base 2 "_law_take" s__law_take ["draw", "amount"] sd__law_take) {f : Addr} {cdv : Value} {A : Around} {outer : List Env} {s : Shared} {H : Hp} {E : XK} (hr : Room 3 (A.deeper (envOfC "_law_back" (defScope s__law_back) s.heap.objs.size f cdv))) :
    RSs (cxOf (L2.CX P w) P w K mg base ["draw", "line", "many", "left_here", "found", "one", "other"] "_law_back" (defScope s__law_back) f cdv A outer s H E) (fun cls d _ H => E cls d H) (defBody s__law_back) db__law_back :=
  (rss_cons (rs_par (i := 1) (j := 2) rfl sc__law_back.nd rfl rfl (by decide) rfl rfl (ra_cons (re_lstM ra_nil) (ra_cons (re_op op_addAll od_add re_int (rcall D__law_take (hr.mono (by decide)) (takes_of rfl rfl rfl rfl) (ra_cons (rv 0) (ra_cons re_int ra_nil)))) ra_nil)))
    (rss_cons (rs_set (i := 3) sc__law_back.nd rfl (Or.inl rfl) (rcall D__law_shuffled (hr.mono (by decide)) (takes_of rfl rfl rfl rfl) (ra_cons (rv 0) (ra_cons (re_listRg false rfl (by rfl) T.b_list (rrg_1 (by rfl) T.b_range (rv 2))) ra_nil))))
    (rss_cons (rs_set (i := 4) sc__law_back.nd rfl (Or.inl rfl) (re_op op_mulAll (od_mul (z := true)) (re_lstM (ra_cons re_int ra_nil)) (rv 2)))
    (rss_cons (rs_while (passes_of rfl) (rt_cmp (op_neX hr.units) od_ne (rv 3) (re_lst ra_nil) (nomark _)) (rss_cons (rs_set (i := 5) sc__law_back.nd rfl (Or.inl rfl) (re_pop (rv 3)))
    (rss_cons (rs_set (i := 6) sc__law_back.nd rfl (Or.inl rfl) (re_if (RW.rt (rw_and (rt_cmp (op_neX hr.units) od_ne (rv 3) (re_lst ra_nil) (nomark _)) (rw_and1 (rt_cmp op_gt (od_B0 (f := fun i j => decide (j < i))) (rcall D__law_take (hr.mono (by decide)) (takes_of rfl rfl rfl rfl) (ra_cons (rv 0) (ra_cons re_int ra_nil))) re_int (nomark _))))) (re_pop (rv 3)) (rv 5)))
    (rss_one (rs_asg (re_tup (ra_cons (rv 6) (ra_cons (rv 5) ra_nil))) (rg_tup rfl (rgs_cons (rg_sub (rv 4) (rv 5)) (rgs_cons (rg_sub (rv 4) (rv 6)) rgs_nil))))))))
    (rss_one (rs_ret (re_ct call_tuple_of ca_tup (by rfl) T.b_tuple bx_tuple (ra_cons (rv 4) ra_nil))))))))
theorem rd__law_word (T : Txt K mg) (D__law_take : Def P w K mg base 2 "_law_take" s__law_take ["draw", "amount"] sd__law_take) {f : Addr} {cdv : Value} {A : Around} {outer : List Env} {s : Shared} {H : Hp} {E : XK} (hr : Room 2 (A.deeper (envOfC "_law_word" (defScope s__law_word) s.heap.objs.size f cdv))) :
    RSs (cxOf (L2.CX P w) P w K mg base ["draw", "back_here", "most", "k"] "_law_word" (defScope s__law_word) f cdv A outer s H E) (fun cls d _ H => E cls d H) (defBody s__law_word) db__law_word :=
  (rss_one (rs_ret (re_ct call_tuple_of ca_tup (by rfl) T.b_tuple bx_tuple (ra_cons (re_lc false (own := [("k", 3)]) rfl sc__law_word.nd (ri_range1 (by rfl) T.b_range (rcall D__law_take (hr.mono (by decide)) (takes_of rfl rfl rfl rfl) (ra_cons (rv 0) (ra_cons (re_op op_addAll od_add (rv 2) re_int) ra_nil)))) (blkOk_by (N := ["draw", "back_here", "most", "k"]) (sc := defScope s__law_word) (by decide +kernel)) (by decide) (fun _ _ _ _ _ => (rg_name (i := 3) sc__law_word.nd rfl (Or.inl rfl))) (fun _ _ _ _ _ => rts_nil) (fun _ _ _ _ _ => (rcall D__law_take (hr.mono (by decide)) takes0 (ra_cons (rv 0) (ra_cons (re_cb call_len ca_len (by rfl) T.b_len bx_len (ra_cons (rv 1) ra_nil)) ra_nil))))) ra_nil))))
theorem rd_law (T : Txt K mg) (D__law_back : Def P w K mg base 4 "_law_back" s__law_back ["draw"] sd__law_back) (D__law_begun : Def P w K mg base 1 "_law_begun" s__law_begun ["script"] sd__law_begun) (D__law_pick : Def P w K mg base 3 "_law_pick" s__law_pick ["draw", "some"] sd__law_pick) (D__law_take : Def P w K mg base 2 "_law_take" s__law_take ["draw", "amount"] sd__law_take) (D__law_word : Def P w K mg base 3 "_law_word" s__law_word ["draw", "back_here", "most"] sd__law_word) (D_free : Def P w K mg base 7 "free" s_free ["back", "word"] sd_free) (D_least_of : Def P w K mg base 3 "least_of" s_least_of ["words"] sd_least_of) (D_undone : Def P w K mg base 7 "undone" s_undone ["back", "word"] sd_undone) {f : Addr} {cdv : Value} {A : Around} {outer : List Env} {s : Shared} {H : Hp} {E : XK} (hg : A.guards = some []) (hr : Room 7 (A.deeper (envOfC "law" (defScope s_law) s.heap.objs.size f cdv))) :
    RSs (cxOf (L2.CX P w) P w K mg base ["script", "draw", "turn", "back_here", "word_here", "other", "mixed", "lap", "spot", "letter", "left_here", "k", "some", "due", "one", "shortest"] "law" (defScope s_law) f cdv A outer s H E) (fun cls d _ H => E cls d H) (defBody s_law) db_law :=
  (rss_cons (rs_set (i := 1) sc_law.nd rfl (Or.inl rfl) (rcall D__law_begun (hr.mono (by decide)) (takes_of rfl rfl rfl rfl) (ra_cons (rv 0) ra_nil)))
    (rss_cons (rs_for (passes_of rfl) rfl (ri_range1 (by rfl) T.b_range (re_op op_addAll od_add re_int (re_cb (call_min2 rfl) ca_min2 (by rfl) T.b_min bx_min (ra_cons (re_cb call_len ca_len (by rfl) T.b_len bx_len (ra_cons (rv 0) ra_nil)) (ra_cons re_int ra_nil))))) (rg_name (i := 2) sc_law.nd rfl (Or.inl rfl)) (rss_cons (rs_set (i := 3) sc_law.nd rfl (Or.inr rfl) (rcall D__law_back (hr.mono (by decide)) (takes_of rfl rfl rfl rfl) (ra_cons (rv 1) ra_nil)))
    (rss_cons (rs_par (i := 4) (j := 5) rfl sc_law.nd rfl rfl (by decide) rfl rfl (ra_cons (rcall D__law_word (hr.mono (by decide)) (takes_of rfl rfl rfl rfl) (ra_cons (rv 1) (ra_cons (rv 3) (ra_cons (re_if (rt_cmp (op_eqX hr.units) od_eq (rv 2) re_int (nomark _)) re_int re_int) ra_nil)))) (ra_cons (rcall D__law_word (hr.mono (by decide)) (takes_of rfl rfl rfl rfl) (ra_cons (rv 1) (ra_cons (rv 3) (ra_cons re_int ra_nil)))) ra_nil)))
    (rss_cons (rs_set (i := 6) sc_law.nd rfl (Or.inl rfl) (rv 4))
    (rss_cons (rs_for (passes_of rfl) rfl (ri_range1 (by rfl) T.b_range (rcall D__law_take (hr.mono (by decide)) (takes_of rfl rfl rfl rfl) (ra_cons (rv 1) (ra_cons re_int ra_nil)))) (rg_name (i := 7) sc_law.nd rfl (Or.inl rfl)) (rss_cons (rs_par (i := 8) (j := 9) rfl sc_law.nd rfl rfl (by decide) rfl rfl (ra_cons (rcall D__law_take (hr.mono (by decide)) (takes_of rfl rfl rfl rfl) (ra_cons (rv 1) (ra_cons (re_op op_addAll od_add (re_cb call_len ca_len (by rfl) T.b_len bx_len (ra_cons (rv 6) ra_nil)) re_int) ra_nil))) (ra_cons (rcall D__law_take (hr.mono (by decide)) (takes_of rfl rfl rfl rfl) (ra_cons (rv 1) (ra_cons (re_cb call_len ca_len (by rfl) T.b_len bx_len (ra_cons (rv 3) ra_nil)) ra_nil))) ra_nil)))
    (rss_one (rs_set (i := 6) sc_law.nd rfl (Or.inl rfl) (re_op op_addAll od_add (re_op op_addAll od_add (re_slice (rv 6) ro_none (ro_some (rv 8))) (re_tup (ra_cons (rv 9) (ra_cons (re_ix ix_seq od_ix (rv 3) (rv 9) (fun _ _ => rfl)) ra_nil)))) (re_slice (rv 6) (ro_some (rv 8)) ro_none))))))
    (rss_cons (rs_set (i := 10) sc_law.nd rfl (Or.inr rfl) (rv 6))
    (rss_cons (rs_while (passes_of rfl) (rt_val re_bl) (rss_cons (rs_setLc false (i := 12) (own := [("k", 11)]) rfl sc_law.nd rfl rfl (sw_true rfl rfl rfl (by decide +kernel)) (ri_range1 (by rfl) T.b_range (re_op op_sub (od_I0 (f := fun i j => i - j)) (re_cb call_len ca_len (by rfl) T.b_len bx_len (ra_cons (rv 10) ra_nil)) re_int)) (blkOk_by (N := ["script", "draw", "turn", "back_here", "word_here", "other", "mixed", "lap", "spot", "letter", "left_here", "k", "some", "due", "one", "shortest"]) (sc := defScope s_law) (by decide +kernel)) (by decide) (fun _ _ _ _ _ => (rg_name (i := 11) sc_law.nd rfl (Or.inl rfl))) (fun _ _ _ _ _ => (rts_one (rt_cmp (op_eqX hr.units) od_eq (re_ix ix_seq od_ix (rv 10) (re_op op_addAll od_add (rv 11) re_int) (fun _ _ => rfl)) (re_ix ix_seq od_ix (rv 3) (re_ix ix_seq od_ix (rv 10) (rv 11) (fun _ _ => rfl)) (fun _ _ => rfl)) (nomark _)))) (fun _ _ _ _ _ => (rv 11)))
    (rss_cons (rs_if (rt_cmp (op_eqX hr.units) od_eq (rv 12) (re_lst ra_nil) (nomark _)) (rss_one rs_break) rss_nil)
    (rss_cons (rs_set (i := 8) sc_law.nd rfl (Or.inl rfl) (rcall D__law_pick (hr.mono (by decide)) (takes_of rfl rfl rfl rfl) (ra_cons (rv 1) (ra_cons (rv 12) ra_nil))))
    (rss_one (rs_set (i := 10) sc_law.nd rfl (Or.inr rfl) (re_op op_addAll od_add (re_slice (rv 10) ro_none (ro_some (rv 8))) (re_slice (rv 10) (ro_some (re_op op_addAll od_add (rv 8) re_int)) ro_none))))))))
    (rss_cons (rs_if (RW.rt (rw_or (rt_cmp (op_neX hr.units) od_ne (re_cb (call_repr hg (Room.u100 hr)) ca_repr (by rfl) T.b_repr bx_repr (ra_cons (rcall D_free (hr.mono (by decide)) (takes_of rfl rfl rfl rfl) (ra_cons (rv 3) (ra_cons (rv 6) ra_nil))) ra_nil)) (re_cb (call_repr hg (Room.u100 hr)) ca_repr (by rfl) T.b_repr bx_repr (ra_cons (rv 10) ra_nil)) (nomark _)) (rw_or1 (rt_cmp (op_neX hr.units) od_ne (re_cb (call_repr hg (Room.u100 hr)) ca_repr (by rfl) T.b_repr bx_repr (ra_cons (rcallK (ks := ["word", "back"]) (π := [1, 0]) D_free (hr.mono (by decide)) (takes_of rfl rfl rfl rfl) (fun _ _ _ _ _ _ ws us hl e => match ws, hl with | [_, _], _ => by cases e; rfl) rfl (rk_cons (rv 4) (rk_cons (rv 3) rk_nil))) ra_nil)) (re_cb (call_repr hg (Room.u100 hr)) ca_repr (by rfl) T.b_repr bx_repr (ra_cons (rv 10) ra_nil)) (nomark _))))) (rss_one (rs_ret re_bl)) rss_nil)
    (rss_cons (rs_set (i := 13) sc_law.nd rfl (Or.inl rfl) (re_ct call_tuple_of ca_tup (by rfl) T.b_tuple bx_tuple (ra_cons (re_lc false (own := [("letter", 9)]) rfl sc_law.nd (ri_seq (re_rev (rv 4))) (blkOk_by (N := ["script", "draw", "turn", "back_here", "word_here", "other", "mixed", "lap", "spot", "letter", "left_here", "k", "some", "due", "one", "shortest"]) (sc := defScope s_law) (by decide +kernel)) (by decide) (fun _ _ _ _ _ => (rg_name (i := 9) sc_law.nd rfl (Or.inl rfl))) (fun _ _ _ _ _ => rts_nil) (fun _ _ _ _ _ => (re_ix ix_seq od_ix (rv 3) (rv 9) (fun _ _ => rfl)))) ra_nil)))
    (rss_cons (rs_if (RW.rt (rw_or (rt_cmp (op_neX hr.units) od_ne (re_cb (call_repr hg (Room.u100 hr)) ca_repr (by rfl) T.b_repr bx_repr (ra_cons (rcall D_undone (hr.mono (by decide)) (takes_of rfl rfl rfl rfl) (ra_cons (rv 3) (ra_cons (rv 4) ra_nil))) ra_nil)) (re_cb (call_repr hg (Room.u100 hr)) ca_repr (by rfl) T.b_repr bx_repr (ra_cons (rv 13) ra_nil)) (nomark _)) (rw_or1 (rt_cmp (op_neX hr.units) od_ne (rcallK (ks := ["word", "back"]) (π := [1, 0]) D_undone (hr.mono (by decide)) (takes_of rfl rfl rfl rfl) (fun _ _ _ _ _ _ ws us hl e => match ws, hl with | [_, _], _ => by cases e; rfl) rfl (rk_cons (rv 13) (rk_cons (rv 3) rk_nil))) (rv 4) (nomark _))))) (rss_one (rs_ret re_bl)) rss_nil)
    (rss_cons (rs_if (rt_cmp (op_neX hr.units) od_ne (re_cb (call_repr hg (Room.u100 hr)) ca_repr (by rfl) T.b_repr bx_repr (ra_cons (re_lst (ra_cons (rcall D_free (hr.mono (by decide)) (takes_of rfl rfl rfl rfl) (ra_cons (rv 3) (ra_cons (re_op op_addAll od_add (rv 4) (rv 13)) ra_nil))) (ra_cons (rcall D_free (hr.mono (by decide)) (takes_of rfl rfl rfl rfl) (ra_cons (rv 3) (ra_cons (rcall D_free (hr.mono (by decide)) (takes_of rfl rfl rfl rfl) (ra_cons (rv 3) (ra_cons (rv 6) ra_nil))) ra_nil))) ra_nil))) ra_nil)) (re_cb (call_repr hg (Room.u100 hr)) ca_repr (by rfl) T.b_repr bx_repr (ra_cons (re_lst (ra_cons (re_tup ra_nil) (ra_cons (rv 10) ra_nil))) ra_nil)) (nomark _)) (rss_one (rs_ret re_bl)) rss_nil)
    (rss_cons (rs_if (rt_cmp (op_neX hr.units) od_ne (re_cb (call_repr hg (Room.u100 hr)) ca_repr (by rfl) T.b_repr bx_repr (ra_cons (rcall D_free (hr.mono (by decide)) (takes_of rfl rfl rfl rfl) (ra_cons (rv 3) (ra_cons (rcall D_undone (hr.mono (by decide)) (takes_of rfl rfl rfl rfl) (ra_cons (rv 3) (ra_cons (rv 4) ra_nil))) ra_nil))) ra_nil)) (re_cb (call_repr hg (Room.u100 hr)) ca_repr (by rfl) T.b_repr bx_repr (ra_cons (rcall D_undone (hr.mono (by decide)) (takes_of rfl rfl rfl rfl) (ra_cons (rv 3) (ra_cons (rcall D_free (hr.mono (by decide)) (takes_of rfl rfl rfl rfl) (ra_cons (rv 3) (ra_cons (rv 4) ra_nil))) ra_nil))) ra_nil)) (nomark _)) (rss_one (rs_ret re_bl)) rss_nil)
    (rss_cons (rs_set (i := 12) sc_law.nd rfl (Or.inl rfl) (re_lst (ra_cons (rv 4) (ra_cons (rv 5) (ra_cons (rv 6) (ra_cons (rv 13) (ra_cons (rv 10) ra_nil)))))))
    (rss_cons (rs_set (i := 15) sc_law.nd rfl (Or.inr rfl) (re_cb (cr_min rfl) ca_min (by rfl) T.b_min bx_min (ra_cons (re_lc false (own := [("one", 14)]) rfl sc_law.nd (ri_seq (rv 12)) (blkOk_by (N := ["script", "draw", "turn", "back_here", "word_here", "other", "mixed", "lap", "spot", "letter", "left_here", "k", "some", "due", "one", "shortest"]) (sc := defScope s_law) (by decide +kernel)) (by decide) (fun _ _ _ _ _ => (rg_name (i := 14) sc_law.nd rfl (Or.inl rfl))) (fun _ _ _ _ _ => rts_nil) (fun _ _ _ _ _ => (re_cb call_len ca_len (by rfl) T.b_len bx_len (ra_cons (rv 14) ra_nil)))) ra_nil)))
    (rss_cons (rs_if (rt_cmp (op_neX hr.units) od_ne (re_cb (call_repr hg (Room.u100 hr)) ca_repr (by rfl) T.b_repr bx_repr (ra_cons (rcall D_least_of (hr.mono (by decide)) (takes_of rfl rfl rfl rfl) (ra_cons (re_ct call_list_of ca_list (by rfl) T.b_list bx_list (ra_cons (rv 12) ra_nil)) ra_nil)) ra_nil)) (re_cb (call_repr hg (Room.u100 hr)) ca_repr (by rfl) T.b_repr bx_repr (ra_cons (re_ix ix_seq od_ix (re_cb (call_sortedD (Room.u100 hr)) ca_sorted (by rfl) T.b_sorted bx_sorted (ra_cons (re_lc false (own := [("one", 14)]) rfl sc_law.nd (ri_seq (rv 12)) (blkOk_by (N := ["script", "draw", "turn", "back_here", "word_here", "other", "mixed", "lap", "spot", "letter", "left_here", "k", "some", "due", "one", "shortest"]) (sc := defScope s_law) (by decide +kernel)) (by decide) (fun _ _ _ _ _ => (rg_name (i := 14) sc_law.nd rfl (Or.inl rfl))) (fun _ _ _ _ _ => (rts_one (rt_cmp (op_eqX hr.units) od_eq (re_cb call_len ca_len (by rfl) T.b_len bx_len (ra_cons (rv 14) ra_nil)) (rv 15) (nomark _)))) (fun _ _ _ _ _ => (rv 14))) ra_nil)) re_int (fun _ _ => rfl)) ra_nil)) (nomark _)) (rss_one (rs_ret re_bl)) rss_nil)
    (rss_one (rs_if (rt_cmp (op_neX hr.units) od_ne (rcallK (ks := ["words"]) (π := [0]) D_least_of (hr.mono (by decide)) (takes_of rfl rfl rfl rfl) (fun _ _ _ _ _ _ ws us hl e => match ws, hl with | [_], _ => by cases e; rfl) rfl (rk_cons (re_ct call_tuple_of ca_tup (by rfl) T.b_tuple bx_tuple (ra_cons (re_slice (rv 12) ro_none (ro_some re_int)) ra_nil)) rk_nil)) (re_if (rt_cmp (op_ltP hr.units) od_lt (re_tup (ra_cons (re_cb call_len ca_len (by rfl) T.b_len bx_len (ra_cons (rv 5) ra_nil)) (ra_cons (rv 5) ra_nil))) (re_tup (ra_cons (re_cb call_len ca_len (by rfl) T.b_len bx_len (ra_cons (rv 4) ra_nil)) (ra_cons (rv 4) ra_nil))) (nomark _)) (rv 5) (rv 4)) (nomark _)) (rss_one (rs_ret re_bl)) rss_nil)))))))))))))))))
    (rss_one (rs_ret re_bl))))
end
end K02

/-! The data layer, 12: the end of a law, its def entered by the claim's own caller (no repr is under way there). -/
namespace DL
open PySem PySem.Spec PyProof.Rows L2
/-- what the law's def does, called ahead of all else -/
def LawAt (P : Program) (w : World) (K : PySem.W.Frag) (mg : Str → Option Value) (base : Heap) (fa : Addr) : Prop :=
  ∀ (s : Shared) (H : Hp) (a : Addr) (ns : List Int), ns.length ≤ 63 → SqL K H a (ns.map V.int) → Env0 P w K mg base callerA [] s H →
    codeAny (model P w) callerA (.call (.ref fa) ⟨[.ref a], []⟩) (CR (L2.CX P w) [] P w H s (fun v _ => v = .bl true) (fun _ _ _ => False)) s
/-- the promise of a law -/
def sdLaw : SpD := fun ds μ Q _ => ∃ ns : List Int, ds = [.arg (ns.map .int)] ∧ ns.length ≤ 63 ∧ ∀ μ', Q (.bl true) μ'
section
variable {P : Program} {w : World} {K : PySem.W.Frag} {mg : Str → Option Value} {base : Heap}
theorem law_at {x p : Str} {st : Stmt} {fa : Addr} {fd : FuncData} {N : List Str} {k : Nat} {db : DS} (F : Fun K x x st fa fd) (S : FnScope N [p] (defScope st)) (bi : ∀ (s : Shared) (u : Value), BindsTo s fd ⟨[u], []⟩ [(p, u)]) (hr : Room (k + 1) callerA)
    (hbody : ∀ (cdv : Value) (s : Shared) (H : Hp) (E : XK), Room k (callerA.deeper (envOfC x (defScope st) s.heap.objs.size fa cdv)) →
      RSs (cxOf (L2.CX P w) P w K mg base N x (defScope st) fa cdv callerA [] s H E) (fun cls d _ H => E cls d H) (defBody st) db)
    (pure : ∀ ds μ Q QE, sdLaw ds μ Q QE → db { nx := fun _ μ' => fin Q .non μ', rt := fin Q, xe := finX QE } (startD N ds) μ) : LawAt P w K mg base fa := by
  intro s H a ns hl hS e0
  obtain ⟨oc, od, kV, doc, pm, an, cdv, ct, osl, rfl, lk, hcd⟩ := F.ex
  have old : ∀ b o, base.get? b = some o → s.heap.get? b = some o := fun b o e => (e0.bs b o e).1
  have KX : K.In s.heap := e0.mod.kin.keeps old
  refine codeAny_call_function hr.depth (KX _ _ lk) rfl S.co S.gen rfl (PySem.W.codeRec_of KX hcd) (bi s (.ref a) _ _ _ _ ?_)
  refine wpAny_newFunctionEnv_cells S.kind (fun y hy => ?_) fun env he s1 ic => ?_
  · rw [List.mem_singleton.mp hy]
    rcases S.par p (List.mem_singleton.mpr rfl) with q | q
    · exact .inl q
    · exact .inr ⟨q, PySem.W.cellsFrom_some _ _ _ (.inl q)⟩
  subst he
  refine ⟨(e0.mod.nolimit.keeps old).keeps ic.toInCall.keep, codeAny_func ?_⟩
  -- the entry, over data
  have up : upSp K sdLaw [.ref a] H (fun v _ => v = .bl true) (fun _ _ _ => False) :=
    ⟨H, [.arg (ns.map .int)], fun _ => none, fun d _ => d = .bl true, fun _ _ => False, ⟨Ext.rfl', fun _ _ e => by cases e⟩, .cons (.arg hS RpL.of_ints) .nil, ⟨ns, rfl, hl, fun _ => rfl⟩,
      ⟨fun v d H2 B2 μ2 e g r q => by subst q; exact r.bl_inv⟩, ⟨fun _ _ _ _ _ _ _ _ _ q => q.elim⟩⟩
  obtain ⟨B, ds, μ, QD, QE, g, r, q, k1, k2⟩ := up
  have run := (hbody cdv s H (fun _ _ _ => False) (hr.deeper _)).pss
  have t0 : upS K (fun cls d _ H => (fun _ _ _ => False : XK) cls d H) db { nx := fun _ H' => V.non = .bl true, rt := fun v _ => v = .bl true } (L2.start N [.ref a]) H :=
    ⟨B, _, μ, _, g, start_rel r, pure ds μ QD QE q, ⟨fun σ2 ρ2 H2 B2 μ2 e g2 s2 q2 => k1.fin.ok .non .non H2 B2 μ2 e g2 .non q2, fun σ2 ρ2 H2 B2 μ2 e g2 s2 q2 => q2.elim, fun σ2 ρ2 H2 B2 μ2 e g2 s2 q2 => q2.elim, k1.fin, fun σ => ⟨fun cls dx y H2 B2 μ2 e g2 r2 q2 => by
      obtain ⟨μ', l, q2⟩ := q2
      exact k2.ex cls dx y H2 B2 μ' e (g2.less l) r2 q2⟩⟩⟩
  have I : Inv (cxOf (L2.CX P w) P w K mg base N x (defScope st) fa cdv callerA [] s H (fun _ _ _ => False)) [] (L2.start N [.ref a]) H s1 := inv_start (ps := [p]) (us := [.ref a]) S hr.hd e0 rfl (.cons rfl .nil) ic
  refine wpAny_mono (run.run [] s1 _ H _ I t0) (fun fl s' hs => ?_) fun e s' hs => hs
  cases fl with
  | ret u =>
    obtain ⟨v, σ', H', J, rv, q⟩ := hs
    exact ⟨v, H', J.os, J.bare, J.base, J.hok, rv, q⟩
  | next =>
    obtain ⟨σ', H', J, q⟩ := hs
    cases q
  | brk =>
    obtain ⟨_, _, _, q⟩ := hs
    exact False.elim q
  | cont =>
    obtain ⟨_, _, _, q⟩ := hs
    exact False.elim q
/-- the script alone is tracked, if it is no object of the module -/
def scriptH (K : PySem.W.Frag) (a : Addr) (o : Obj) (ns : List Int) : Hp := fun b => if b = a ∧ K.lookup a = none then some (.frz o (.lst (ns.map V.int))) else none
theorem law_top {mb : Str → Option Value} {fa a : Addr} {s₁ : Shared} {vs : List Value} {ns : List Int} (KX : K.In s₁.heap) (hns : s₁.heap.Ns mainGlobals mg) (hb : s₁.heap.Ns builtinsNs mb) (hbb : ∀ x : Str, x ≠ "__name__" → mb x = bootBuiltins x) (hlim : s₁.heap.NoLimit) (hg : s₁.gens = #[])
    (ha : s₁.heap.get? a = some { cls := .type "list", data := .seq vs.toArray }) (hi : IntsAre vs ns) (hl : ns.length ≤ 63) (L : ∀ base : Heap, K.In base → base.Ns mainGlobals mg → LawAt P w K mg base fa) :
    codeAny (model P w) callerA (.call (.ref fa) ⟨[.ref a], []⟩) (fun r s' => r = .ok (.ret (.bool true)) ∧ OldK s₁.heap s'.heap ∧ s'.os = s₁.os ∧ AllBare s'.gens) s₁ := by
  have rv := vals_ints hi
  have hz : (ns.map V.int).length ≤ sizeLine := by rw [List.length_map, sizeLine_eq]; omega
  obtain ⟨H, hH⟩ : ∃ H, H = scriptH K a { cls := .type "list", data := .seq vs.toArray } ns := ⟨_, rfl⟩
  have at1 : ∀ b u, H b = some u → b = a ∧ K.lookup a = none ∧ u = .frz { cls := .type "list", data := .seq vs.toArray } (.lst (ns.map V.int)) := fun b u e => by
    rw [hH] at e
    unfold scriptH at e
    split at e
    · rename_i c
      exact ⟨c.1, c.2, (Option.some.inj e).symm⟩
    · cases e
  have hS : SqL K H a (ns.map V.int) := by
    cases hk : K.lookup a with
    | some o =>
      have e := KX a o hk
      rw [ha] at e
      cases e
      exact .inr ⟨_, vs.toArray, _, hk, rfl, rfl, rfl, by rw [List.size_toArray, ← rv.length]; exact hz, by simpa using rv⟩
    | none =>
      refine .inl (.inr ⟨{ cls := .type "list", data := .seq vs.toArray }, ?_⟩)
      rw [hH]
      exact if_pos ⟨rfl, hk⟩
  have hok : HOk P w H s₁.heap := fun b u e => by
    obtain ⟨rfl, _, rfl⟩ := at1 b u e
    exact ⟨ha, hz, vs, _, rv, ha⟩
  have hid : ∀ {b : Addr} {o : Obj}, s₁.heap.get? b = some o → (∀ es ep, o.data = .dict es ep → (hidT s₁.heap H).get? b = some o) := fun {b o} e es ep d => by
    refine hidT_get e ?_
    cases q : H b with
    | none => rfl
    | some u =>
      obtain ⟨rfl, _, _⟩ := at1 b u q
      rw [ha] at e
      cases e
      cases d
  have nsK : ∀ {b : Addr} {m : Str → Option Value}, s₁.heap.Ns b m → (hidT s₁.heap H).Ns b m := fun {b m} ⟨o, es, ep, e, d, r⟩ => ⟨o, es, ep, hid e es ep d, d, r⟩
  have hKb : K.In (hidT s₁.heap H) := fun b o e => hidT_get (KX b o e) (by
    cases q : H b with
    | none => rfl
    | some u =>
      obtain ⟨rfl, h2, _⟩ := at1 b u q
      rw [h2] at e
      cases e)
  obtain ⟨mc, c1, c2⟩ := hlim
  have hM : Mod K mg (hidT s₁.heap H) := ⟨hKb, nsK hns, ⟨mb, nsK hb, hbb⟩, ⟨mc, nsK c1, c2⟩⟩
  have e0 : Env0 P w K mg (hidT s₁.heap H) callerA [] s₁ H := ⟨rfl, hM, fun b o e => of_hidT e, Nat.le_of_eq (hidT_size _ _), trivial, fun b hb => (nomatch (show b ∈ ([] : List Addr) from hb)), hok, .of_eq hg⟩
  refine codeAny_mono (L _ hKb (nsK hns) s₁ H a ns hl hS e0) fun r s' h => ?_
  cases r with
  | error e =>
    obtain ⟨_, _, _, _, _, _, _, _, _, _, _, _, h⟩ := h
    exact h.elim
  | ok fl =>
    cases fl with
    | next => exact False.elim h
    | brk => exact False.elim h
    | cont => exact False.elim h
    | ret u =>
      obtain ⟨v, H', os, bare, un, hok', r', q⟩ := h
      subst q
      cases r'
      refine ⟨rfl, OldK.of_keep fun b o e => ?_, os, bare⟩
      cases q : H b with
      | none => exact un.keep b o e q (fun z => (nomatch (show b ∈ ([] : List Addr) from z))) (fun z => (nomatch (show b ∈ ([] : List Addr) from z)))
      | some u =>
        obtain ⟨rfl, _, rfl⟩ := at1 b u q
        have z2 := un.frzs b _ _ q
        obtain ⟨e1, _⟩ := hok b _ q
        obtain ⟨e2, _⟩ := hok' b _ z2
        rw [e] at e1
        cases e1
        exact e2
end
/-- the law row's walk -/
theorem walk_data {l : PySem.W.OpenLaw} {q : Program} {loose : List Str} {XP : (Str → Option Value) → Heap → Prop} {YP : World → Heap → Prop} {d : DefRec} {K : Params → PySem.W.Frag} (hn : l.most = some 63) (hdf : d.params.defaults = [])
    (hY : ∀ (w : World) (h : Heap), YP w h → (K w.params).In h)
    (F : ∀ (w : World) (mg : Str → Option Value) (fa : Addr) (h : Heap), (K w.params).In h → h.Ns mainGlobals mg → mg d.name = some (.ref fa) → ∀ base : Heap, (K w.params).In base → base.Ns mainGlobals mg → LawAt l.prog w (K w.params) mg base fa) :
    PySem.W.WalkO q loose XP YP l.row.toRowW d [] (fun f vs => PySem.call f vs) := by
  refine Att.attach_call hn hdf fun w s₀ s₁ mg mb fa o pm cd doc a vs ns G Y ho hd hcd hmg hobj hints hlen hg => ?_
  have KX := hY w _ Y
  exact law_top KX G.T.g G.T.b G.T.builtins G.T.nolimit hg hobj hints hlen (F w mg fa _ KX G.T.g hmg)
end DL

namespace K02
open PySem PySem.Spec PyProof.Rows L2 DL
theorem all_mk {P : Program} {w : World} {K : PySem.W.Frag} {h : Heap} {mg : Str → Option Value} {fa : Addr} (X : K.In h) (G : h.Ns mainGlobals mg) (hfa : mg "law" = some (.ref fa))
    {t_LEAST_LETTERS : Tok}
    {t_LONGEST_WORD : Tok}
    {t_MOST_LETTERS : Tok}
    {x_BadBack : Addr}
    {x_BadWord : Addr}
    {p_is_number : Addr} {od_is_number an_is_number : Option Addr} {sl_is_number : Array (Option Value)} {oc_is_number kv_is_number dc_is_number pm_is_number cd_is_number ct_is_number : Value}
    {p_is_between : Addr} {od_is_between an_is_between : Option Addr} {sl_is_between : Array (Option Value)} {oc_is_between kv_is_between dc_is_between pm_is_between cd_is_between ct_is_between : Value}
    {p_is_back : Addr} {od_is_back an_is_back : Option Addr} {sl_is_back : Array (Option Value)} {oc_is_back kv_is_back dc_is_back pm_is_back cd_is_back ct_is_back : Value}
    {p_need_back : Addr} {od_need_back an_need_back : Option Addr} {sl_need_back : Array (Option Value)} {oc_need_back kv_need_back dc_need_back pm_need_back cd_need_back ct_need_back : Value}
    {p_is_letters : Addr} {od_is_letters an_is_letters : Option Addr} {sl_is_letters : Array (Option Value)} {oc_is_letters kv_is_letters dc_is_letters pm_is_letters cd_is_letters ct_is_letters : Value}
    {p_is_word : Addr} {od_is_word an_is_word : Option Addr} {sl_is_word : Array (Option Value)} {oc_is_word kv_is_word dc_is_word pm_is_word cd_is_word ct_is_word : Value}
    {p_need_word : Addr} {od_need_word an_need_word : Option Addr} {sl_need_word : Array (Option Value)} {oc_need_word kv_need_word dc_need_word pm_need_word cd_need_word ct_need_word : Value}
    {p_free_of : Addr} {od_free_of an_free_of : Option Addr} {sl_free_of : Array (Option Value)} {oc_free_of kv_free_of dc_free_of pm_free_of cd_free_of ct_free_of : Value}
    {p_free : Addr} {od_free an_free : Option Addr} {sl_free : Array (Option Value)} {oc_free kv_free dc_free pm_free cd_free ct_free : Value}
    {p_undone_of : Addr} {od_undone_of an_undone_of : Option Addr} {sl_undone_of : Array (Option Value)} {oc_undone_of kv_undone_of dc_undone_of pm_undone_of cd_undone_of ct_undone_of : Value}
    {p_undone : Addr} {od_undone an_undone : Option Addr} {sl_undone : Array (Option Value)} {oc_undone kv_undone dc_undone pm_undone cd_undone ct_undone : Value}
    {p_key_of : Addr} {od_key_of an_key_of : Option Addr} {sl_key_of : Array (Option Value)} {oc_key_of kv_key_of dc_key_of pm_key_of cd_key_of ct_key_of : Value}
    {p_least_of : Addr} {od_least_of an_least_of : Option Addr} {sl_least_of : Array (Option Value)} {oc_least_of kv_least_of dc_least_of pm_least_of cd_least_of ct_least_of : Value}
    {p__law_begun : Addr} {od__law_begun an__law_begun : Option Addr} {sl__law_begun : Array (Option Value)} {oc__law_begun kv__law_begun dc__law_begun pm__law_begun cd__law_begun ct__law_begun : Value}
    {p__law_mixed : Addr} {od__law_mixed an__law_mixed : Option Addr} {sl__law_mixed : Array (Option Value)} {oc__law_mixed kv__law_mixed dc__law_mixed pm__law_mixed cd__law_mixed ct__law_mixed : Value}
    {p__law_take : Addr} {od__law_take an__law_take : Option Addr} {sl__law_take : Array (Option Value)} {oc__law_take kv__law_take dc__law_take pm__law_take cd__law_take ct__law_take : Value}
    {p__law_pick : Addr} {od__law_pick an__law_pick : Option Addr} {sl__law_pick : Array (Option Value)} {oc__law_pick kv__law_pick dc__law_pick pm__law_pick cd__law_pick ct__law_pick : Value}
    {p__law_shuffled : Addr} {od__law_shuffled an__law_shuffled : Option Addr} {sl__law_shuffled : Array (Option Value)} {oc__law_shuffled kv__law_shuffled dc__law_shuffled pm__law_shuffled cd__law_shuffled ct__law_shuffled : Value}
    {p__law_back : Addr} {od__law_back an__law_back : Option Addr} {sl__law_back : Array (Option Value)} {oc__law_back kv__law_back dc__law_back pm__law_back cd__law_back ct__law_back : Value}
    {p__law_word : Addr} {od__law_word an__law_word : Option Addr} {sl__law_word : Array (Option Value)} {oc__law_word kv__law_word dc__law_word pm__law_word cd__law_word ct__law_word : Value}
    {p_law : Addr} {od_law an_law : Option Addr} {sl_law : Array (Option Value)} {oc_law kv_law dc_law pm_law cd_law ct_law : Value}
    (zb_abs : PySem.W.nsIn K mainGlobals "abs" = some none)
    (zb_all : PySem.W.nsIn K mainGlobals "all" = some none)
    (zb_bool : PySem.W.nsIn K mainGlobals "bool" = some none)
    (zb_int : PySem.W.nsIn K mainGlobals "int" = some none)
    (zb_isinstance : PySem.W.nsIn K mainGlobals "isinstance" = some none)
    (zb_len : PySem.W.nsIn K mainGlobals "len" = some none)
    (zb_list : PySem.W.nsIn K mainGlobals "list" = some none)
    (zb_min : PySem.W.nsIn K mainGlobals "min" = some none)
    (zb_range : PySem.W.nsIn K mainGlobals "range" = some none)
    (zb_repr : PySem.W.nsIn K mainGlobals "repr" = some none)
    (zb_sorted : PySem.W.nsIn K mainGlobals "sorted" = some none)
    (zb_tuple : PySem.W.nsIn K mainGlobals "tuple" = some none)
    (zc_LEAST_LETTERS : PySem.W.nsIn K mainGlobals "LEAST_LETTERS" = some (some (.int 2 t_LEAST_LETTERS)))
    (zc_LONGEST_WORD : PySem.W.nsIn K mainGlobals "LONGEST_WORD" = some (some (.int 200 t_LONGEST_WORD)))
    (zc_MOST_LETTERS : PySem.W.nsIn K mainGlobals "MOST_LETTERS" = some (some (.int 12 t_MOST_LETTERS)))
    (zne_BadBack : PySem.W.nsIn K mainGlobals "BadBack" = some (some (.ref x_BadBack)))
    (zxe_BadBack : PySem.W.excIn K x_BadBack [.type "ValueError", .type "Exception", .type "BaseException", .type "object"] "ValueError.__new__" = true)
    (zke_BadBack : PySem.W.keepIn K (.ref x_BadBack) = true)
    (zbe_BadBack : PySem.W.subIn K (.ref x_BadBack) (.type "BaseException") = some true)
    (zte_BadBack : PySem.W.typeIn K (.ref x_BadBack) = some (.type "type"))
    (zne_BadWord : PySem.W.nsIn K mainGlobals "BadWord" = some (some (.ref x_BadWord)))
    (zxe_BadWord : PySem.W.excIn K x_BadWord [.type "ValueError", .type "Exception", .type "BaseException", .type "object"] "ValueError.__new__" = true)
    (zke_BadWord : PySem.W.keepIn K (.ref x_BadWord) = true)
    (zbe_BadWord : PySem.W.subIn K (.ref x_BadWord) (.type "BaseException") = some true)
    (zte_BadWord : PySem.W.typeIn K (.ref x_BadWord) = some (.type "type"))
    (a_is_number : PySem.W.nsIn K mainGlobals "is_number" = some (some (.ref p_is_number)))
    (l_is_number : K.lookup p_is_number = some ⟨oc_is_number, od_is_number, .func (PySem.W.fnOf "is_number" "is_number" (defArgs s_is_number) (defBody s_is_number) (defScope s_is_number) .none kv_is_number dc_is_number pm_is_number an_is_number cd_is_number ct_is_number), sl_is_number⟩)
    (c_is_number : PySem.W.codeIn K cd_is_number "is_number" = true)
    (k_is_number : PySem.W.keepIn K (.ref p_is_number) = true)
    (a_is_between : PySem.W.nsIn K mainGlobals "is_between" = some (some (.ref p_is_between)))
    (l_is_between : K.lookup p_is_between = some ⟨oc_is_between, od_is_between, .func (PySem.W.fnOf "is_between" "is_between" (defArgs s_is_between) (defBody s_is_between) (defScope s_is_between) .none kv_is_between dc_is_between pm_is_between an_is_between cd_is_between ct_is_between), sl_is_between⟩)
    (c_is_between : PySem.W.codeIn K cd_is_between "is_between" = true)
    (k_is_between : PySem.W.keepIn K (.ref p_is_between) = true)
    (a_is_back : PySem.W.nsIn K mainGlobals "is_back" = some (some (.ref p_is_back)))
    (l_is_back : K.lookup p_is_back = some ⟨oc_is_back, od_is_back, .func (PySem.W.fnOf "is_back" "is_back" (defArgs s_is_back) (defBody s_is_back) (defScope s_is_back) .none kv_is_back dc_is_back pm_is_back an_is_back cd_is_back ct_is_back), sl_is_back⟩)
    (c_is_back : PySem.W.codeIn K cd_is_back "is_back" = true)
    (k_is_back : PySem.W.keepIn K (.ref p_is_back) = true)
    (a_need_back : PySem.W.nsIn K mainGlobals "need_back" = some (some (.ref p_need_back)))
    (l_need_back : K.lookup p_need_back = some ⟨oc_need_back, od_need_back, .func (PySem.W.fnOf "need_back" "need_back" (defArgs s_need_back) (defBody s_need_back) (defScope s_need_back) .none kv_need_back dc_need_back pm_need_back an_need_back cd_need_back ct_need_back), sl_need_back⟩)
    (c_need_back : PySem.W.codeIn K cd_need_back "need_back" = true)
    (k_need_back : PySem.W.keepIn K (.ref p_need_back) = true)
    (a_is_letters : PySem.W.nsIn K mainGlobals "is_letters" = some (some (.ref p_is_letters)))
    (l_is_letters : K.lookup p_is_letters = some ⟨oc_is_letters, od_is_letters, .func (PySem.W.fnOf "is_letters" "is_letters" (defArgs s_is_letters) (defBody s_is_letters) (defScope s_is_letters) .none kv_is_letters dc_is_letters pm_is_letters an_is_letters cd_is_letters ct_is_letters), sl_is_letters⟩)
    (c_is_letters : PySem.W.codeIn K cd_is_letters "is_letters" = true)
    (k_is_letters : PySem.W.keepIn K (.ref p_is_letters) = true)
    (a_is_word : PySem.W.nsIn K mainGlobals "is_word" = some (some (.ref p_is_word)))
    (l_is_word : K.lookup p_is_word = some ⟨oc_is_word, od_is_word, .func (PySem.W.fnOf "is_word" "is_word" (defArgs s_is_word) (defBody s_is_word) (defScope s_is_word) .none kv_is_word dc_is_word pm_is_word an_is_word cd_is_word ct_is_word), sl_is_word⟩)
    (c_is_word : PySem.W.codeIn K cd_is_word "is_word" = true)
    (k_is_word : PySem.W.keepIn K (.ref p_is_word) = true)
    (a_need_word : PySem.W.nsIn K mainGlobals "need_word" = some (some (.ref p_need_word)))
    (l_need_word : K.lookup p_need_word = some ⟨oc_need_word, od_need_word, .func (PySem.W.fnOf "need_word" "need_word" (defArgs s_need_word) (defBody s_need_word) (defScope s_need_word) .none kv_need_word dc_need_word pm_need_word an_need_word cd_need_word ct_need_word), sl_need_word⟩)
    (c_need_word : PySem.W.codeIn K cd_need_word "need_word" = true)
    (k_need_word : PySem.W.keepIn K (.ref p_need_word) = true)
    (a_free_of : PySem.W.nsIn K mainGlobals "free_of" = some (some (.ref p_free_of)))
    (l_free_of : K.lookup p_free_of = some ⟨oc_free_of, od_free_of, .func (PySem.W.fnOf "free_of" "free_of" (defArgs s_free_of) (defBody s_free_of) (defScope s_free_of) .none kv_free_of dc_free_of pm_free_of an_free_of cd_free_of ct_free_of), sl_free_of⟩)
    (c_free_of : PySem.W.codeIn K cd_free_of "free_of" = true)
    (k_free_of : PySem.W.keepIn K (.ref p_free_of) = true)
    (a_free : PySem.W.nsIn K mainGlobals "free" = some (some (.ref p_free)))
    (l_free : K.lookup p_free = some ⟨oc_free, od_free, .func (PySem.W.fnOf "free" "free" (defArgs s_free) (defBody s_free) (defScope s_free) .none kv_free dc_free pm_free an_free cd_free ct_free), sl_free⟩)
    (c_free : PySem.W.codeIn K cd_free "free" = true)
    (k_free : PySem.W.keepIn K (.ref p_free) = true)
    (a_undone_of : PySem.W.nsIn K mainGlobals "undone_of" = some (some (.ref p_undone_of)))
    (l_undone_of : K.lookup p_undone_of = some ⟨oc_undone_of, od_undone_of, .func (PySem.W.fnOf "undone_of" "undone_of" (defArgs s_undone_of) (defBody s_undone_of) (defScope s_undone_of) .none kv_undone_of dc_undone_of pm_undone_of an_undone_of cd_undone_of ct_undone_of), sl_undone_of⟩)
    (c_undone_of : PySem.W.codeIn K cd_undone_of "undone_of" = true)
    (k_undone_of : PySem.W.keepIn K (.ref p_undone_of) = true)
    (a_undone : PySem.W.nsIn K mainGlobals "undone" = some (some (.ref p_undone)))
    (l_undone : K.lookup p_undone = some ⟨oc_undone, od_undone, .func (PySem.W.fnOf "undone" "undone" (defArgs s_undone) (defBody s_undone) (defScope s_undone) .none kv_undone dc_undone pm_undone an_undone cd_undone ct_undone), sl_undone⟩)
    (c_undone : PySem.W.codeIn K cd_undone "undone" = true)
    (k_undone : PySem.W.keepIn K (.ref p_undone) = true)
    (a_key_of : PySem.W.nsIn K mainGlobals "key_of" = some (some (.ref p_key_of)))
    (l_key_of : K.lookup p_key_of = some ⟨oc_key_of, od_key_of, .func (PySem.W.fnOf "key_of" "key_of" (defArgs s_key_of) (defBody s_key_of) (defScope s_key_of) .none kv_key_of dc_key_of pm_key_of an_key_of cd_key_of ct_key_of), sl_key_of⟩)
    (c_key_of : PySem.W.codeIn K cd_key_of "key_of" = true)
    (k_key_of : PySem.W.keepIn K (.ref p_key_of) = true)
    (a_least_of : PySem.W.nsIn K mainGlobals "least_of" = some (some (.ref p_least_of)))
    (l_least_of : K.lookup p_least_of = some ⟨oc_least_of, od_least_of, .func (PySem.W.fnOf "least_of" "least_of" (defArgs s_least_of) (defBody s_least_of) (defScope s_least_of) .none kv_least_of dc_least_of pm_least_of an_least_of cd_least_of ct_least_of), sl_least_of⟩)
    (c_least_of : PySem.W.codeIn K cd_least_of "least_of" = true)
    (k_least_of : PySem.W.keepIn K (.ref p_least_of) = true)
    (a__law_begun : PySem.W.nsIn K mainGlobals "_law_begun" = some (some (.ref p__law_begun)))
    (l__law_begun : K.lookup p__law_begun = some ⟨oc__law_begun, od__law_begun, .func (PySem.W.fnOf "_law_begun" "_law_begun" (defArgs s__law_begun) (defBody s__law_begun) (defScope s__law_begun) .none kv__law_begun dc__law_begun pm__law_begun an__law_begun cd__law_begun ct__law_begun), sl__law_begun⟩)
    (c__law_begun : PySem.W.codeIn K cd__law_begun "_law_begun" = true)
    (k__law_begun : PySem.W.keepIn K (.ref p__law_begun) = true)
    (a__law_mixed : PySem.W.nsIn K mainGlobals "_law_mixed" = some (some (.ref p__law_mixed)))
    (l__law_mixed : K.lookup p__law_mixed = some ⟨oc__law_mixed, od__law_mixed, .func (PySem.W.fnOf "_law_mixed" "_law_mixed" (defArgs s__law_mixed) (defBody s__law_mixed) (defScope s__law_mixed) .none kv__law_mixed dc__law_mixed pm__law_mixed an__law_mixed cd__law_mixed ct__law_mixed), sl__law_mixed⟩)
    (c__law_mixed : PySem.W.codeIn K cd__law_mixed "_law_mixed" = true)
    (k__law_mixed : PySem.W.keepIn K (.ref p__law_mixed) = true)
    (a__law_take : PySem.W.nsIn K mainGlobals "_law_take" = some (some (.ref p__law_take)))
    (l__law_take : K.lookup p__law_take = some ⟨oc__law_take, od__law_take, .func (PySem.W.fnOf "_law_take" "_law_take" (defArgs s__law_take) (defBody s__law_take) (defScope s__law_take) .none kv__law_take dc__law_take pm__law_take an__law_take cd__law_take ct__law_take), sl__law_take⟩)
    (c__law_take : PySem.W.codeIn K cd__law_take "_law_take" = true)
    (k__law_take : PySem.W.keepIn K (.ref p__law_take) = true)
    (a__law_pick : PySem.W.nsIn K mainGlobals "_law_pick" = some (some (.ref p__law_pick)))
    (l__law_pick : K.lookup p__law_pick = some ⟨oc__law_pick, od__law_pick, .func (PySem.W.fnOf "_law_pick" "_law_pick" (defArgs s__law_pick) (defBody s__law_pick) (defScope s__law_pick) .none kv__law_pick dc__law_pick pm__law_pick an__law_pick cd__law_pick ct__law_pick), sl__law_pick⟩)
    (c__law_pick : PySem.W.codeIn K cd__law_pick "_law_pick" = true)
    (k__law_pick : PySem.W.keepIn K (.ref p__law_pick) = true)
    (a__law_shuffled : PySem.W.nsIn K mainGlobals "_law_shuffled" = some (some (.ref p__law_shuffled)))
    (l__law_shuffled : K.lookup p__law_shuffled = some ⟨oc__law_shuffled, od__law_shuffled, .func (PySem.W.fnOf "_law_shuffled" "_law_shuffled" (defArgs s__law_shuffled) (defBody s__law_shuffled) (defScope s__law_shuffled) .none kv__law_shuffled dc__law_shuffled pm__law_shuffled an__law_shuffled cd__law_shuffled ct__law_shuffled), sl__law_shuffled⟩)
    (c__law_shuffled : PySem.W.codeIn K cd__law_shuffled "_law_shuffled" = true)
    (k__law_shuffled : PySem.W.keepIn K (.ref p__law_shuffled) = true)
    (a__law_back : PySem.W.nsIn K mainGlobals "_law_back" = some (some (.ref p__law_back)))
    (l__law_back : K.lookup p__law_back = some ⟨oc__law_back, od__law_back, .func (PySem.W.fnOf "_law_back" "_law_back" (defArgs s__law_back) (defBody s__law_back) (defScope s__law_back) .none kv__law_back dc__law_back pm__law_back an__law_back cd__law_back ct__law_back), sl__law_back⟩)
    (c__law_back : PySem.W.codeIn K cd__law_back "_law_back" = true)
    (k__law_back : PySem.W.keepIn K (.ref p__law_back) = true)
    (a__law_word : PySem.W.nsIn K mainGlobals "_law_word" = some (some (.ref p__law_word)))
    (l__law_word : K.lookup p__law_word = some ⟨oc__law_word, od__law_word, .func (PySem.W.fnOf "_law_word" "_law_word" (defArgs s__law_word) (defBody s__law_word) (defScope s__law_word) .none kv__law_word dc__law_word pm__law_word an__law_word cd__law_word ct__law_word), sl__law_word⟩)
    (c__law_word : PySem.W.codeIn K cd__law_word "_law_word" = true)
    (k__law_word : PySem.W.keepIn K (.ref p__law_word) = true)
    (a_law : PySem.W.nsIn K mainGlobals "law" = some (some (.ref p_law)))
    (l_law : K.lookup p_law = some ⟨oc_law, od_law, .func (PySem.W.fnOf "law" "law" (defArgs s_law) (defBody s_law) (defScope s_law) .none kv_law dc_law pm_law an_law cd_law ct_law), sl_law⟩)
    (c_law : PySem.W.codeIn K cd_law "law" = true)
    (k_law : PySem.W.keepIn K (.ref p_law) = true) :
    ∀ base : Heap, K.In base → base.Ns mainGlobals mg → LawAt P w K mg base fa := by
  have e := hfa.symm.trans (PySem.W.mg_of X G a_law)
  cases e
  intro base _ _
  have T : Txt K mg := { b_abs := PySem.W.mg_none_of X G zb_abs, b_all := PySem.W.mg_none_of X G zb_all, b_bool := PySem.W.mg_none_of X G zb_bool, b_int := PySem.W.mg_none_of X G zb_int, b_isinstance := PySem.W.mg_none_of X G zb_isinstance, b_len := PySem.W.mg_none_of X G zb_len, b_list := PySem.W.mg_none_of X G zb_list, b_min := PySem.W.mg_none_of X G zb_min, b_range := PySem.W.mg_none_of X G zb_range, b_repr := PySem.W.mg_none_of X G zb_repr, b_sorted := PySem.W.mg_none_of X G zb_sorted, b_tuple := PySem.W.mg_none_of X G zb_tuple, c_LEAST_LETTERS := ⟨_, PySem.W.mg_of X G zc_LEAST_LETTERS⟩, c_LONGEST_WORD := ⟨_, PySem.W.mg_of X G zc_LONGEST_WORD⟩, c_MOST_LETTERS := ⟨_, PySem.W.mg_of X G zc_MOST_LETTERS⟩, e_BadBack := ⟨_, PySem.W.mg_of X G zne_BadBack, zne_BadBack, zxe_BadBack, zke_BadBack, zbe_BadBack, zte_BadBack⟩, e_BadWord := ⟨_, PySem.W.mg_of X G zne_BadWord, zne_BadWord, zxe_BadWord, zke_BadWord, zbe_BadWord, zte_BadWord⟩ }
  have D_is_number : Def P w K mg base 1 "is_number" s_is_number ["thing"] sd_is_number := def_ok (PySem.W.mg_of X G a_is_number) (fun_mk (st := s_is_number) l_is_number c_is_number k_is_number) sc_is_number (fun _ _ _ _ _ _ us hl => match us, hl with | [_], _ => rfl)
    (fun ds μ Q E h => by unfold sd_is_number at h; repeat first | (obtain ⟨rfl, _⟩ := h; rfl) | (obtain ⟨_, h⟩ := h)) (fun cdv A outer s H E hr => rd_is_number T  hr) pu_is_number
  have D_is_between : Def P w K mg base 2 "is_between" s_is_between ["thing", "low", "high"] sd_is_between := def_ok (PySem.W.mg_of X G a_is_between) (fun_mk (st := s_is_between) l_is_between c_is_between k_is_between) sc_is_between (fun _ _ _ _ _ _ us hl => match us, hl with | [_, _, _], _ => rfl)
    (fun ds μ Q E h => by unfold sd_is_between at h; repeat first | (obtain ⟨rfl, _⟩ := h; rfl) | (obtain ⟨_, h⟩ := h)) (fun cdv A outer s H E hr => rd_is_between T D_is_number hr) pu_is_between
  have D_is_back : Def P w K mg base 3 "is_back" s_is_back ["thing"] sd_is_back := def_ok (PySem.W.mg_of X G a_is_back) (fun_mk (st := s_is_back) l_is_back c_is_back k_is_back) sc_is_back (fun _ _ _ _ _ _ us hl => match us, hl with | [_], _ => rfl)
    (fun ds μ Q E h => by unfold sd_is_back at h; repeat first | (obtain ⟨rfl, _⟩ := h; rfl) | (obtain ⟨_, h⟩ := h)) (fun cdv A outer s H E hr => rd_is_back T D_is_between hr) pu_is_back
  have D_need_back : Def P w K mg base 4 "need_back" s_need_back ["back"] sd_need_back := def_ok (PySem.W.mg_of X G a_need_back) (fun_mk (st := s_need_back) l_need_back c_need_back k_need_back) sc_need_back (fun _ _ _ _ _ _ us hl => match us, hl with | [_], _ => rfl)
    (fun ds μ Q E h => by unfold sd_need_back at h; repeat first | (obtain ⟨rfl, _⟩ := h; rfl) | (obtain ⟨_, h⟩ := h)) (fun cdv A outer s H E hr => rd_need_back T D_is_back hr) pu_need_back
  have D_is_letters : Def P w K mg base 3 "is_letters" s_is_letters ["back", "thing"] sd_is_letters := def_ok (PySem.W.mg_of X G a_is_letters) (fun_mk (st := s_is_letters) l_is_letters c_is_letters k_is_letters) sc_is_letters (fun _ _ _ _ _ _ us hl => match us, hl with | [_, _], _ => rfl)
    (fun ds μ Q E h => by unfold sd_is_letters at h; repeat first | (obtain ⟨rfl, _⟩ := h; rfl) | (obtain ⟨_, h⟩ := h)) (fun cdv A outer s H E hr => rd_is_letters T D_is_between hr) pu_is_letters
  have D_is_word : Def P w K mg base 5 "is_word" s_is_word ["back", "thing"] sd_is_word := def_ok (PySem.W.mg_of X G a_is_word) (fun_mk (st := s_is_word) l_is_word c_is_word k_is_word) sc_is_word (fun _ _ _ _ _ _ us hl => match us, hl with | [_, _], _ => rfl)
    (fun ds μ Q E h => by unfold sd_is_word at h; repeat first | (obtain ⟨rfl, _⟩ := h; rfl) | (obtain ⟨_, h⟩ := h)) (fun cdv A outer s H E hr => rd_is_word T D_is_letters D_need_back hr) pu_is_word
  have D_need_word : Def P w K mg base 6 "need_word" s_need_word ["back", "thing"] sd_need_word := def_ok (PySem.W.mg_of X G a_need_word) (fun_mk (st := s_need_word) l_need_word c_need_word k_need_word) sc_need_word (fun _ _ _ _ _ _ us hl => match us, hl with | [_, _], _ => rfl)
    (fun ds μ Q E h => by unfold sd_need_word at h; repeat first | (obtain ⟨rfl, _⟩ := h; rfl) | (obtain ⟨_, h⟩ := h)) (fun cdv A outer s H E hr => rd_need_word T D_is_word hr) pu_need_word
  have D_free_of : Def P w K mg base 1 "free_of" s_free_of ["back", "word"] sd_free_of := def_ok (PySem.W.mg_of X G a_free_of) (fun_mk (st := s_free_of) l_free_of c_free_of k_free_of) sc_free_of (fun _ _ _ _ _ _ us hl => match us, hl with | [_, _], _ => rfl)
    (fun ds μ Q E h => by unfold sd_free_of at h; repeat first | (obtain ⟨rfl, _⟩ := h; rfl) | (obtain ⟨_, h⟩ := h)) (fun cdv A outer s H E hr => rd_free_of T  hr) pu_free_of
  have D_free : Def P w K mg base 7 "free" s_free ["back", "word"] sd_free := def_ok (PySem.W.mg_of X G a_free) (fun_mk (st := s_free) l_free c_free k_free) sc_free (fun _ _ _ _ _ _ us hl => match us, hl with | [_, _], _ => rfl)
    (fun ds μ Q E h => by unfold sd_free at h; repeat first | (obtain ⟨rfl, _⟩ := h; rfl) | (obtain ⟨_, h⟩ := h)) (fun cdv A outer s H E hr => rd_free T D_free_of D_need_word hr) pu_free
  have D_undone_of : Def P w K mg base 1 "undone_of" s_undone_of ["back", "word"] sd_undone_of := def_ok (PySem.W.mg_of X G a_undone_of) (fun_mk (st := s_undone_of) l_undone_of c_undone_of k_undone_of) sc_undone_of (fun _ _ _ _ _ _ us hl => match us, hl with | [_, _], _ => rfl)
    (fun ds μ Q E h => by unfold sd_undone_of at h; repeat first | (obtain ⟨rfl, _⟩ := h; rfl) | (obtain ⟨_, h⟩ := h)) (fun cdv A outer s H E hr => rd_undone_of T  hr) pu_undone_of
  have D_undone : Def P w K mg base 7 "undone" s_undone ["back", "word"] sd_undone := def_ok (PySem.W.mg_of X G a_undone) (fun_mk (st := s_undone) l_undone c_undone k_undone) sc_undone (fun _ _ _ _ _ _ us hl => match us, hl with | [_, _], _ => rfl)
    (fun ds μ Q E h => by unfold sd_undone at h; repeat first | (obtain ⟨rfl, _⟩ := h; rfl) | (obtain ⟨_, h⟩ := h)) (fun cdv A outer s H E hr => rd_undone T D_need_word D_undone_of hr) pu_undone
  have D_key_of : Def P w K mg base 1 "key_of" s_key_of ["row"] sd_key_of := def_ok (PySem.W.mg_of X G a_key_of) (fun_mk (st := s_key_of) l_key_of c_key_of k_key_of) sc_key_of (fun _ _ _ _ _ _ us hl => match us, hl with | [_], _ => rfl)
    (fun ds μ Q E h => by unfold sd_key_of at h; repeat first | (obtain ⟨rfl, _⟩ := h; rfl) | (obtain ⟨_, h⟩ := h)) (fun cdv A outer s H E hr => rd_key_of T  hr) pu_key_of
  have D_least_of : Def P w K mg base 3 "least_of" s_least_of ["words"] sd_least_of := def_ok (PySem.W.mg_of X G a_least_of) (fun_mk (st := s_least_of) l_least_of c_least_of k_least_of) sc_least_of (fun _ _ _ _ _ _ us hl => match us, hl with | [_], _ => rfl)
    (fun ds μ Q E h => by unfold sd_least_of at h; repeat first | (obtain ⟨rfl, _⟩ := h; rfl) | (obtain ⟨_, h⟩ := h)) (fun cdv A outer s H E hr => rd_least_of T D_key_of hr) pu_least_of
  have D__law_begun : Def P w K mg base 1 "_law_begun" s__law_begun ["script"] sd__law_begun := def_ok (PySem.W.mg_of X G a__law_begun) (fun_mk (st := s__law_begun) l__law_begun c__law_begun k__law_begun) sc__law_begun (fun _ _ _ _ _ _ us hl => match us, hl with | [_], _ => rfl)
    (fun ds μ Q E h => by unfold sd__law_begun at h; repeat first | (obtain ⟨rfl, _⟩ := h; rfl) | (obtain ⟨_, h⟩ := h)) (fun cdv A outer s H E hr => rd__law_begun T  hr) pu__law_begun
  have D__law_mixed : Def P w K mg base 1 "_law_mixed" s__law_mixed ["draw"] sd__law_mixed := def_ok (PySem.W.mg_of X G a__law_mixed) (fun_mk (st := s__law_mixed) l__law_mixed c__law_mixed k__law_mixed) sc__law_mixed (fun _ _ _ _ _ _ us hl => match us, hl with | [_], _ => rfl)
    (fun ds μ Q E h => by unfold sd__law_mixed at h; repeat first | (obtain ⟨rfl, _⟩ := h; rfl) | (obtain ⟨_, h⟩ := h)) (fun cdv A outer s H E hr => rd__law_mixed T  hr) pu__law_mixed
  have D__law_take : Def P w K mg base 2 "_law_take" s__law_take ["draw", "amount"] sd__law_take := def_ok (PySem.W.mg_of X G a__law_take) (fun_mk (st := s__law_take) l__law_take c__law_take k__law_take) sc__law_take (fun _ _ _ _ _ _ us hl => match us, hl with | [_, _], _ => rfl)
    (fun ds μ Q E h => by unfold sd__law_take at h; repeat first | (obtain ⟨rfl, _⟩ := h; rfl) | (obtain ⟨_, h⟩ := h)) (fun cdv A outer s H E hr => rd__law_take T D__law_mixed hr) pu__law_take
  have D__law_pick : Def P w K mg base 3 "_law_pick" s__law_pick ["draw", "some"] sd__law_pick := def_ok (PySem.W.mg_of X G a__law_pick) (fun_mk (st := s__law_pick) l__law_pick c__law_pick k__law_pick) sc__law_pick (fun _ _ _ _ _ _ us hl => match us, hl with | [_, _], _ => rfl)
    (fun ds μ Q E h => by unfold sd__law_pick at h; repeat first | (obtain ⟨rfl, _⟩ := h; rfl) | (obtain ⟨_, h⟩ := h)) (fun cdv A outer s H E hr => rd__law_pick T D__law_take hr) pu__law_pick
  have D__law_shuffled : Def P w K mg base 3 "_law_shuffled" s__law_shuffled ["draw", "some"] sd__law_shuffled := def_ok (PySem.W.mg_of X G a__law_shuffled) (fun_mk (st := s__law_shuffled) l__law_shuffled c__law_shuffled k__law_shuffled) sc__law_shuffled (fun _ _ _ _ _ _ us hl => match us, hl with | [_, _], _ => rfl)
    (fun ds μ Q E h => by unfold sd__law_shuffled at h; repeat first | (obtain ⟨rfl, _⟩ := h; rfl) | (obtain ⟨_, h⟩ := h)) (fun cdv A outer s H E hr => rd__law_shuffled T D__law_take hr) pu__law_shuffled
  have D__law_back : Def P w K mg base 4 "_law_back" s__law_back ["draw"] sd__law_back := def_ok (PySem.W.mg_of X G a__law_back) (fun_mk (st := s__law_back) l__law_back c__law_back k__law_back) sc__law_back (fun _ _ _ _ _ _ us hl => match us, hl with | [_], _ => rfl)
    (fun ds μ Q E h => by unfold sd__law_back at h; repeat first | (obtain ⟨rfl, _⟩ := h; rfl) | (obtain ⟨_, h⟩ := h)) (fun cdv A outer s H E hr => rd__law_back T D__law_shuffled D__law_take hr) pu__law_back
  have D__law_word : Def P w K mg base 3 "_law_word" s__law_word ["draw", "back_here", "most"] sd__law_word := def_ok (PySem.W.mg_of X G a__law_word) (fun_mk (st := s__law_word) l__law_word c__law_word k__law_word) sc__law_word (fun _ _ _ _ _ _ us hl => match us, hl with | [_, _, _], _ => rfl)
    (fun ds μ Q E h => by unfold sd__law_word at h; repeat first | (obtain ⟨rfl, _⟩ := h; rfl) | (obtain ⟨_, h⟩ := h)) (fun cdv A outer s H E hr => rd__law_word T D__law_take hr) pu__law_word
  exact law_at (k := 7) (fun_mk (st := s_law) l_law c_law k_law) sc_law (fun s u => .of_eq rfl) ⟨rfl, by decide, by decide⟩ (fun cdv s H E hr => rd_law T D__law_back D__law_begun D__law_pick D__law_take D__law_word D_free D_least_of D_undone rfl hr) (fun ds μ Q QE h => pu_law ds μ Q QE h)
end K02
open PySem PySem.W PyProof.Rows
set_option maxHeartbeats 8000000 in
theorem PySem.Challenge.cw_gatewords_k02_whole_free_words_holds : PySem.Challenge.rw_gatewords_k02_whole_free_words.Holds := by
  w_on; o_law; k_head; (case hw => w_witness2)
  k_fill
  refine DL.walk_data (l := PySem.Challenge.rw_gatewords_k02_whole_free_words) rfl rfl (fun w h Y => PySem.W.kIn_of Y) ?F
  case F =>
    intro w mg fa h KX G hmg
    refine' K02.all_mk KX G hmg ?zb_abs ?zb_all ?zb_bool ?zb_int ?zb_isinstance ?zb_len ?zb_list ?zb_min ?zb_range ?zb_repr ?zb_sorted ?zb_tuple ?zc_LEAST_LETTERS ?zc_LONGEST_WORD ?zc_MOST_LETTERS ?zne_BadBack ?zxe_BadBack ?zke_BadBack ?zbe_BadBack ?zte_BadBack ?zne_BadWord ?zxe_BadWord ?zke_BadWord ?zbe_BadWord ?zte_BadWord ?a_is_number ?l_is_number ?c_is_number ?k_is_number ?a_is_between ?l_is_between ?c_is_between ?k_is_between ?a_is_back ?l_is_back ?c_is_back ?k_is_back ?a_need_back ?l_need_back ?c_need_back ?k_need_back ?a_is_letters ?l_is_letters ?c_is_letters ?k_is_letters ?a_is_word ?l_is_word ?c_is_word ?k_is_word ?a_need_word ?l_need_word ?c_need_word ?k_need_word ?a_free_of ?l_free_of ?c_free_of ?k_free_of ?a_free ?l_free ?c_free ?k_free ?a_undone_of ?l_undone_of ?c_undone_of ?k_undone_of ?a_undone ?l_undone ?c_undone ?k_undone ?a_key_of ?l_key_of ?c_key_of ?k_key_of ?a_least_of ?l_least_of ?c_least_of ?k_least_of ?a__law_begun ?l__law_begun ?c__law_begun ?k__law_begun ?a__law_mixed ?l__law_mixed ?c__law_mixed ?k__law_mixed ?a__law_take ?l__law_take ?c__law_take ?k__law_take ?a__law_pick ?l__law_pick ?c__law_pick ?k__law_pick ?a__law_shuffled ?l__law_shuffled ?c__law_shuffled ?k__law_shuffled ?a__law_back ?l__law_back ?c__law_back ?k__law_back ?a__law_word ?l__law_word ?c__law_word ?k__law_word ?a_law ?l_law ?c_law ?k_law
    (case zb_abs => k_is)
    (case zb_all => k_is)
    (case zb_bool => k_is)
    (case zb_int => k_is)
    (case zb_isinstance => k_is)
    (case zb_len => k_is)
    (case zb_list => k_is)
    (case zb_min => k_is)
    (case zb_range => k_is)
    (case zb_repr => k_is)
    (case zb_sorted => k_is)
    (case zb_tuple => k_is)
    (case zc_LEAST_LETTERS => k_is)
    (case zc_LONGEST_WORD => k_is)
    (case zc_MOST_LETTERS => k_is)
    (case zne_BadBack => k_is)
    (case zxe_BadBack => k_exc)
    (case zke_BadBack => k_is)
    (case zbe_BadBack => k_is)
    (case zte_BadBack => k_is)
    (case zne_BadWord => k_is)
    (case zxe_BadWord => k_exc)
    (case zke_BadWord => k_is)
    (case zbe_BadWord => k_is)
    (case zte_BadWord => k_is)
    (case a_is_number => k_is)
    (case l_is_number => k_is)
    (case c_is_number => k_is)
    (case k_is_number => k_is)
    (case a_is_between => k_is)
    (case l_is_between => k_is)
    (case c_is_between => k_is)
    (case k_is_between => k_is)
    (case a_is_back => k_is)
    (case l_is_back => k_is)
    (case c_is_back => k_is)
    (case k_is_back => k_is)
    (case a_need_back => k_is)
    (case l_need_back => k_is)
    (case c_need_back => k_is)
    (case k_need_back => k_is)
    (case a_is_letters => k_is)
    (case l_is_letters => k_is)
    (case c_is_letters => k_is)
    (case k_is_letters => k_is)
    (case a_is_word => k_is)
    (case l_is_word => k_is)
    (case c_is_word => k_is)
    (case k_is_word => k_is)
    (case a_need_word => k_is)
    (case l_need_word => k_is)
    (case c_need_word => k_is)
    (case k_need_word => k_is)
    (case a_free_of => k_is)
    (case l_free_of => k_is)
    (case c_free_of => k_is)
    (case k_free_of => k_is)
    (case a_free => k_is)
    (case l_free => k_is)
    (case c_free => k_is)
    (case k_free => k_is)
    (case a_undone_of => k_is)
    (case l_undone_of => k_is)
    (case c_undone_of => k_is)
    (case k_undone_of => k_is)
    (case a_undone => k_is)
    (case l_undone => k_is)
    (case c_undone => k_is)
    (case k_undone => k_is)
    (case a_key_of => k_is)
    (case l_key_of => k_is)
    (case c_key_of => k_is)
    (case k_key_of => k_is)
    (case a_least_of => k_is)
    (case l_least_of => k_is)
    (case c_least_of => k_is)
    (case k_least_of => k_is)
    (case a__law_begun => k_is)
    (case l__law_begun => k_is)
    (case c__law_begun => k_is)
    (case k__law_begun => k_is)
    (case a__law_mixed => k_is)
    (case l__law_mixed => k_is)
    (case c__law_mixed => k_is)
    (case k__law_mixed => k_is)
    (case a__law_take => k_is)
    (case l__law_take => k_is)
    (case c__law_take => k_is)
    (case k__law_take => k_is)
    (case a__law_pick => k_is)
    (case l__law_pick => k_is)
    (case c__law_pick => k_is)
    (case k__law_pick => k_is)
    (case a__law_shuffled => k_is)
    (case l__law_shuffled => k_is)
    (case c__law_shuffled => k_is)
    (case k__law_shuffled => k_is)
    (case a__law_back => k_is)
    (case l__law_back => k_is)
    (case c__law_back => k_is)
    (case k__law_back => k_is)
    (case a__law_word => k_is)
    (case l__law_word => k_is)
    (case c__law_word => k_is)
    (case k__law_word => k_is)
    (case a_law => k_is)
    (case l_law => k_is)
    (case c_law => k_is)
    (case k_law => k_is)
